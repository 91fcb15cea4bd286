/-
 Open, Append, Checkpoint, walked. Printed by a program of my own.
-/
import Derived.Test.YtkpdcajddpiknaaJn5
import Derived.Test.YtkpdcajddpiknaaSlC
namespace Go.Proofs
open Go Go.Sl Go.Jn
theorem fits_ok {k : KS} (h : k.okP) (hp : k.power ≤ 9223372036854775807) : k.fits 524288 := by
 unfold KS.okP at h
 exact ⟨by omega, by omega, by omega, hp⟩
theorem tf69 : cfB Try.prog 13 = true := by kernel_rfl
theorem tf70 : stB Try.prog 84 [(0, 1), (1, 5), (6, 1)] = true := by kernel_rfl
theorem tf71 : (Try.prog.info? 84).bind (·.zero) = some (.agg #[.pointer none, .int .i64 (0), .int .i64 (0), .slice none 0 0, .slice none 0 0, .int .i64 (0), .bool false]) := by kernel_rfl
theorem tf72 : (Try.prog.info? 43).bind (·.zero) = some (.pointer none) := by kernel_rfl
theorem tf73 : cfB Try.prog 51 = true := by kernel_rfl
theorem tf74 : cfB Try.prog 49 = true := by kernel_rfl
theorem tf75 : fldB Try.prog 84 1 1 5 true = true := by kernel_rfl
theorem tf76 : (Try.prog.info? 94).bind (·.zero) = some (.pointer none) := by kernel_rfl
theorem readC_ok (β : Base) (w : World) (hw : St β [] w) (k : KS) (vh va vb : Value) (hH : Sl U8R β.heap vh k.head) (hA : Sl U8R β.heap va k.a) (hB : Sl U8R β.heap vb k.b) (h : k.okP) (i : KI) (h2 : readI k = some i) : Calls Try.prog 13 #[.agg #[vh, va, vb, Ix k.power]] w fun r w' => ∃ ps pr cs cr, r = .returned (.tuple #[.agg #[Nx i.epoch, Nx i.next, sB ps i.state cs, sB pr i.recs cr, Nx i.size], .int .i64 0]) ∧ St β [rB ps i.state cs, recsR 30 pr cr i.recs] w' := by
 refine (read_ok β w hw k vh va vb hH hA hB).mono fun r w' hh => ?_
 rcases hh with ⟨_, b, _⟩ | ⟨_, _, b, _⟩ | ⟨j, _, b, hh⟩
 ·exact absurd h b
 ·rw [h2] at b; cases b
 rw [h2] at b; injection b with b; subst b; exact hh
theorem att_open_ok (β : Base) (w : World) (J S q6 q1 q4 : Nat) (k : KS) (i : KI) (vs vr : Value) (hk : k.fits 524288) (hc : cutOk (k.area i.epoch) k.power i.size) (hw : St β [pt J (.cells #[pp S 0, Nx (i.epoch), Nx (i.next), vs, vr, Nx (i.size), .bool false] 84), pt q6 (.cells #[pp J 0] 43), pt q1 (.cells #[pp S 0] 24), pt q4 (.cells #[Nx (i.epoch), Nx (i.next), vs, vr, Nx (i.size)] 36), storeR S k] w) : Calls Try.prog 51 #[pp J 0, .func (.func 73) #[] #[pp q6 0, pp q1 0, pp q4 0]] w fun r w' => r = .returned (.int .i64 0) ∧ St β [pt J (.cells #[pp S 0, Nx (i.epoch), Nx (i.next), vs, vr, Nx (i.size), .bool false] 84), pt q6 (.cells #[pp J 0] 43), pt q1 (.cells #[pp S 0] 24), pt q4 (.cells #[Nx (i.epoch), Nx (i.next), vs, vr, Nx (i.size)] 36), storeR S (cutS k i.epoch i.size)] w' := by
 refine (attempt_ok β w J 73 [pp q6 0, pp q1 0, pp q4 0] _ _ _ _ _ _ _ [pt q6 (.cells #[pp J 0] 43), pt q1 (.cells #[pp S 0] 24), pt q4 (.cells #[Nx (i.epoch), Nx (i.next), vs, vr, Nx (i.size)] 36), storeR S k] [pt q6 (.cells #[pp J 0] 43), pt q1 (.cells #[pp S 0] 24), pt q4 (.cells #[Nx (i.epoch), Nx (i.next), vs, vr, Nx (i.size)] 36), storeR S (cutS k i.epoch i.size)] [pt q6 (.cells #[pp J 0] 43), pt q1 (.cells #[pp S 0] 24), pt q4 (.cells #[Nx (i.epoch), Nx (i.next), vs, vr, Nx (i.size)] 36), storeR S k] (cutOk (k.area i.epoch) k.power i.size) (¬ (cutOk (k.area i.epoch) k.power i.size)) (by kernel_rfl) hw (fun β' sb w hw => open1_ok β' w J S q6 q1 q4 k i vs vr (.bool false) hk hw)).mono fun r w' hh => ?_
 rcases hh with ⟨a, b, c⟩ | ⟨a, b, c⟩
 ·exact ⟨a, c⟩
 exact absurd hc b
theorem att_open_no (β : Base) (w : World) (J S q6 q1 q4 : Nat) (k : KS) (i : KI) (vs vr : Value) (hk : k.fits 524288) (hc : ¬ (cutOk (k.area i.epoch) k.power i.size)) (hw : St β [pt J (.cells #[pp S 0, Nx (i.epoch), Nx (i.next), vs, vr, Nx (i.size), .bool false] 84), pt q6 (.cells #[pp J 0] 43), pt q1 (.cells #[pp S 0] 24), pt q4 (.cells #[Nx (i.epoch), Nx (i.next), vs, vr, Nx (i.size)] 36), storeR S k] w) : Calls Try.prog 51 #[pp J 0, .func (.func 73) #[] #[pp q6 0, pp q1 0, pp q4 0]] w fun r w' => r = .returned (.int .i64 310) ∧ St β [pt J (.cells #[pp S 0, Nx (i.epoch), Nx (i.next), vs, vr, Nx (i.size), .bool true] 84), pt q6 (.cells #[pp J 0] 43), pt q1 (.cells #[pp S 0] 24), pt q4 (.cells #[Nx (i.epoch), Nx (i.next), vs, vr, Nx (i.size)] 36), storeR S k] w' := by
 refine (attempt_ok β w J 73 [pp q6 0, pp q1 0, pp q4 0] _ _ _ _ _ _ _ [pt q6 (.cells #[pp J 0] 43), pt q1 (.cells #[pp S 0] 24), pt q4 (.cells #[Nx (i.epoch), Nx (i.next), vs, vr, Nx (i.size)] 36), storeR S k] [pt q6 (.cells #[pp J 0] 43), pt q1 (.cells #[pp S 0] 24), pt q4 (.cells #[Nx (i.epoch), Nx (i.next), vs, vr, Nx (i.size)] 36), storeR S (cutS k i.epoch i.size)] [pt q6 (.cells #[pp J 0] 43), pt q1 (.cells #[pp S 0] 24), pt q4 (.cells #[Nx (i.epoch), Nx (i.next), vs, vr, Nx (i.size)] 36), storeR S k] (cutOk (k.area i.epoch) k.power i.size) (¬ (cutOk (k.area i.epoch) k.power i.size)) (by kernel_rfl) hw (fun β' sb w hw => open1_ok β' w J S q6 q1 q4 k i vs vr (.bool false) hk hw)).mono fun r w' hh => ?_
 rcases hh with ⟨a, b, c⟩ | ⟨a, b, c⟩
 ·exact absurd b hc
 exact ⟨a, c⟩
theorem att_append_ok (β : Base) (w : World) (J S q2 q7 q8 cb : Nat) (pb : Option Addr) (k : KS) (i : KI) (vs vr : Value) (fb : Bs) (hk : k.fits 524288) (hb : fb.length ≤ 131072) (hsz : i.size ≤ 524288) (hc : wrOk k.power fb) (hw : St β [pt J (.cells #[pp S 0, Nx (i.epoch), Nx (i.next), vs, vr, Nx (i.size), .bool false] 84), pt q2 (.cells #[pp J 0] 43), pt q7 (.cells #[pp J 1] 94), pt q8 (.cells #[sB pb fb cb] 30), rB pb fb cb, storeR S k] w) : Calls Try.prog 51 #[pp J 0, .func (.func 52) #[] #[pp q2 0, pp q7 0, pp q8 0]] w fun r w' => r = .returned (.int .i64 0) ∧ St β [pt J (.cells #[pp S 0, Nx (i.epoch), Nx (i.next), vs, vr, Nx (i.size), .bool false] 84), pt q2 (.cells #[pp J 0] 43), pt q7 (.cells #[pp J 1] 94), pt q8 (.cells #[sB pb fb cb] 30), rB pb fb cb, storeR S (wrS k i.epoch i.size fb)] w' := by
 refine (attempt_ok β w J 52 [pp q2 0, pp q7 0, pp q8 0] _ _ _ _ _ _ _ [pt q2 (.cells #[pp J 0] 43), pt q7 (.cells #[pp J 1] 94), pt q8 (.cells #[sB pb fb cb] 30), rB pb fb cb, storeR S k] [pt q2 (.cells #[pp J 0] 43), pt q7 (.cells #[pp J 1] 94), pt q8 (.cells #[sB pb fb cb] 30), rB pb fb cb, storeR S (wrS k i.epoch i.size fb)] [pt q2 (.cells #[pp J 0] 43), pt q7 (.cells #[pp J 1] 94), pt q8 (.cells #[sB pb fb cb] 30), rB pb fb cb, storeR S (wrS k i.epoch i.size fb)] (wrOk k.power fb) (¬ (wrOk k.power fb)) (by kernel_rfl) hw (fun β' sb w hw => append1_ok β' w J S q2 q7 q8 cb pb k i vs vr (.bool false) fb hk hb hsz hw)).mono fun r w' hh => ?_
 rcases hh with ⟨a, b, c⟩ | ⟨a, b, c⟩
 ·exact ⟨a, c⟩
 exact absurd hc b
theorem att_append_no (β : Base) (w : World) (J S q2 q7 q8 cb : Nat) (pb : Option Addr) (k : KS) (i : KI) (vs vr : Value) (fb : Bs) (hk : k.fits 524288) (hb : fb.length ≤ 131072) (hsz : i.size ≤ 524288) (hc : ¬ (wrOk k.power fb)) (hw : St β [pt J (.cells #[pp S 0, Nx (i.epoch), Nx (i.next), vs, vr, Nx (i.size), .bool false] 84), pt q2 (.cells #[pp J 0] 43), pt q7 (.cells #[pp J 1] 94), pt q8 (.cells #[sB pb fb cb] 30), rB pb fb cb, storeR S k] w) : Calls Try.prog 51 #[pp J 0, .func (.func 52) #[] #[pp q2 0, pp q7 0, pp q8 0]] w fun r w' => r = .returned (.int .i64 310) ∧ St β [pt J (.cells #[pp S 0, Nx (i.epoch), Nx (i.next), vs, vr, Nx (i.size), .bool true] 84), pt q2 (.cells #[pp J 0] 43), pt q7 (.cells #[pp J 1] 94), pt q8 (.cells #[sB pb fb cb] 30), rB pb fb cb, storeR S (wrS k i.epoch i.size fb)] w' := by
 refine (attempt_ok β w J 52 [pp q2 0, pp q7 0, pp q8 0] _ _ _ _ _ _ _ [pt q2 (.cells #[pp J 0] 43), pt q7 (.cells #[pp J 1] 94), pt q8 (.cells #[sB pb fb cb] 30), rB pb fb cb, storeR S k] [pt q2 (.cells #[pp J 0] 43), pt q7 (.cells #[pp J 1] 94), pt q8 (.cells #[sB pb fb cb] 30), rB pb fb cb, storeR S (wrS k i.epoch i.size fb)] [pt q2 (.cells #[pp J 0] 43), pt q7 (.cells #[pp J 1] 94), pt q8 (.cells #[sB pb fb cb] 30), rB pb fb cb, storeR S (wrS k i.epoch i.size fb)] (wrOk k.power fb) (¬ (wrOk k.power fb)) (by kernel_rfl) hw (fun β' sb w hw => append1_ok β' w J S q2 q7 q8 cb pb k i vs vr (.bool false) fb hk hb hsz hw)).mono fun r w' hh => ?_
 rcases hh with ⟨a, b, c⟩ | ⟨a, b, c⟩
 ·exact absurd b hc
 exact ⟨a, c⟩
theorem att_check_ok (β : Base) (w : World) (J S q2 q6 q3 sc e n : Nat) (sa : Option Addr) (k : KS) (i : KI) (vs vr : Value) (ws wr_ wz : Value) (xs : Bs) (hl : xs.length ≤ sc) (hm : sc ≤ 9223372036854775807) (hx : Elems U8R β.heap sa xs) (hk : k.fits 524288) (hb : xs.length ≤ 65536) (hc : ckOk k e n xs) (hw : St β [pt J (.cells #[pp S 0, Nx (i.epoch), Nx (i.next), vs, vr, Nx (i.size), .bool false] 84), pt q2 (.cells #[pp J 0] 43), pt q6 (.cells #[Nx (e), Nx (n), ws, wr_, wz] 36), pt q3 (.cells #[sB sa xs (sc)] 30), storeR S k] w) : Calls Try.prog 51 #[pp J 0, .func (.func 55) #[] #[pp q2 0, pp q6 0, pp q3 0]] w fun r w' => r = .returned (.int .i64 0) ∧ St β [pt J (.cells #[pp S 0, Nx (i.epoch), Nx (i.next), vs, vr, Nx (i.size), .bool false] 84), pt q2 (.cells #[pp J 0] 43), pt q6 (.cells #[Nx (e), Nx (n), ws, wr_, wz] 36), pt q3 (.cells #[sB sa xs (sc)] 30), storeR S (ckS k e n xs)] w' := by
 refine (attempt_ok β w J 55 [pp q2 0, pp q6 0, pp q3 0] _ _ _ _ _ _ _ [pt q2 (.cells #[pp J 0] 43), pt q6 (.cells #[Nx (e), Nx (n), ws, wr_, wz] 36), pt q3 (.cells #[sB sa xs (sc)] 30), storeR S k] [pt q2 (.cells #[pp J 0] 43), pt q6 (.cells #[Nx (e), Nx (n), ws, wr_, wz] 36), pt q3 (.cells #[sB sa xs (sc)] 30), storeR S (ckS k e n xs)] [pt q2 (.cells #[pp J 0] 43), pt q6 (.cells #[Nx (e), Nx (n), ws, wr_, wz] 36), pt q3 (.cells #[sB sa xs (sc)] 30), storeR S (ckS k e n xs)] (ckOk k e n xs) (¬ (ckOk k e n xs)) (by kernel_rfl) hw (fun β' sb w hw => check2_ok β' w J S q2 q6 q3 sc e n sa k i vs vr (.bool false) ws wr_ wz xs hl hm (Elems.mono _ _ _ _ _ sb hx) hk hb hw)).mono fun r w' hh => ?_
 rcases hh with ⟨a, b, c⟩ | ⟨a, b, c⟩
 ·exact ⟨a, c⟩
 exact absurd hc b
theorem att_check_no (β : Base) (w : World) (J S q2 q6 q3 sc e n : Nat) (sa : Option Addr) (k : KS) (i : KI) (vs vr : Value) (ws wr_ wz : Value) (xs : Bs) (hl : xs.length ≤ sc) (hm : sc ≤ 9223372036854775807) (hx : Elems U8R β.heap sa xs) (hk : k.fits 524288) (hb : xs.length ≤ 65536) (hc : ¬ (ckOk k e n xs)) (hw : St β [pt J (.cells #[pp S 0, Nx (i.epoch), Nx (i.next), vs, vr, Nx (i.size), .bool false] 84), pt q2 (.cells #[pp J 0] 43), pt q6 (.cells #[Nx (e), Nx (n), ws, wr_, wz] 36), pt q3 (.cells #[sB sa xs (sc)] 30), storeR S k] w) : Calls Try.prog 51 #[pp J 0, .func (.func 55) #[] #[pp q2 0, pp q6 0, pp q3 0]] w fun r w' => r = .returned (.int .i64 310) ∧ St β [pt J (.cells #[pp S 0, Nx (i.epoch), Nx (i.next), vs, vr, Nx (i.size), .bool true] 84), pt q2 (.cells #[pp J 0] 43), pt q6 (.cells #[Nx (e), Nx (n), ws, wr_, wz] 36), pt q3 (.cells #[sB sa xs (sc)] 30), storeR S (ckS k e n xs)] w' := by
 refine (attempt_ok β w J 55 [pp q2 0, pp q6 0, pp q3 0] _ _ _ _ _ _ _ [pt q2 (.cells #[pp J 0] 43), pt q6 (.cells #[Nx (e), Nx (n), ws, wr_, wz] 36), pt q3 (.cells #[sB sa xs (sc)] 30), storeR S k] [pt q2 (.cells #[pp J 0] 43), pt q6 (.cells #[Nx (e), Nx (n), ws, wr_, wz] 36), pt q3 (.cells #[sB sa xs (sc)] 30), storeR S (ckS k e n xs)] [pt q2 (.cells #[pp J 0] 43), pt q6 (.cells #[Nx (e), Nx (n), ws, wr_, wz] 36), pt q3 (.cells #[sB sa xs (sc)] 30), storeR S (ckS k e n xs)] (ckOk k e n xs) (¬ (ckOk k e n xs)) (by kernel_rfl) hw (fun β' sb w hw => check2_ok β' w J S q2 q6 q3 sc e n sa k i vs vr (.bool false) ws wr_ wz xs hl hm (Elems.mono _ _ _ _ _ sb hx) hk hb hw)).mono fun r w' hh => ?_
 rcases hh with ⟨a, b, c⟩ | ⟨a, b, c⟩
 ·exact absurd b hc
 exact ⟨a, c⟩
set_option maxHeartbeats 4000000 in
theorem open_pow (β : Base) (w : World) (S : Nat) (k : KS) (hok : k.okP) (hpw : k.power ≤ 9223372036854775807) (i : KI) (hri : readI k = some i) (hcut : ¬ cutOk (k.area i.epoch) k.power i.size) (hw : St β [storeR S k] w) : Calls Try.prog 40 #[pp S 0] w fun r w' => r = .returned (.tuple #[.pointer none, .int .i64 310]) ∧ St β [storeR S k] w' := by
 have hfit : k.fits 524288 := fits_ok hok hpw
 refine enter (n := 31) Try.func40 rfl Try.ntmps40 rfl ?_ hw
 refine csr ?_
 refine l_mv rfl rfl rfl (m_box (v := pp S 0) rfl) ?_
 rintro _ _ ⟨b1, rfl, rfl⟩
 refine lv e_assign ?_
 refine lv e_assign ?_
 refine lnf ?_
 refine cs2 ?_
 refine c_region ?_
 refine lv (v := pp S 0) (e_load1 tf31 rfl (k_pt 0 rfl rfl)) ?_
 refine lv (v := .bool false) (e_eql_pnil (p := some (⟨S, 0, none⟩)) rfl rfl tf37) ?_
 refine lnf ?_
 refine c_no rfl ?_
 refine csk ?_
 refine c_seq ?_
 refine c_pi [1, 0] 2 rfl (by kernel_rfl) ?_
 refine c_openStore rfl (fun pH2 pA3 pB4 cH5 cA6 cB7 => ?_)
 refine c_region ?_
 refine lv (v := pp S 0) (e_load1 tf31 rfl (k_pt 4 rfl rfl)) ?_
 refine lv (v := pp S 0) (e_nil (a := ⟨S, 0, none⟩) rfl) ?_
 refine lv (v := .agg #[sB pH2 k.head cH5, sB pA3 k.a cA6, sB pB4 k.b cB7, Ix (k.power)]) (e_load tf56 rfl (k_pt 0 rfl rfl) rfl) ?_
 refine lcf (cl0 (vs := [.agg #[sB pH2 k.head cH5, sB pA3 k.a cA6, sB pB4 k.b cB7, Ix (k.power)]]) tf69 rfl rfl) rfl fun w β1 sb kn hw1 back => (readC_ok β1 w hw1 k _ _ _ (kU kn 1 rfl) (kU kn 2 rfl) (kU kn 3 rfl) hok i hri).mono ?_
 rintro e w' ⟨ps8, pr9, cs10, cr11, rfl, hw'⟩
 refine ⟨_, rfl, _, back _ _ hw', ?_⟩
 clear hw1 hw' back kn sb
 refine lv e_move ?_
 refine lv (v := .agg #[Nx (i.epoch), Nx (i.next), sB ps8 i.state cs10, sB pr9 i.recs cr11, Nx (i.size)]) (e_extract (vs := #[.agg #[Nx (i.epoch), Nx (i.next), sB ps8 i.state cs10, sB pr9 i.recs cr11, Nx (i.size)], .int .i64 (0)]) rfl rfl) ?_
 refine lv (v := .int .i64 (0)) (e_extract (vs := #[.agg #[Nx (i.epoch), Nx (i.next), sB ps8 i.state cs10, sB pr9 i.recs cr11, Nx (i.size)], .int .i64 (0)]) rfl rfl) ?_
 refine l_mv rfl rfl rfl (m_alloc tf55) ?_
 rintro _ _ ⟨b12, rfl, rfl⟩
 refine lu (m_store 0 tf59 (cs' := #[Nx (i.epoch), Nx (i.next), sB ps8 i.state cs10, sB pr9 i.recs cr11, Nx (i.size)]) rfl rfl rfl rfl rfl rfl rfl) ?_
 refine lv e_assign ?_
 refine lnf ?_
 refine cs2 ?_
 refine c_region ?_
 refine lv e_move ?_
 refine lv (v := .bool false) (e_neq (a := (0 : Int)) (b := (0 : Int)) rfl rfl) ?_
 refine lnf ?_
 refine c_no rfl ?_
 refine csk ?_
 refine csr ?_
 refine lv (v := pp S 0) (e_load1 tf31 rfl (k_pt 7 rfl rfl)) ?_
 refine lv (v := .agg #[Nx (i.epoch), Nx (i.next), sB ps8 i.state cs10, sB pr9 i.recs cr11, Nx (i.size)]) (e_load tf59 rfl (k_pt 0 rfl rfl) rfl) ?_
 refine lv (v := .agg #[pp S 0, Nx (i.epoch), Nx (i.next), sB ps8 i.state cs10, sB pr9 i.recs cr11, Nx (i.size), .bool false]) (e_build tf71 tf70 (vs := [(0, pp S 0), (1, .agg #[Nx (i.epoch), Nx (i.next), sB ps8 i.state cs10, sB pr9 i.recs cr11, Nx (i.size)])]) (cells := #[pp S 0, Nx (i.epoch), Nx (i.next), sB ps8 i.state cs10, sB pr9 i.recs cr11, Nx (i.size), .bool false]) rfl rfl) ?_
 refine l_mv rfl rfl rfl (m_box (v := .agg #[pp S 0, Nx (i.epoch), Nx (i.next), sB ps8 i.state cs10, sB pr9 i.recs cr11, Nx (i.size), .bool false]) rfl) ?_
 rintro _ _ ⟨b13, rfl, rfl⟩
 refine l_mv rfl rfl rfl (m_alloc tf72) ?_
 rintro _ _ ⟨b14, rfl, rfl⟩
 refine lu (m_store 0 tf43 (cs' := #[pp b13 0]) rfl rfl rfl rfl rfl rfl rfl) ?_
 refine lnf ?_
 refine cs2 ?_
 refine c_pi [5, 6, 7, 8, 0, 1, 2, 3, 4, 9] 10 rfl (by kernel_rfl) ?_
 refine c_closeStore (S := S) (k := k) (pH := pH2) (pA := pA3) (pB := pB4) (cH := cH5) (cA := cA6) (cB := cB7) (M := (pt b14 (.cells #[pp b13 0] 43) :: pt b13 (.cells #[pp S 0, Nx (i.epoch), Nx (i.next), sB ps8 i.state cs10, sB pr9 i.recs cr11, Nx (i.size), .bool false] 84) :: pt b12 (.cells #[Nx (i.epoch), Nx (i.next), sB ps8 i.state cs10, sB pr9 i.recs cr11, Nx (i.size)] 36) :: rB ps8 i.state cs10 :: recsR 30 pr9 cr11 i.recs :: pt b1 (.cells #[pp S 0] 24) :: [])) rfl ?_
 refine c_region ?_
 refine lv (v := pp b13 0) (e_load1 tf43 rfl (k_pt 1 rfl rfl)) ?_
 refine lv (v := .func (.func 73) #[] #[pp b14 0, pp b1 0, pp b12 0]) (e_func (u := []) (v := [pp b14 0, pp b1 0, pp b12 0]) rfl rfl) ?_
 refine l_call rfl rfl rfl (cl0 (vs := [pp b13 0, .func (.func 73) #[] #[pp b14 0, pp b1 0, pp b12 0]]) tf73 rfl rfl) ?_
 intro w hw
 replace hw := hw.perm (L' := _ :: _ :: _ :: _ :: _ :: _ :: _ :: []) (by exact (((((((perm_front 5 rfl).trans (perm_front 5 rfl)).trans (perm_front 2 rfl)).trans (perm_front 5 rfl)).trans (perm_front 6 rfl)).trans (perm_front 5 rfl)).trans (perm_front 6 rfl)))
 obtain ⟨β1, sb, kn, hw1, back⟩ := St.frame (L := [_, _, _, _, _]) (M := _ :: _ :: []) hw
 refine (att_open_no β1 w b13 S b14 b1 b12 k i (sB ps8 i.state cs10) (sB pr9 i.recs cr11) hfit hcut hw1).mono ?_
 rintro e w' ⟨rfl, hw'⟩
 refine ⟨_, rfl, _, back _ _ hw', ?_⟩
 clear hw hw1 hw' back kn sb
 refine lv e_assign ?_
 refine lnc ?_
 refine lv e_move ?_
 refine lv (v := .bool true) (e_neq (a := (310 : Int)) (b := (0 : Int)) rfl rfl) ?_
 refine lnf ?_
 refine c_yes rfl ?_
 refine csr ?_
 refine lv e_move ?_
 refine lv e_assign ?_
 refine lv e_assign ?_
 refine lnf ?_
 refine c_ret ?_
 refine f_then_ret ?_
 refine ret2 (v := .pointer none) (v' := .int .i64 (310)) Try.results40 rfl rfl ?_
 intro w hw
 exact ⟨rfl, st_mask [true, false, false, false, false, false, false] rfl (hw.perm (L' := [storeR S k, pt b13 (.cells #[pp S 0, Nx (i.epoch), Nx (i.next), sB ps8 i.state cs10, sB pr9 i.recs cr11, Nx (i.size), .bool true] 84), pt b14 (.cells #[pp b13 0] 43), pt b1 (.cells #[pp S 0] 24), pt b12 (.cells #[Nx (i.epoch), Nx (i.next), sB ps8 i.state cs10, sB pr9 i.recs cr11, Nx (i.size)] 36), rB ps8 i.state cs10, recsR 30 pr9 cr11 i.recs]) (by exact (perm_ix [4, 0, 1, 2, 3, 5, 6] 7 rfl (by kernel_rfl) (by kernel_rfl))))⟩
set_option maxHeartbeats 4000000 in
theorem open_ok (β : Base) (w : World) (S : Nat) (k : KS) (hok : k.okP) (hpw : k.power ≤ 9223372036854775807) (i : KI) (hri : readI k = some i) (hcut : cutOk (k.area i.epoch) k.power i.size) (hw : St β [storeR S k] w) : Calls Try.prog 40 #[pp S 0] w fun r w' => ∃ J, r = .returned (.tuple #[pp J 0, .int .i64 0]) ∧ St β [jourR J S i false, storeR S (cutS k i.epoch i.size)] w' := by
 have hfit : k.fits 524288 := fits_ok hok hpw
 refine enter (n := 31) Try.func40 rfl Try.ntmps40 rfl ?_ hw
 refine csr ?_
 refine l_mv rfl rfl rfl (m_box (v := pp S 0) rfl) ?_
 rintro _ _ ⟨b1, rfl, rfl⟩
 refine lv e_assign ?_
 refine lv e_assign ?_
 refine lnf ?_
 refine cs2 ?_
 refine c_region ?_
 refine lv (v := pp S 0) (e_load1 tf31 rfl (k_pt 0 rfl rfl)) ?_
 refine lv (v := .bool false) (e_eql_pnil (p := some (⟨S, 0, none⟩)) rfl rfl tf37) ?_
 refine lnf ?_
 refine c_no rfl ?_
 refine csk ?_
 refine c_seq ?_
 refine c_pi [1, 0] 2 rfl (by kernel_rfl) ?_
 refine c_openStore rfl (fun pH2 pA3 pB4 cH5 cA6 cB7 => ?_)
 refine c_region ?_
 refine lv (v := pp S 0) (e_load1 tf31 rfl (k_pt 4 rfl rfl)) ?_
 refine lv (v := pp S 0) (e_nil (a := ⟨S, 0, none⟩) rfl) ?_
 refine lv (v := .agg #[sB pH2 k.head cH5, sB pA3 k.a cA6, sB pB4 k.b cB7, Ix (k.power)]) (e_load tf56 rfl (k_pt 0 rfl rfl) rfl) ?_
 refine lcf (cl0 (vs := [.agg #[sB pH2 k.head cH5, sB pA3 k.a cA6, sB pB4 k.b cB7, Ix (k.power)]]) tf69 rfl rfl) rfl fun w β1 sb kn hw1 back => (readC_ok β1 w hw1 k _ _ _ (kU kn 1 rfl) (kU kn 2 rfl) (kU kn 3 rfl) hok i hri).mono ?_
 rintro e w' ⟨ps8, pr9, cs10, cr11, rfl, hw'⟩
 refine ⟨_, rfl, _, back _ _ hw', ?_⟩
 clear hw1 hw' back kn sb
 refine lv e_move ?_
 refine lv (v := .agg #[Nx (i.epoch), Nx (i.next), sB ps8 i.state cs10, sB pr9 i.recs cr11, Nx (i.size)]) (e_extract (vs := #[.agg #[Nx (i.epoch), Nx (i.next), sB ps8 i.state cs10, sB pr9 i.recs cr11, Nx (i.size)], .int .i64 (0)]) rfl rfl) ?_
 refine lv (v := .int .i64 (0)) (e_extract (vs := #[.agg #[Nx (i.epoch), Nx (i.next), sB ps8 i.state cs10, sB pr9 i.recs cr11, Nx (i.size)], .int .i64 (0)]) rfl rfl) ?_
 refine l_mv rfl rfl rfl (m_alloc tf55) ?_
 rintro _ _ ⟨b12, rfl, rfl⟩
 refine lu (m_store 0 tf59 (cs' := #[Nx (i.epoch), Nx (i.next), sB ps8 i.state cs10, sB pr9 i.recs cr11, Nx (i.size)]) rfl rfl rfl rfl rfl rfl rfl) ?_
 refine lv e_assign ?_
 refine lnf ?_
 refine cs2 ?_
 refine c_region ?_
 refine lv e_move ?_
 refine lv (v := .bool false) (e_neq (a := (0 : Int)) (b := (0 : Int)) rfl rfl) ?_
 refine lnf ?_
 refine c_no rfl ?_
 refine csk ?_
 refine csr ?_
 refine lv (v := pp S 0) (e_load1 tf31 rfl (k_pt 7 rfl rfl)) ?_
 refine lv (v := .agg #[Nx (i.epoch), Nx (i.next), sB ps8 i.state cs10, sB pr9 i.recs cr11, Nx (i.size)]) (e_load tf59 rfl (k_pt 0 rfl rfl) rfl) ?_
 refine lv (v := .agg #[pp S 0, Nx (i.epoch), Nx (i.next), sB ps8 i.state cs10, sB pr9 i.recs cr11, Nx (i.size), .bool false]) (e_build tf71 tf70 (vs := [(0, pp S 0), (1, .agg #[Nx (i.epoch), Nx (i.next), sB ps8 i.state cs10, sB pr9 i.recs cr11, Nx (i.size)])]) (cells := #[pp S 0, Nx (i.epoch), Nx (i.next), sB ps8 i.state cs10, sB pr9 i.recs cr11, Nx (i.size), .bool false]) rfl rfl) ?_
 refine l_mv rfl rfl rfl (m_box (v := .agg #[pp S 0, Nx (i.epoch), Nx (i.next), sB ps8 i.state cs10, sB pr9 i.recs cr11, Nx (i.size), .bool false]) rfl) ?_
 rintro _ _ ⟨b13, rfl, rfl⟩
 refine l_mv rfl rfl rfl (m_alloc tf72) ?_
 rintro _ _ ⟨b14, rfl, rfl⟩
 refine lu (m_store 0 tf43 (cs' := #[pp b13 0]) rfl rfl rfl rfl rfl rfl rfl) ?_
 refine lnf ?_
 refine cs2 ?_
 refine c_pi [5, 6, 7, 8, 0, 1, 2, 3, 4, 9] 10 rfl (by kernel_rfl) ?_
 refine c_closeStore (S := S) (k := k) (pH := pH2) (pA := pA3) (pB := pB4) (cH := cH5) (cA := cA6) (cB := cB7) (M := (pt b14 (.cells #[pp b13 0] 43) :: pt b13 (.cells #[pp S 0, Nx (i.epoch), Nx (i.next), sB ps8 i.state cs10, sB pr9 i.recs cr11, Nx (i.size), .bool false] 84) :: pt b12 (.cells #[Nx (i.epoch), Nx (i.next), sB ps8 i.state cs10, sB pr9 i.recs cr11, Nx (i.size)] 36) :: rB ps8 i.state cs10 :: recsR 30 pr9 cr11 i.recs :: pt b1 (.cells #[pp S 0] 24) :: [])) rfl ?_
 refine c_region ?_
 refine lv (v := pp b13 0) (e_load1 tf43 rfl (k_pt 1 rfl rfl)) ?_
 refine lv (v := .func (.func 73) #[] #[pp b14 0, pp b1 0, pp b12 0]) (e_func (u := []) (v := [pp b14 0, pp b1 0, pp b12 0]) rfl rfl) ?_
 refine l_call rfl rfl rfl (cl0 (vs := [pp b13 0, .func (.func 73) #[] #[pp b14 0, pp b1 0, pp b12 0]]) tf73 rfl rfl) ?_
 intro w hw
 replace hw := hw.perm (L' := _ :: _ :: _ :: _ :: _ :: _ :: _ :: []) (by exact (((((((perm_front 5 rfl).trans (perm_front 5 rfl)).trans (perm_front 2 rfl)).trans (perm_front 5 rfl)).trans (perm_front 6 rfl)).trans (perm_front 5 rfl)).trans (perm_front 6 rfl)))
 obtain ⟨β1, sb, kn, hw1, back⟩ := St.frame (L := [_, _, _, _, _]) (M := _ :: _ :: []) hw
 refine (att_open_ok β1 w b13 S b14 b1 b12 k i (sB ps8 i.state cs10) (sB pr9 i.recs cr11) hfit hcut hw1).mono ?_
 rintro e w' ⟨rfl, hw'⟩
 refine ⟨_, rfl, _, back _ _ hw', ?_⟩
 clear hw hw1 hw' back kn sb
 refine lv e_assign ?_
 refine lnc ?_
 refine lv e_move ?_
 refine lv (v := .bool false) (e_neq (a := (0 : Int)) (b := (0 : Int)) rfl rfl) ?_
 refine lnf ?_
 refine c_no rfl ?_
 refine csk ?_
 refine csr ?_
 refine lv (v := pp b13 0) (e_load1 tf43 rfl (k_pt 1 rfl rfl)) ?_
 refine lv e_assign ?_
 refine lv e_assign ?_
 refine lnf ?_
 refine c_ret ?_
 refine ret2 (v := pp b13 0) (v' := .int .i64 (0)) Try.results40 rfl rfl ?_
 intro w hw
 exact ⟨_, rfl, St.closeJour (i := i) (dn := false) (M := [storeR S (cutS k i.epoch i.size)]) (st_mask [true, true, true, true, false, false, false] rfl (hw.perm (L' := [pt b13 (.cells #[pp S 0, Nx (i.epoch), Nx (i.next), sB ps8 i.state cs10, sB pr9 i.recs cr11, Nx (i.size), .bool false] 84), rB ps8 i.state cs10, recsR 30 pr9 cr11 i.recs, storeR S (cutS k i.epoch i.size), pt b14 (.cells #[pp b13 0] 43), pt b1 (.cells #[pp S 0] 24), pt b12 (.cells #[Nx (i.epoch), Nx (i.next), sB ps8 i.state cs10, sB pr9 i.recs cr11, Nx (i.size)] 36)]) (by exact (perm_ix [0, 5, 6, 4, 1, 2, 3] 7 rfl (by kernel_rfl) (by kernel_rfl)))))⟩
theorem ready_c (β : Base) (w : World) (hw : St β [] w) (J S : Nat) (x1 x2 x3 x4 x5 : Value) (dn : Bool) (hJ : Cs β.heap ⟨J, 0, none⟩ [pp S 0, x1, x2, x3, x4, x5, .bool (dn)]) (bs : Bs) (v : Value) (hs : Sl U8R β.heap v bs) (c : Int) (hc : readyE dn bs = c) : Calls Try.prog 49 #[pp J 0, v] w fun r w' => r = .returned (.int .i64 c) ∧ St β [] w' := by
 subst hc
 exact ready_ok β w hw J S x1 x2 x3 x4 x5 dn hJ bs v hs
theorem append_down (β : Base) (w : World) (J S : Nat) (k : KS) (i : KI) (bs : Bs) (hlong : bs.length ≤ 65536) (v : Value) (hs : Sl U8R β.heap v bs) (hw : St β [jourR J S i true] w) : Calls Try.prog 17 #[pp J 0, v] w fun r w' => r = .returned (.tuple #[.int .i64 0, .int .i64 310]) ∧ St β [jourR J S i true] w' := by
 obtain ⟨va, vc, rfl, vl, vm, ve⟩ := hs.get
 obtain ⟨ps, pr, cs, cr, hw⟩ := St.openJour hw
 refine enter (n := 83) Try.func17 rfl Try.ntmps17 rfl ?_ hw
 refine csr ?_
 refine l_mv rfl rfl rfl (m_box (v := pp J 0) rfl) ?_
 rintro _ _ ⟨b1, rfl, rfl⟩
 refine lv e_assign ?_
 refine lv e_assign ?_
 refine lnf ?_
 refine cs2 ?_
 refine c_region ?_
 refine lv (v := pp J 0) (e_load1 tf43 rfl (k_pt 0 rfl rfl)) ?_
 refine lv e_move ?_
 refine lcf (cl0 (vs := [pp J 0, sB va bs (vc)]) tf74 rfl rfl) rfl fun w β1 sb kn hw1 back => (ready_c β1 w hw1 J S (Nx (i.epoch)) (Nx (i.next)) (sB ps i.state cs) (sB pr i.recs cr) (Nx (i.size)) true (kn _ (k_pt 1 rfl rfl)) bs _ (Sl.mono _ _ _ _ _ sb (⟨⟨_, _, rfl, vl, vm, ve⟩⟩ : Sl U8R _ _ bs)) (310) ((if_neg (by omega)).trans (if_pos rfl))).mono ?_
 rintro e w' ⟨rfl, hw'⟩
 refine ⟨_, rfl, _, back _ _ hw', ?_⟩
 clear hw1 hw' back kn sb
 refine lv e_assign ?_
 refine lnc ?_
 refine lv e_move ?_
 refine lv (v := .bool true) (e_neq (a := (310 : Int)) (b := (0 : Int)) rfl rfl) ?_
 refine lnf ?_
 refine c_yes rfl ?_
 refine csr ?_
 refine lv e_move ?_
 refine lv e_assign ?_
 refine lv e_assign ?_
 refine lnf ?_
 refine c_ret ?_
 refine f_then_ret ?_
 refine ret2 (v := .int .i64 (0)) (v' := .int .i64 (310)) Try.results17 rfl rfl ?_
 intro w hw
 exact ⟨rfl, St.closeJour (i := i) (dn := true) (M := []) (st_mask [true, true, true, false] rfl (hw.perm (L' := [pt J (.cells #[pp S 0, Nx (i.epoch), Nx (i.next), sB ps i.state cs, sB pr i.recs cr, Nx (i.size), .bool true] 84), rB ps i.state cs, recsR 30 pr cr i.recs, pt b1 (.cells #[pp J 0] 43)]) (by exact (perm_ix [1, 2, 3, 0] 4 rfl (by kernel_rfl) (by kernel_rfl)))))⟩
set_option maxHeartbeats 4000000 in
theorem append_fail (β : Base) (w : World) (J S : Nat) (k : KS) (i : KI) (bs : Bs) (hlong : bs.length ≤ 65536) (hfit : k.fits 524288) (hnl : i.next ≤ 4611686018427387904) (hsz : i.size ≤ 262144) (hrl : i.recs.length ≤ 1048576) (hful : i.size + 24 + bs.length ≤ 262144) (hnm : i.next ≠ 4611686018427387904) (hc : ¬ apOk k i bs) (v : Value) (hs : Sl U8R β.heap v bs) (hw : St β [jourR J S i false, storeR S k] w) : Calls Try.prog 17 #[pp J 0, v] w fun r w' => r = .returned (.tuple #[.int .i64 0, .int .i64 310]) ∧ St β [jourR J S i true, storeR S (apS k i bs)] w' := by
 obtain ⟨va, vc, rfl, vl, vm, ve⟩ := hs.get
 obtain ⟨ps, pr, cs, cr, hw⟩ := St.openJour hw
 refine enter (n := 83) Try.func17 rfl Try.ntmps17 rfl ?_ hw
 refine csr ?_
 refine l_mv rfl rfl rfl (m_box (v := pp J 0) rfl) ?_
 rintro _ _ ⟨b1, rfl, rfl⟩
 refine lv e_assign ?_
 refine lv e_assign ?_
 refine lnf ?_
 refine cs2 ?_
 refine c_region ?_
 refine lv (v := pp J 0) (e_load1 tf43 rfl (k_pt 0 rfl rfl)) ?_
 refine lv e_move ?_
 refine lcf (cl0 (vs := [pp J 0, sB va bs (vc)]) tf74 rfl rfl) rfl fun w β1 sb kn hw1 back => (ready_c β1 w hw1 J S (Nx (i.epoch)) (Nx (i.next)) (sB ps i.state cs) (sB pr i.recs cr) (Nx (i.size)) false (kn _ (k_pt 1 rfl rfl)) bs _ (Sl.mono _ _ _ _ _ sb (⟨⟨_, _, rfl, vl, vm, ve⟩⟩ : Sl U8R _ _ bs)) (0) ((if_neg (by omega)).trans (if_neg (by decide)))).mono ?_
 rintro e w' ⟨rfl, hw'⟩
 refine ⟨_, rfl, _, back _ _ hw', ?_⟩
 clear hw1 hw' back kn sb
 refine lv e_assign ?_
 refine lnc ?_
 refine lv e_move ?_
 refine lv (v := .bool false) (e_neq (a := (0 : Int)) (b := (0 : Int)) rfl rfl) ?_
 refine lnf ?_
 refine c_no rfl ?_
 refine csk ?_
 refine csr ?_
 refine lv (v := pp J 0) (e_load1 tf43 rfl (k_pt 0 rfl rfl)) ?_
 refine lv (v := pp J 0) (e_nil (a := ⟨J, 0, none⟩) rfl) ?_
 refine lv (e_fieldPt rfl tf75) ?_
 refine l_mv rfl rfl rfl (m_alloc tf76) ?_
 rintro _ _ ⟨b2, rfl, rfl⟩
 refine lu (m_store 0 tf47 (cs' := #[pp J 1]) rfl rfl rfl rfl rfl rfl rfl) ?_
 refine lnf ?_
 refine cs2 ?_
 refine c_region ?_
 refine lv (v := pp J 1) (e_load1 tf47 rfl (k_pt 0 rfl rfl)) ?_
 refine lv (v := pp J 1) (e_nil (a := ⟨J, 1, none⟩) rfl) ?_
 refine lv (e_fieldPt rfl tf50) ?_
 refine lv (v := Nx (i.size)) (e_load1 tf25 rfl (k_pt 2 rfl rfl)) ?_
 refine lv (v := Nx (i.size + 24)) (e_add (a := ((i.size : Nat) : Int)) (b := (24 : Int)) rfl rfl (i64n (by omega) (by omega))) ?_
 refine lv e_move ?_
 refine lv (v := Nx (bs.length)) (e_len (a := va) (n := bs.length) (c := vc) rfl tf11) ?_
 refine lv (v := Nx ((i.size + 24) + bs.length)) (e_add (a := ((i.size + 24 : Nat) : Int)) (b := ((bs.length : Nat) : Int)) rfl rfl (i64n (by omega) (by omega))) ?_
 refine lv (e_gtr (a := (((i.size + 24) + bs.length : Nat) : Int)) (b := (262144 : Int)) rfl rfl) ?_
 refine lv e_move ?_
 refine l_split (s := 28) (p := (262144 : Int) < (((i.size + 24) + bs.length : Nat) : Int)) rfl (fun h => ?_) (fun h => ?_)
 exact absurd h (by omega)
 refine g_val (v := pp J 1) rfl rfl rfl rfl rfl (e_load1 tf47 rfl (k_pt 0 rfl rfl)) ?_
 refine g_val (v := pp J 1) rfl rfl rfl rfl rfl (e_nil (a := ⟨J, 1, none⟩) rfl) ?_
 refine g_val (v := pp J 2) rfl rfl rfl rfl rfl (e_fieldPt rfl tf53) ?_
 refine g_val (v := Nx (i.next)) rfl rfl rfl rfl rfl (e_load1 tf25 rfl (k_pt 2 rfl rfl)) ?_
 refine g_val rfl rfl rfl rfl rfl (e_eql (a := ((i.next : Nat) : Int)) (b := (4611686018427387904 : Int)) rfl rfl) ?_
 refine lv (v := .bool (decide (((i.next : Nat) : Int) = (4611686018427387904 : Int)))) (e_pick_f rfl) ?_
 refine lnf ?_
 refine c_if (((i.next : Nat) : Int) = (4611686018427387904 : Int)) rfl (fun hc3 => ?_) (fun hc3 => ?_)
 ·exact absurd hc3 (by omega)
 refine csk ?_
 refine c_seq ?_
 refine c_any [⟨[], [], [0], [35], fun f => f 35 = pp J 1⟩, ⟨[0], [0], [], [36], fun f => f 36 = pp J 1⟩, ⟨[0, 1], [1], [], [37], fun f => f 37 = pp J 1⟩, ⟨[0, 1, 2], [2], [], [38], fun f => f 38 = Nx (i.epoch)⟩, ⟨[], [], [0], [39], fun f => f 39 = pp J 1⟩, ⟨[4], [4], [], [40], fun f => f 40 = pp J 1⟩, ⟨[4, 5], [5], [], [41], fun f => f 41 = pp J 2⟩, ⟨[4, 5, 6], [6], [], [42], fun f => f 42 = Nx (i.next)⟩, ⟨[], [], [1], [43], fun f => f 43 = sB va bs (vc)⟩, ⟨(List.range 9), [3, 7, 8], [], [44], fun f => f 44 = sB (sla (f 44)) (formB ((i.epoch : Nat) : Int) ((i.next : Nat) : Int) bs) (slc (f 44))⟩, ⟨[], [], [], [8], fun f => f 8 = .pointer (some ⟨(blk (f 8)), 0, none⟩)⟩, ⟨(List.range 11), [10, 9], [], [], fun _ => True⟩] [⟨none, none, [0, 4], [], fun _ => pt b2 (.cells #[pp J 1] 94)⟩, ⟨none, none, [], [], fun _ => pt b1 (.cells #[pp J 0] 43)⟩, ⟨none, none, [3, 7], [], fun _ => pt J (.cells #[pp S 0, Nx (i.epoch), Nx (i.next), sB ps i.state cs, sB pr i.recs cr, Nx (i.size), .bool false] 84)⟩, ⟨none, none, [], [], fun _ => rB ps i.state cs⟩, ⟨none, none, [], [], fun _ => recsR 30 pr cr i.recs⟩, ⟨none, none, [], [], fun _ => storeR S k⟩, ⟨(some 9), none, [], [44], fun f => rB (sla (f 44)) (formB ((i.epoch : Nat) : Int) ((i.next : Nat) : Int) bs) (slc (f 44))⟩, ⟨(some 10), (some 11), [11], [8], fun f => pt (blk (f 8)) (.cells #[.slice none 0 0] 30)⟩, ⟨(some 11), none, [], [8, 44], fun f => pt (blk (f 8)) (.cells #[sB (sla (f 44)) (formB ((i.epoch : Nat) : Int) ((i.next : Nat) : Int) bs) (slc (f 44))] 30)⟩] [(7, pp b2 0), (1, sB va bs (vc)), (2, pp b1 0)] [1, 2, 0] [] (by kernel_rfl) (by kernel_rfl) (by kernel_rfl) (by kernel_rfl) rfl ⟨rfl, rfl, rfl, trivial⟩ ⟨?_, ?_, ?_, ?_, ?_, ?_, ?_, ?_, ?_, ?_, ?_, ?_, trivial⟩ ?_
 ·rintro f M - ⟨i0, -⟩
  exact obv (L' := pt b2 (.cells #[pp J 1] 94) :: M) (up_cons (d := 7) rfl i0) rfl (e_load1 tf47 rfl (k_pt 0 rfl rfl)) (perm_front 0 rfl) (by rfl)
 ·rintro f M ⟨k0, -⟩ -
  exact ob0 (up_cons (d := 35) rfl k0) rfl (e_nil (a := ⟨J, 1, none⟩) rfl) (.refl _)
 ·rintro f M ⟨k0, -⟩ -
  exact ob0 (up_cons (d := 36) rfl k0) rfl (e_fieldPt rfl tf48) (.refl _)
 ·rintro f M ⟨k0, -⟩ -
  exact obv (L' := pt J (.cells #[pp S 0, Nx (i.epoch), Nx (i.next), sB ps i.state cs, sB pr i.recs cr, Nx (i.size), .bool false] 84) :: M) (up_cons (d := 37) rfl k0) rfl (e_load1 tf25 rfl (k_pt 0 rfl rfl)) (perm_front 0 rfl) (by rfl)
 ·rintro f M - ⟨i0, -⟩
  exact obv (L' := pt b2 (.cells #[pp J 1] 94) :: M) (up_cons (d := 7) rfl i0) rfl (e_load1 tf47 rfl (k_pt 0 rfl rfl)) (perm_front 0 rfl) (by rfl)
 ·rintro f M ⟨k0, -⟩ -
  exact ob0 (up_cons (d := 39) rfl k0) rfl (e_nil (a := ⟨J, 1, none⟩) rfl) (.refl _)
 ·rintro f M ⟨k0, -⟩ -
  exact ob0 (up_cons (d := 40) rfl k0) rfl (e_fieldPt rfl tf53) (.refl _)
 ·rintro f M ⟨k0, -⟩ -
  exact obv (L' := pt J (.cells #[pp S 0, Nx (i.epoch), Nx (i.next), sB ps i.state cs, sB pr i.recs cr, Nx (i.size), .bool false] 84) :: M) (up_cons (d := 41) rfl k0) rfl (e_load1 tf25 rfl (k_pt 0 rfl rfl)) (perm_front 0 rfl) (by rfl)
 ·rintro f M - ⟨i0, -⟩
  exact ob0 (up_cons (d := 1) rfl i0) rfl e_move (.refl _)
 ·rintro f M ⟨k0, k1, k2, -⟩ -
  refine ob_start (L' := M) (by rfl) (up_cons (d := 43) (up_cons (d := 42) (up_cons (d := 38) rfl k0) k1) k2) ?_
  refine lcf (cl0 (vs := [Nx (i.epoch), Nx (i.next), sB va bs (vc)]) tf54 rfl rfl) rfl fun w β1 sb kn hw1 back => (form_ok β1 w hw1 ((i.epoch : Nat) : Int) ((i.next : Nat) : Int) bs _ (by omega) (Sl.mono _ _ _ _ _ sb (⟨⟨_, _, rfl, vl, vm, ve⟩⟩ : Sl U8R _ _ bs))).mono ?_
  rintro e w' ⟨p6, c7, rfl, hw'⟩
  refine ⟨_, rfl, _, back _ _ hw', ?_⟩
  clear hw1 hw' back kn sb
  refine l_nil ?_
  exact f_owes_d (up_cons (d := 43) (up_cons (d := 42) (up_cons (d := 38) rfl k0) k1) k2) rfl (perm_front 0 rfl)
 ·rintro f M - -
  refine ob_start (L' := M) (by rfl) rfl ?_
  refine l_mv rfl rfl rfl (m_alloc tf67) ?_
  rintro _ _ ⟨b9, rfl, rfl⟩
  refine l_nil ?_
  exact f_owes_d rfl rfl (perm_front 0 rfl)
 ·rintro f M ⟨k0, k1, -⟩ -
  have hs8 : f 8 = .pointer (some ⟨(blk (f 8)), 0, none⟩) := k0
  have hs44 : f 44 = sB (sla (f 44)) (formB ((i.epoch : Nat) : Int) ((i.next : Nat) : Int) bs) (slc (f 44)) := k1
  refine ob_start (L' := pt (blk (f 8)) (.cells #[.slice none 0 0] 30) :: M) (by rfl) (up_cons (up_cons rfl hs8) hs44) ?_
  refine lu (m_store 0 tf21 (cs' := #[sB (sla (f 44)) (formB ((i.epoch : Nat) : Int) ((i.next : Nat) : Int) bs) (slc (f 44))]) rfl rfl rfl rfl rfl rfl rfl) ?_
  refine l_nil ?_
  exact f_owes_n (up_cons (up_cons rfl hs8) hs44) trivial (perm_front 0 rfl)
 rintro fa10 ⟨-, -, -, -, -, -, -, -, -, -, k10, -, -⟩ ⟨j0, j1, j2, -⟩
 refine f_re (L' := [pt b2 (.cells #[pp J 1] 94), pt b1 (.cells #[pp J 0] 43), pt J (.cells #[pp S 0, Nx (i.epoch), Nx (i.next), sB ps i.state cs, sB pr i.recs cr, Nx (i.size), .bool false] 84), rB ps i.state cs, recsR 30 pr cr i.recs, storeR S k, rB (sla (fa10 44)) (formB ((i.epoch : Nat) : Int) ((i.next : Nat) : Int) bs) (slc (fa10 44)), pt (blk (fa10 8)) (.cells #[sB (sla (fa10 44)) (formB ((i.epoch : Nat) : Int) ((i.next : Nat) : Int) bs) (slc (fa10 44))] 30)]) (by rfl) ?_
 refine f_rebase (d := 1) j0 ?_
 refine f_rebase (d := 2) j1 ?_
 refine f_rebase (d := 7) j2 ?_
 refine f_rebase (d := 8) k10 ?_
 refine fts ?_
 refine csr ?_
 refine lv (v := pp J 0) (e_load1 tf43 rfl (k_pt 1 rfl rfl)) ?_
 refine lv (v := .func (.func 52) #[] #[pp b1 0, pp b2 0, .pointer (some ⟨(blk (fa10 8)), 0, none⟩)]) (e_func (u := []) (v := [pp b1 0, pp b2 0, .pointer (some ⟨(blk (fa10 8)), 0, none⟩)]) rfl rfl) ?_
 refine l_call rfl rfl rfl (cl0 (vs := [pp J 0, .func (.func 52) #[] #[pp b1 0, pp b2 0, .pointer (some ⟨(blk (fa10 8)), 0, none⟩)]]) tf73 rfl rfl) ?_
 intro w hw
 replace hw := hw.perm (L' := _ :: _ :: _ :: _ :: _ :: _ :: _ :: _ :: []) (by exact ((((((((perm_front 4 rfl).trans (perm_front 4 rfl)).trans (perm_front 5 rfl)).trans (perm_front 6 rfl)).trans (perm_front 7 rfl)).trans (perm_front 5 rfl)).trans (perm_front 6 rfl)).trans (perm_front 7 rfl)))
 obtain ⟨β1, sb, kn, hw1, back⟩ := St.frame (L := [_, _, _, _, _, _]) (M := _ :: _ :: []) hw
 refine (att_append_no β1 w J S b1 b2 (blk (fa10 8)) (slc (fa10 44)) (sla (fa10 44)) k i (sB ps i.state cs) (sB pr i.recs cr) (formB ((i.epoch : Nat) : Int) ((i.next : Nat) : Int) bs) hfit (by rw [formB_length]; omega) (by omega) hc hw1).mono ?_
 rintro e w' ⟨rfl, hw'⟩
 refine ⟨_, rfl, _, back _ _ hw', ?_⟩
 clear hw hw1 hw' back kn sb
 refine lv e_assign ?_
 refine lnc ?_
 refine lv e_move ?_
 refine lv (v := .bool true) (e_neq (a := (310 : Int)) (b := (0 : Int)) rfl rfl) ?_
 refine lnf ?_
 refine c_yes rfl ?_
 refine csr ?_
 refine lv e_move ?_
 refine lv e_assign ?_
 refine lv e_assign ?_
 refine lnf ?_
 refine c_ret ?_
 refine f_then_ret ?_
 refine ret2 (v := .int .i64 (0)) (v' := .int .i64 (310)) Try.results17 rfl rfl ?_
 intro w hw
 exact ⟨rfl, St.closeJour (i := i) (dn := true) (M := [storeR S (wrS k i.epoch i.size (formB ((i.epoch : Nat) : Int) ((i.next : Nat) : Int) bs))]) (st_mask [true, true, true, true, false, false, false, false] rfl (hw.perm (L' := [pt J (.cells #[pp S 0, Nx (i.epoch), Nx (i.next), sB ps i.state cs, sB pr i.recs cr, Nx (i.size), .bool true] 84), rB ps i.state cs, recsR 30 pr cr i.recs, storeR S (wrS k i.epoch i.size (formB ((i.epoch : Nat) : Int) ((i.next : Nat) : Int) bs)), pt b1 (.cells #[pp J 0] 43), pt b2 (.cells #[pp J 1] 94), pt (blk (fa10 8)) (.cells #[sB (sla (fa10 44)) (formB ((i.epoch : Nat) : Int) ((i.next : Nat) : Int) bs) (slc (fa10 44))] 30), rB (sla (fa10 44)) (formB ((i.epoch : Nat) : Int) ((i.next : Nat) : Int) bs) (slc (fa10 44))]) (by exact (perm_ix [0, 6, 7, 5, 1, 2, 3, 4] 8 rfl (by kernel_rfl) (by kernel_rfl)))))⟩
set_option maxHeartbeats 4000000 in
theorem append_ok (β : Base) (w : World) (J S : Nat) (k : KS) (i : KI) (bs : Bs) (hlong : bs.length ≤ 65536) (hfit : k.fits 524288) (hnl : i.next ≤ 4611686018427387904) (hsz : i.size ≤ 262144) (hrl : i.recs.length ≤ 1048576) (hful : i.size + 24 + bs.length ≤ 262144) (hnm : i.next ≠ 4611686018427387904) (hc : apOk k i bs) (v : Value) (hs : Sl U8R β.heap v bs) (hw : St β [jourR J S i false, storeR S k] w) : Calls Try.prog 17 #[pp J 0, v] w fun r w' => r = .returned (.tuple #[Nx i.next, .int .i64 0]) ∧ St β [jourR J S (apI i bs) false, storeR S (apS k i bs)] w' := by
 obtain ⟨va, vc, rfl, vl, vm, ve⟩ := hs.get
 obtain ⟨ps, pr, cs, cr, hw⟩ := St.openJour hw
 refine enter (n := 83) Try.func17 rfl Try.ntmps17 rfl ?_ hw
 refine csr ?_
 refine l_mv rfl rfl rfl (m_box (v := pp J 0) rfl) ?_
 rintro _ _ ⟨b1, rfl, rfl⟩
 refine lv e_assign ?_
 refine lv e_assign ?_
 refine lnf ?_
 refine cs2 ?_
 refine c_region ?_
 refine lv (v := pp J 0) (e_load1 tf43 rfl (k_pt 0 rfl rfl)) ?_
 refine lv e_move ?_
 refine lcf (cl0 (vs := [pp J 0, sB va bs (vc)]) tf74 rfl rfl) rfl fun w β1 sb kn hw1 back => (ready_c β1 w hw1 J S (Nx (i.epoch)) (Nx (i.next)) (sB ps i.state cs) (sB pr i.recs cr) (Nx (i.size)) false (kn _ (k_pt 1 rfl rfl)) bs _ (Sl.mono _ _ _ _ _ sb (⟨⟨_, _, rfl, vl, vm, ve⟩⟩ : Sl U8R _ _ bs)) (0) ((if_neg (by omega)).trans (if_neg (by decide)))).mono ?_
 rintro e w' ⟨rfl, hw'⟩
 refine ⟨_, rfl, _, back _ _ hw', ?_⟩
 clear hw1 hw' back kn sb
 refine lv e_assign ?_
 refine lnc ?_
 refine lv e_move ?_
 refine lv (v := .bool false) (e_neq (a := (0 : Int)) (b := (0 : Int)) rfl rfl) ?_
 refine lnf ?_
 refine c_no rfl ?_
 refine csk ?_
 refine csr ?_
 refine lv (v := pp J 0) (e_load1 tf43 rfl (k_pt 0 rfl rfl)) ?_
 refine lv (v := pp J 0) (e_nil (a := ⟨J, 0, none⟩) rfl) ?_
 refine lv (e_fieldPt rfl tf75) ?_
 refine l_mv rfl rfl rfl (m_alloc tf76) ?_
 rintro _ _ ⟨b2, rfl, rfl⟩
 refine lu (m_store 0 tf47 (cs' := #[pp J 1]) rfl rfl rfl rfl rfl rfl rfl) ?_
 refine lnf ?_
 refine cs2 ?_
 refine c_region ?_
 refine lv (v := pp J 1) (e_load1 tf47 rfl (k_pt 0 rfl rfl)) ?_
 refine lv (v := pp J 1) (e_nil (a := ⟨J, 1, none⟩) rfl) ?_
 refine lv (e_fieldPt rfl tf50) ?_
 refine lv (v := Nx (i.size)) (e_load1 tf25 rfl (k_pt 2 rfl rfl)) ?_
 refine lv (v := Nx (i.size + 24)) (e_add (a := ((i.size : Nat) : Int)) (b := (24 : Int)) rfl rfl (i64n (by omega) (by omega))) ?_
 refine lv e_move ?_
 refine lv (v := Nx (bs.length)) (e_len (a := va) (n := bs.length) (c := vc) rfl tf11) ?_
 refine lv (v := Nx ((i.size + 24) + bs.length)) (e_add (a := ((i.size + 24 : Nat) : Int)) (b := ((bs.length : Nat) : Int)) rfl rfl (i64n (by omega) (by omega))) ?_
 refine lv (e_gtr (a := (((i.size + 24) + bs.length : Nat) : Int)) (b := (262144 : Int)) rfl rfl) ?_
 refine lv e_move ?_
 refine l_split (s := 28) (p := (262144 : Int) < (((i.size + 24) + bs.length : Nat) : Int)) rfl (fun h => ?_) (fun h => ?_)
 exact absurd h (by omega)
 refine g_val (v := pp J 1) rfl rfl rfl rfl rfl (e_load1 tf47 rfl (k_pt 0 rfl rfl)) ?_
 refine g_val (v := pp J 1) rfl rfl rfl rfl rfl (e_nil (a := ⟨J, 1, none⟩) rfl) ?_
 refine g_val (v := pp J 2) rfl rfl rfl rfl rfl (e_fieldPt rfl tf53) ?_
 refine g_val (v := Nx (i.next)) rfl rfl rfl rfl rfl (e_load1 tf25 rfl (k_pt 2 rfl rfl)) ?_
 refine g_val rfl rfl rfl rfl rfl (e_eql (a := ((i.next : Nat) : Int)) (b := (4611686018427387904 : Int)) rfl rfl) ?_
 refine lv (v := .bool (decide (((i.next : Nat) : Int) = (4611686018427387904 : Int)))) (e_pick_f rfl) ?_
 refine lnf ?_
 refine c_if (((i.next : Nat) : Int) = (4611686018427387904 : Int)) rfl (fun hc3 => ?_) (fun hc3 => ?_)
 ·exact absurd hc3 (by omega)
 refine csk ?_
 refine c_seq ?_
 refine c_any [⟨[], [], [0], [35], fun f => f 35 = pp J 1⟩, ⟨[0], [0], [], [36], fun f => f 36 = pp J 1⟩, ⟨[0, 1], [1], [], [37], fun f => f 37 = pp J 1⟩, ⟨[0, 1, 2], [2], [], [38], fun f => f 38 = Nx (i.epoch)⟩, ⟨[], [], [0], [39], fun f => f 39 = pp J 1⟩, ⟨[4], [4], [], [40], fun f => f 40 = pp J 1⟩, ⟨[4, 5], [5], [], [41], fun f => f 41 = pp J 2⟩, ⟨[4, 5, 6], [6], [], [42], fun f => f 42 = Nx (i.next)⟩, ⟨[], [], [1], [43], fun f => f 43 = sB va bs (vc)⟩, ⟨(List.range 9), [3, 7, 8], [], [44], fun f => f 44 = sB (sla (f 44)) (formB ((i.epoch : Nat) : Int) ((i.next : Nat) : Int) bs) (slc (f 44))⟩, ⟨[], [], [], [8], fun f => f 8 = .pointer (some ⟨(blk (f 8)), 0, none⟩)⟩, ⟨(List.range 11), [10, 9], [], [], fun _ => True⟩] [⟨none, none, [0, 4], [], fun _ => pt b2 (.cells #[pp J 1] 94)⟩, ⟨none, none, [], [], fun _ => pt b1 (.cells #[pp J 0] 43)⟩, ⟨none, none, [3, 7], [], fun _ => pt J (.cells #[pp S 0, Nx (i.epoch), Nx (i.next), sB ps i.state cs, sB pr i.recs cr, Nx (i.size), .bool false] 84)⟩, ⟨none, none, [], [], fun _ => rB ps i.state cs⟩, ⟨none, none, [], [], fun _ => recsR 30 pr cr i.recs⟩, ⟨none, none, [], [], fun _ => storeR S k⟩, ⟨(some 9), none, [], [44], fun f => rB (sla (f 44)) (formB ((i.epoch : Nat) : Int) ((i.next : Nat) : Int) bs) (slc (f 44))⟩, ⟨(some 10), (some 11), [11], [8], fun f => pt (blk (f 8)) (.cells #[.slice none 0 0] 30)⟩, ⟨(some 11), none, [], [8, 44], fun f => pt (blk (f 8)) (.cells #[sB (sla (f 44)) (formB ((i.epoch : Nat) : Int) ((i.next : Nat) : Int) bs) (slc (f 44))] 30)⟩] [(7, pp b2 0), (1, sB va bs (vc)), (2, pp b1 0)] [1, 2, 0] [] (by kernel_rfl) (by kernel_rfl) (by kernel_rfl) (by kernel_rfl) rfl ⟨rfl, rfl, rfl, trivial⟩ ⟨?_, ?_, ?_, ?_, ?_, ?_, ?_, ?_, ?_, ?_, ?_, ?_, trivial⟩ ?_
 ·rintro f M - ⟨i0, -⟩
  exact obv (L' := pt b2 (.cells #[pp J 1] 94) :: M) (up_cons (d := 7) rfl i0) rfl (e_load1 tf47 rfl (k_pt 0 rfl rfl)) (perm_front 0 rfl) (by rfl)
 ·rintro f M ⟨k0, -⟩ -
  exact ob0 (up_cons (d := 35) rfl k0) rfl (e_nil (a := ⟨J, 1, none⟩) rfl) (.refl _)
 ·rintro f M ⟨k0, -⟩ -
  exact ob0 (up_cons (d := 36) rfl k0) rfl (e_fieldPt rfl tf48) (.refl _)
 ·rintro f M ⟨k0, -⟩ -
  exact obv (L' := pt J (.cells #[pp S 0, Nx (i.epoch), Nx (i.next), sB ps i.state cs, sB pr i.recs cr, Nx (i.size), .bool false] 84) :: M) (up_cons (d := 37) rfl k0) rfl (e_load1 tf25 rfl (k_pt 0 rfl rfl)) (perm_front 0 rfl) (by rfl)
 ·rintro f M - ⟨i0, -⟩
  exact obv (L' := pt b2 (.cells #[pp J 1] 94) :: M) (up_cons (d := 7) rfl i0) rfl (e_load1 tf47 rfl (k_pt 0 rfl rfl)) (perm_front 0 rfl) (by rfl)
 ·rintro f M ⟨k0, -⟩ -
  exact ob0 (up_cons (d := 39) rfl k0) rfl (e_nil (a := ⟨J, 1, none⟩) rfl) (.refl _)
 ·rintro f M ⟨k0, -⟩ -
  exact ob0 (up_cons (d := 40) rfl k0) rfl (e_fieldPt rfl tf53) (.refl _)
 ·rintro f M ⟨k0, -⟩ -
  exact obv (L' := pt J (.cells #[pp S 0, Nx (i.epoch), Nx (i.next), sB ps i.state cs, sB pr i.recs cr, Nx (i.size), .bool false] 84) :: M) (up_cons (d := 41) rfl k0) rfl (e_load1 tf25 rfl (k_pt 0 rfl rfl)) (perm_front 0 rfl) (by rfl)
 ·rintro f M - ⟨i0, -⟩
  exact ob0 (up_cons (d := 1) rfl i0) rfl e_move (.refl _)
 ·rintro f M ⟨k0, k1, k2, -⟩ -
  refine ob_start (L' := M) (by rfl) (up_cons (d := 43) (up_cons (d := 42) (up_cons (d := 38) rfl k0) k1) k2) ?_
  refine lcf (cl0 (vs := [Nx (i.epoch), Nx (i.next), sB va bs (vc)]) tf54 rfl rfl) rfl fun w β1 sb kn hw1 back => (form_ok β1 w hw1 ((i.epoch : Nat) : Int) ((i.next : Nat) : Int) bs _ (by omega) (Sl.mono _ _ _ _ _ sb (⟨⟨_, _, rfl, vl, vm, ve⟩⟩ : Sl U8R _ _ bs))).mono ?_
  rintro e w' ⟨p6, c7, rfl, hw'⟩
  refine ⟨_, rfl, _, back _ _ hw', ?_⟩
  clear hw1 hw' back kn sb
  refine l_nil ?_
  exact f_owes_d (up_cons (d := 43) (up_cons (d := 42) (up_cons (d := 38) rfl k0) k1) k2) rfl (perm_front 0 rfl)
 ·rintro f M - -
  refine ob_start (L' := M) (by rfl) rfl ?_
  refine l_mv rfl rfl rfl (m_alloc tf67) ?_
  rintro _ _ ⟨b9, rfl, rfl⟩
  refine l_nil ?_
  exact f_owes_d rfl rfl (perm_front 0 rfl)
 ·rintro f M ⟨k0, k1, -⟩ -
  have hs8 : f 8 = .pointer (some ⟨(blk (f 8)), 0, none⟩) := k0
  have hs44 : f 44 = sB (sla (f 44)) (formB ((i.epoch : Nat) : Int) ((i.next : Nat) : Int) bs) (slc (f 44)) := k1
  refine ob_start (L' := pt (blk (f 8)) (.cells #[.slice none 0 0] 30) :: M) (by rfl) (up_cons (up_cons rfl hs8) hs44) ?_
  refine lu (m_store 0 tf21 (cs' := #[sB (sla (f 44)) (formB ((i.epoch : Nat) : Int) ((i.next : Nat) : Int) bs) (slc (f 44))]) rfl rfl rfl rfl rfl rfl rfl) ?_
  refine l_nil ?_
  exact f_owes_n (up_cons (up_cons rfl hs8) hs44) trivial (perm_front 0 rfl)
 rintro fa10 ⟨-, -, -, -, -, -, -, -, -, -, k10, -, -⟩ ⟨j0, j1, j2, -⟩
 refine f_re (L' := [pt b2 (.cells #[pp J 1] 94), pt b1 (.cells #[pp J 0] 43), pt J (.cells #[pp S 0, Nx (i.epoch), Nx (i.next), sB ps i.state cs, sB pr i.recs cr, Nx (i.size), .bool false] 84), rB ps i.state cs, recsR 30 pr cr i.recs, storeR S k, rB (sla (fa10 44)) (formB ((i.epoch : Nat) : Int) ((i.next : Nat) : Int) bs) (slc (fa10 44)), pt (blk (fa10 8)) (.cells #[sB (sla (fa10 44)) (formB ((i.epoch : Nat) : Int) ((i.next : Nat) : Int) bs) (slc (fa10 44))] 30)]) (by rfl) ?_
 refine f_rebase (d := 1) j0 ?_
 refine f_rebase (d := 2) j1 ?_
 refine f_rebase (d := 7) j2 ?_
 refine f_rebase (d := 8) k10 ?_
 refine fts ?_
 refine csr ?_
 refine lv (v := pp J 0) (e_load1 tf43 rfl (k_pt 1 rfl rfl)) ?_
 refine lv (v := .func (.func 52) #[] #[pp b1 0, pp b2 0, .pointer (some ⟨(blk (fa10 8)), 0, none⟩)]) (e_func (u := []) (v := [pp b1 0, pp b2 0, .pointer (some ⟨(blk (fa10 8)), 0, none⟩)]) rfl rfl) ?_
 refine l_call rfl rfl rfl (cl0 (vs := [pp J 0, .func (.func 52) #[] #[pp b1 0, pp b2 0, .pointer (some ⟨(blk (fa10 8)), 0, none⟩)]]) tf73 rfl rfl) ?_
 intro w hw
 replace hw := hw.perm (L' := _ :: _ :: _ :: _ :: _ :: _ :: _ :: _ :: []) (by exact ((((((((perm_front 4 rfl).trans (perm_front 4 rfl)).trans (perm_front 5 rfl)).trans (perm_front 6 rfl)).trans (perm_front 7 rfl)).trans (perm_front 5 rfl)).trans (perm_front 6 rfl)).trans (perm_front 7 rfl)))
 obtain ⟨β1, sb, kn, hw1, back⟩ := St.frame (L := [_, _, _, _, _, _]) (M := _ :: _ :: []) hw
 refine (att_append_ok β1 w J S b1 b2 (blk (fa10 8)) (slc (fa10 44)) (sla (fa10 44)) k i (sB ps i.state cs) (sB pr i.recs cr) (formB ((i.epoch : Nat) : Int) ((i.next : Nat) : Int) bs) hfit (by rw [formB_length]; omega) (by omega) hc hw1).mono ?_
 rintro e w' ⟨rfl, hw'⟩
 refine ⟨_, rfl, _, back _ _ hw', ?_⟩
 clear hw hw1 hw' back kn sb
 refine lv e_assign ?_
 refine lnc ?_
 refine lv e_move ?_
 refine lv (v := .bool false) (e_neq (a := (0 : Int)) (b := (0 : Int)) rfl rfl) ?_
 refine lnf ?_
 refine c_no rfl ?_
 refine csk ?_
 refine c_seq ?_
 refine c_any [⟨[], [], [0], [51], fun f => f 51 = pp J 1⟩, ⟨[], [], [0], [52], fun f => f 52 = pp J 1⟩, ⟨[1], [1], [], [53], fun f => f 53 = pp J 1⟩, ⟨[1, 2], [2], [], [54], fun f => f 54 = pp J 4⟩, ⟨[1, 2, 3], [3], [], [55], fun f => f 55 = sB pr i.recs cr⟩, ⟨[], [], [1], [56], fun f => f 56 = sB va bs (vc)⟩, ⟨[5], [5], [], [57], fun f => f 57 = sB (sla (f 57)) bs (slc (f 57))⟩, ⟨[5, 6], [6], [], [58], fun f => f 58 = .slice (some ⟨(blk (f 58)), 0, none⟩) 1 1⟩, ⟨[1, 2, 3, 4, 5, 6, 7], [4, 7], [], [59], fun f => f 59 = sB (sla (f 59)) ((i.recs ++ [bs])) (slc (f 59))⟩, ⟨(List.range 9), [0], [], [60], fun f => f 60 = pp J 1⟩, ⟨(List.range 10), [9], [], [61], fun f => f 61 = pp J 4⟩, ⟨(List.range 11), [10, 8], [], [], fun _ => True⟩] [⟨none, (some 11), [4, 11], [], fun _ => pt J (.cells #[pp S 0, Nx (i.epoch), Nx (i.next), sB ps i.state cs, sB pr i.recs cr, Nx (i.size), .bool false] 84)⟩, ⟨none, none, [], [], fun _ => pt b1 (.cells #[pp J 0] 43)⟩, ⟨none, none, [0, 1], [], fun _ => pt b2 (.cells #[pp J 1] 94)⟩, ⟨none, none, [], [], fun _ => pt (blk (fa10 8)) (.cells #[sB (sla (fa10 44)) (formB ((i.epoch : Nat) : Int) ((i.next : Nat) : Int) bs) (slc (fa10 44))] 30)⟩, ⟨none, none, [], [], fun _ => rB (sla (fa10 44)) (formB ((i.epoch : Nat) : Int) ((i.next : Nat) : Int) bs) (slc (fa10 44))⟩, ⟨none, none, [], [], fun _ => storeR S (wrS k i.epoch i.size (formB ((i.epoch : Nat) : Int) ((i.next : Nat) : Int) bs))⟩, ⟨none, none, [], [], fun _ => rB ps i.state cs⟩, ⟨none, (some 8), [8], [], fun _ => recsR 30 pr cr i.recs⟩, ⟨(some 6), (some 8), [8], [57], fun f => rB (sla (f 57)) bs (slc (f 57))⟩, ⟨(some 7), none, [8], [57, 58], fun f => pt (blk (f 58)) (.cells #[sB (sla (f 57)) bs (slc (f 57))] 30)⟩, ⟨(some 8), none, [], [59], fun f => recsR 30 (sla (f 59)) (slc (f 59)) (i.recs ++ [bs])⟩, ⟨(some 11), none, [], [59], fun f => pt J (.cells #[pp S 0, Nx (i.epoch), Nx (i.next), sB ps i.state cs, sB (sla (f 59)) ((i.recs ++ [bs])) (slc (f 59)), Nx (i.size), .bool false] 84)⟩] [(7, pp b2 0), (1, sB va bs (vc)), (8, .pointer (some ⟨(blk (fa10 8)), 0, none⟩))] [0, 2] [] (by kernel_rfl) (by kernel_rfl) (by kernel_rfl) (by kernel_rfl) rfl ⟨rfl, rfl, rfl, trivial⟩ ⟨?_, ?_, ?_, ?_, ?_, ?_, ?_, ?_, ?_, ?_, ?_, ?_, trivial⟩ ?_
 ·rintro f M - ⟨i0, -⟩
  exact obv (L' := pt b2 (.cells #[pp J 1] 94) :: M) (up_cons (d := 7) rfl i0) rfl (e_load1 tf47 rfl (k_pt 0 rfl rfl)) (perm_front 0 rfl) (by rfl)
 ·rintro f M - ⟨i0, -⟩
  exact obv (L' := pt b2 (.cells #[pp J 1] 94) :: M) (up_cons (d := 7) rfl i0) rfl (e_load1 tf47 rfl (k_pt 0 rfl rfl)) (perm_front 0 rfl) (by rfl)
 ·rintro f M ⟨k0, -⟩ -
  exact ob0 (up_cons (d := 52) rfl k0) rfl (e_nil (a := ⟨J, 1, none⟩) rfl) (.refl _)
 ·rintro f M ⟨k0, -⟩ -
  exact ob0 (up_cons (d := 53) rfl k0) rfl (e_fieldPt rfl tf64) (.refl _)
 ·rintro f M ⟨k0, -⟩ -
  exact obv (L' := pt J (.cells #[pp S 0, Nx (i.epoch), Nx (i.next), sB ps i.state cs, sB pr i.recs cr, Nx (i.size), .bool false] 84) :: M) (up_cons (d := 54) rfl k0) rfl (e_load1 tf65 rfl (k_pt 0 rfl rfl)) (perm_front 0 rfl) (by rfl)
 ·rintro f M - ⟨i0, -⟩
  exact ob0 (up_cons (d := 1) rfl i0) rfl e_move (.refl _)
 ·rintro f M ⟨k0, -⟩ -
  refine ob_start (L' := M) (by rfl) (up_cons (d := 56) rfl k0) ?_
  refine lcf (cl0 (vs := [sB va bs (vc)]) tf62 rfl rfl) rfl fun w β1 sb kn hw1 back => (clone_ok β1 w hw1 bs _ (by omega) (Sl.mono _ _ _ _ _ sb (⟨⟨_, _, rfl, vl, vm, ve⟩⟩ : Sl U8R _ _ bs))).mono ?_
  rintro e w' ⟨p13, c14, rfl, hw'⟩
  refine ⟨_, rfl, _, back _ _ hw', ?_⟩
  clear hw1 hw' back kn sb
  refine l_nil ?_
  exact f_owes_d (up_cons (d := 56) rfl k0) rfl (perm_front 0 rfl)
 ·rintro f M ⟨k0, -⟩ -
  have hs57 : f 57 = sB (sla (f 57)) bs (slc (f 57)) := k0
  refine ob_start (L' := M) (by rfl) (up_cons rfl hs57) ?_
  refine l_mv rfl rfl rfl (m_slices tf66 tf67 (cells := #[sB (sla (f 57)) bs (slc (f 57))]) rfl rfl rfl rfl) ?_
  rintro _ _ ⟨b16, rfl, rfl⟩
  refine l_nil ?_
  exact f_owes_d (up_cons rfl hs57) rfl (perm_front 0 rfl)
 ·rintro f M ⟨k0, k1, -⟩ -
  have hs58 : f 58 = .slice (some ⟨(blk (f 58)), 0, none⟩) 1 1 := k1
  refine ob_start (L' := recsR 30 pr cr i.recs :: rB (sla (f 57)) bs (slc (f 57)) :: pt (blk (f 58)) (.cells #[sB (sla (f 57)) bs (slc (f 57))] 30) :: M) (by rfl) (up_cons (up_cons (d := 55) rfl k0) hs58) ?_
  refine l_perm (L' := (recsR 30 pr cr i.recs :: rB (sla (f 57)) bs (slc (f 57)) :: pt (blk (f 58)) (.cells #[sB (sla (f 57)) bs (slc (f 57))] 30) :: M)) (by exact (((perm_front 2 rfl).trans (perm_front 2 rfl)).trans (perm_front 2 rfl))) ?_
  refine l_mv rfl rfl rfl (m_appendRec (xs := i.recs) (bs := bs) (b := (blk (f 58))) rfl tf66 tf68 rfl rfl (by omega) (by omega)) ?_
  rintro _ _ ⟨rp19, rc20, rfl, rfl⟩
  refine l_nil ?_
  exact f_owes_d (up_cons (up_cons (d := 55) rfl k0) hs58) rfl ((perm_front 0 rfl).trans (perm_front 1 rfl))
 ·rintro f M ⟨k0, -⟩ -
  exact ob0 (up_cons (d := 51) rfl k0) rfl (e_nil (a := ⟨J, 1, none⟩) rfl) (.refl _)
 ·rintro f M ⟨k0, -⟩ -
  exact ob0 (up_cons (d := 60) rfl k0) rfl (e_fieldPt rfl tf64) (.refl _)
 ·rintro f M ⟨k0, k1, -⟩ -
  have hs59 : f 59 = sB (sla (f 59)) ((i.recs ++ [bs])) (slc (f 59)) := k1
  refine ob_start (L' := pt J (.cells #[pp S 0, Nx (i.epoch), Nx (i.next), sB ps i.state cs, sB pr i.recs cr, Nx (i.size), .bool false] 84) :: M) (by rfl) (up_cons (up_cons (d := 61) rfl k0) hs59) ?_
  refine lu (m_store 0 tf65 (cs' := #[pp S 0, Nx (i.epoch), Nx (i.next), sB ps i.state cs, sB (sla (f 59)) ((i.recs ++ [bs])) (slc (f 59)), Nx (i.size), .bool false]) rfl rfl rfl rfl rfl rfl rfl) ?_
  refine l_nil ?_
  exact f_owes_n (up_cons (up_cons (d := 61) rfl k0) hs59) trivial (perm_front 0 rfl)
 rintro fa21 ⟨-, -, -, -, -, -, -, -, -, -, -, -, -⟩ ⟨j0, j1, -⟩
 refine f_re (L' := [pt b1 (.cells #[pp J 0] 43), pt b2 (.cells #[pp J 1] 94), pt (blk (fa10 8)) (.cells #[sB (sla (fa10 44)) (formB ((i.epoch : Nat) : Int) ((i.next : Nat) : Int) bs) (slc (fa10 44))] 30), rB (sla (fa10 44)) (formB ((i.epoch : Nat) : Int) ((i.next : Nat) : Int) bs) (slc (fa10 44)), storeR S (wrS k i.epoch i.size (formB ((i.epoch : Nat) : Int) ((i.next : Nat) : Int) bs)), rB ps i.state cs, pt (blk (fa21 58)) (.cells #[sB (sla (fa21 57)) bs (slc (fa21 57))] 30), recsR 30 (sla (fa21 59)) (slc (fa21 59)) (i.recs ++ [bs]), pt J (.cells #[pp S 0, Nx (i.epoch), Nx (i.next), sB ps i.state cs, sB (sla (fa21 59)) ((i.recs ++ [bs])) (slc (fa21 59)), Nx (i.size), .bool false] 84)]) (by rfl) ?_
 refine f_rebase (d := 7) j0 ?_
 refine f_rebase (d := 8) j1 ?_
 refine fts ?_
 have hfl := formB_length ((i.epoch : Nat) : Int) ((i.next : Nat) : Int) bs
 refine c_any [⟨[], [], [0], [62], fun f => f 62 = pp J 1⟩, ⟨[0], [0], [], [63], fun f => f 63 = pp J 1⟩, ⟨[0, 1], [1], [], [64], fun f => f 64 = pp J 5⟩, ⟨[0, 1, 2], [2], [], [65], fun f => f 65 = Nx (i.size)⟩, ⟨[], [], [1], [66], fun f => f 66 = sB (sla (fa10 44)) (formB ((i.epoch : Nat) : Int) ((i.next : Nat) : Int) bs) (slc (fa10 44))⟩, ⟨[4], [4], [], [67], fun f => f 67 = Nx ((formB ((i.epoch : Nat) : Int) ((i.next : Nat) : Int) bs).length)⟩, ⟨(List.range 6), [3, 5], [], [68], fun f => f 68 = Nx (i.size + ((formB ((i.epoch : Nat) : Int) ((i.next : Nat) : Int) bs).length))⟩, ⟨(List.range 7), [0], [], [69], fun f => f 69 = pp J 1⟩, ⟨(List.range 8), [7], [], [70], fun f => f 70 = pp J 5⟩, ⟨(List.range 9), [8, 6], [], [], fun _ => True⟩] [⟨none, none, [], [], fun _ => pt b1 (.cells #[pp J 0] 43)⟩, ⟨none, none, [0], [], fun _ => pt b2 (.cells #[pp J 1] 94)⟩, ⟨none, none, [4], [], fun _ => pt (blk (fa10 8)) (.cells #[sB (sla (fa10 44)) (formB ((i.epoch : Nat) : Int) ((i.next : Nat) : Int) bs) (slc (fa10 44))] 30)⟩, ⟨none, none, [], [], fun _ => rB (sla (fa10 44)) (formB ((i.epoch : Nat) : Int) ((i.next : Nat) : Int) bs) (slc (fa10 44))⟩, ⟨none, none, [], [], fun _ => storeR S (wrS k i.epoch i.size (formB ((i.epoch : Nat) : Int) ((i.next : Nat) : Int) bs))⟩, ⟨none, none, [], [], fun _ => rB ps i.state cs⟩, ⟨none, none, [], [], fun _ => pt (blk (fa21 58)) (.cells #[sB (sla (fa21 57)) bs (slc (fa21 57))] 30)⟩, ⟨none, none, [], [], fun _ => recsR 30 (sla (fa21 59)) (slc (fa21 59)) (i.recs ++ [bs])⟩, ⟨none, (some 9), [3, 9], [], fun _ => pt J (.cells #[pp S 0, Nx (i.epoch), Nx (i.next), sB ps i.state cs, sB (sla (fa21 59)) ((i.recs ++ [bs])) (slc (fa21 59)), Nx (i.size), .bool false] 84)⟩, ⟨(some 9), none, [], [], fun _ => pt J (.cells #[pp S 0, Nx (i.epoch), Nx (i.next), sB ps i.state cs, sB (sla (fa21 59)) ((i.recs ++ [bs])) (slc (fa21 59)), Nx (i.size + ((formB ((i.epoch : Nat) : Int) ((i.next : Nat) : Int) bs).length)), .bool false] 84)⟩] [(7, pp b2 0), (8, .pointer (some ⟨(blk (fa10 8)), 0, none⟩))] [0] [] (by kernel_rfl) (by kernel_rfl) (by kernel_rfl) (by kernel_rfl) rfl ⟨rfl, rfl, trivial⟩ ⟨?_, ?_, ?_, ?_, ?_, ?_, ?_, ?_, ?_, ?_, trivial⟩ ?_
 ·rintro f M - ⟨i0, -⟩
  exact obv (L' := pt b2 (.cells #[pp J 1] 94) :: M) (up_cons (d := 7) rfl i0) rfl (e_load1 tf47 rfl (k_pt 0 rfl rfl)) (perm_front 0 rfl) (by rfl)
 ·rintro f M ⟨k0, -⟩ -
  exact ob0 (up_cons (d := 62) rfl k0) rfl (e_nil (a := ⟨J, 1, none⟩) rfl) (.refl _)
 ·rintro f M ⟨k0, -⟩ -
  exact ob0 (up_cons (d := 63) rfl k0) rfl (e_fieldPt rfl tf50) (.refl _)
 ·rintro f M ⟨k0, -⟩ -
  exact obv (L' := pt J (.cells #[pp S 0, Nx (i.epoch), Nx (i.next), sB ps i.state cs, sB (sla (fa21 59)) ((i.recs ++ [bs])) (slc (fa21 59)), Nx (i.size), .bool false] 84) :: M) (up_cons (d := 64) rfl k0) rfl (e_load1 tf25 rfl (k_pt 0 rfl rfl)) (perm_front 0 rfl) (by rfl)
 ·rintro f M - ⟨i0, -⟩
  exact obv (L' := pt (blk (fa10 8)) (.cells #[sB (sla (fa10 44)) (formB ((i.epoch : Nat) : Int) ((i.next : Nat) : Int) bs) (slc (fa10 44))] 30) :: M) (up_cons (d := 8) rfl i0) rfl (e_load1 tf21 rfl (k_pt 0 rfl rfl)) (perm_front 0 rfl) (by rfl)
 ·rintro f M ⟨k0, -⟩ -
  exact ob0 (up_cons (d := 66) rfl k0) rfl (e_len (a := (sla (fa10 44))) (n := (formB ((i.epoch : Nat) : Int) ((i.next : Nat) : Int) bs).length) (c := (slc (fa10 44))) rfl tf11) (.refl _)
 ·rintro f M ⟨k0, k1, -⟩ -
  exact ob0 (up_cons (d := 67) (up_cons (d := 65) rfl k0) k1) rfl (e_add (a := ((i.size : Nat) : Int)) (b := (((formB ((i.epoch : Nat) : Int) ((i.next : Nat) : Int) bs).length : Nat) : Int)) rfl rfl (i64n (by omega) (by omega))) (.refl _)
 ·rintro f M ⟨k0, -⟩ -
  exact ob0 (up_cons (d := 62) rfl k0) rfl (e_nil (a := ⟨J, 1, none⟩) rfl) (.refl _)
 ·rintro f M ⟨k0, -⟩ -
  exact ob0 (up_cons (d := 69) rfl k0) rfl (e_fieldPt rfl tf50) (.refl _)
 ·rintro f M ⟨k0, k1, -⟩ -
  refine ob_start (L' := pt J (.cells #[pp S 0, Nx (i.epoch), Nx (i.next), sB ps i.state cs, sB (sla (fa21 59)) ((i.recs ++ [bs])) (slc (fa21 59)), Nx (i.size), .bool false] 84) :: M) (by rfl) (up_cons (d := 68) (up_cons (d := 70) rfl k0) k1) ?_
  refine lu (m_store 0 tf25 (cs' := #[pp S 0, Nx (i.epoch), Nx (i.next), sB ps i.state cs, sB (sla (fa21 59)) ((i.recs ++ [bs])) (slc (fa21 59)), Nx (i.size + ((formB ((i.epoch : Nat) : Int) ((i.next : Nat) : Int) bs).length)), .bool false]) rfl rfl rfl rfl rfl rfl rfl) ?_
  refine l_nil ?_
  exact f_owes_n (up_cons (d := 68) (up_cons (d := 70) rfl k0) k1) trivial (perm_front 0 rfl)
 rintro fa22 ⟨-, -, -, -, -, -, -, -, -, -, -⟩ ⟨j0, -⟩
 refine f_re (L' := [pt b1 (.cells #[pp J 0] 43), pt b2 (.cells #[pp J 1] 94), pt (blk (fa10 8)) (.cells #[sB (sla (fa10 44)) (formB ((i.epoch : Nat) : Int) ((i.next : Nat) : Int) bs) (slc (fa10 44))] 30), rB (sla (fa10 44)) (formB ((i.epoch : Nat) : Int) ((i.next : Nat) : Int) bs) (slc (fa10 44)), storeR S (wrS k i.epoch i.size (formB ((i.epoch : Nat) : Int) ((i.next : Nat) : Int) bs)), rB ps i.state cs, pt (blk (fa21 58)) (.cells #[sB (sla (fa21 57)) bs (slc (fa21 57))] 30), recsR 30 (sla (fa21 59)) (slc (fa21 59)) (i.recs ++ [bs]), pt J (.cells #[pp S 0, Nx (i.epoch), Nx (i.next), sB ps i.state cs, sB (sla (fa21 59)) ((i.recs ++ [bs])) (slc (fa21 59)), Nx (i.size + ((formB ((i.epoch : Nat) : Int) ((i.next : Nat) : Int) bs).length)), .bool false] 84)]) (by rfl) ?_
 refine f_rebase (d := 7) j0 ?_
 refine ftc ?_
 refine lv (v := pp J 1) (e_load1 tf47 rfl (k_pt 1 rfl rfl)) ?_
 refine lv (v := pp J 1) (e_nil (a := ⟨J, 1, none⟩) rfl) ?_
 refine lv (e_fieldPt rfl tf53) ?_
 refine lv (v := Nx (i.next)) (e_load1 tf25 rfl (k_pt 8 rfl rfl)) ?_
 refine lv (v := Nx (i.next + 1)) (e_add (a := ((i.next : Nat) : Int)) (b := (1 : Int)) rfl rfl (i64n (by omega) (by omega))) ?_
 refine lv (v := pp J 1) (e_nil (a := ⟨J, 1, none⟩) rfl) ?_
 refine lv (e_fieldPt rfl tf53) ?_
 refine lu (m_store 8 tf25 (cs' := #[pp S 0, Nx (i.epoch), Nx (i.next + 1), sB ps i.state cs, sB (sla (fa21 59)) ((i.recs ++ [bs])) (slc (fa21 59)), Nx (i.size + ((formB ((i.epoch : Nat) : Int) ((i.next : Nat) : Int) bs).length)), .bool false]) rfl rfl rfl rfl rfl rfl rfl) ?_
 refine lnc ?_
 refine lv (v := pp J 1) (e_load1 tf47 rfl (k_pt 1 rfl rfl)) ?_
 refine lv (v := pp J 1) (e_nil (a := ⟨J, 1, none⟩) rfl) ?_
 refine lv (e_fieldPt rfl tf53) ?_
 refine lv (v := Nx (i.next + 1)) (e_load1 tf25 rfl (k_pt 8 rfl rfl)) ?_
 refine lv (v := Ix (((i.next + 1 : Nat) : Int) - (1 : Int))) (e_sub (a := ((i.next + 1 : Nat) : Int)) (b := (1 : Int)) rfl rfl (i64w (by omega))) ?_
 refine lv e_assign ?_
 refine lv e_assign ?_
 refine lnf ?_
 refine c_ret ?_
 refine ret2 (v := Ix (((i.next + 1 : Nat) : Int) - (1 : Int))) (v' := .int .i64 (0)) Try.results17 rfl rfl ?_
 intro w hw
 refine ⟨congrArg (fun z : Int => Ending.returned (.tuple #[Ix z, .int .i64 0])) (by omega), ?_⟩
 exact St.closeJour (i := apI i bs) (dn := false) (M := [storeR S (wrS k i.epoch i.size (formB ((i.epoch : Nat) : Int) ((i.next : Nat) : Int) bs))]) (st_mask [true, true, true, true, false, false, false, false, false] rfl (hw.perm (L' := [pt J (.cells #[pp S 0, Nx (i.epoch), Nx (i.next + 1), sB ps i.state cs, sB (sla (fa21 59)) ((i.recs ++ [bs])) (slc (fa21 59)), Nx (i.size + ((formB ((i.epoch : Nat) : Int) ((i.next : Nat) : Int) bs).length)), .bool false] 84), rB ps i.state cs, recsR 30 (sla (fa21 59)) (slc (fa21 59)) (i.recs ++ [bs]), storeR S (wrS k i.epoch i.size (formB ((i.epoch : Nat) : Int) ((i.next : Nat) : Int) bs)), pt b1 (.cells #[pp J 0] 43), pt b2 (.cells #[pp J 1] 94), pt (blk (fa10 8)) (.cells #[sB (sla (fa10 44)) (formB ((i.epoch : Nat) : Int) ((i.next : Nat) : Int) bs) (slc (fa10 44))] 30), rB (sla (fa10 44)) (formB ((i.epoch : Nat) : Int) ((i.next : Nat) : Int) bs) (slc (fa10 44)), pt (blk (fa21 58)) (.cells #[sB (sla (fa21 57)) bs (slc (fa21 57))] 30)]) (by exact (perm_ix [8, 5, 7, 4, 0, 1, 2, 3, 6] 9 rfl (by kernel_rfl) (by kernel_rfl)))))
theorem append_nil (β : Base) (w : World) (hw : St β [] w) (v : Value) : Calls Try.prog 17 #[.pointer none, v] w fun r w' => r = .returned (.tuple #[.int .i64 0, .int .i64 1]) ∧ St β [] w' := by
 refine enter (n := 83) Try.func17 rfl Try.ntmps17 rfl ?_ hw
 refine csr ?_
 refine l_mv rfl rfl rfl (m_box (v := .pointer none) rfl) ?_
 rintro _ _ ⟨b1, rfl, rfl⟩
 refine lv e_assign ?_
 refine lv e_assign ?_
 refine lnf ?_
 refine cs2 ?_
 refine c_region ?_
 refine lv (v := .pointer none) (e_load1 tf43 rfl (k_pt 0 rfl rfl)) ?_
 refine lv e_move ?_
 refine lcf (cl0 (vs := [.pointer none, v]) tf74 rfl rfl) rfl fun w β1 sb kn hw1 back => (ready_nil β1 w hw1 _).mono ?_
 rintro e w' ⟨rfl, hw'⟩
 refine ⟨_, rfl, _, back _ _ hw', ?_⟩
 clear hw1 hw' back kn sb
 refine lv e_assign ?_
 refine lnc ?_
 refine lv e_move ?_
 refine lv (v := .bool true) (e_neq (a := (1 : Int)) (b := (0 : Int)) rfl rfl) ?_
 refine lnf ?_
 refine c_yes rfl ?_
 refine csr ?_
 refine lv e_move ?_
 refine lv e_assign ?_
 refine lv e_assign ?_
 refine lnf ?_
 refine c_ret ?_
 refine f_then_ret ?_
 refine ret2 (v := .int .i64 (0)) (v' := .int .i64 (1)) Try.results17 rfl rfl ?_
 intro w hw
 exact ⟨rfl, st_mask [false] rfl hw⟩
theorem checkp_down (β : Base) (w : World) (J S : Nat) (k : KS) (i : KI) (bs : Bs) (hlong : bs.length ≤ 65536) (v : Value) (hs : Sl U8R β.heap v bs) (hw : St β [jourR J S i true] w) : Calls Try.prog 20 #[pp J 0, v] w fun r w' => r = .returned (.int .i64 310) ∧ St β [jourR J S i true] w' := by
 obtain ⟨va, vc, rfl, vl, vm, ve⟩ := hs.get
 obtain ⟨ps, pr, cs, cr, hw⟩ := St.openJour hw
 refine enter (n := 47) Try.func20 rfl Try.ntmps20 rfl ?_ hw
 refine csr ?_
 refine l_mv rfl rfl rfl (m_box (v := pp J 0) rfl) ?_
 rintro _ _ ⟨b1, rfl, rfl⟩
 refine l_mv rfl rfl rfl (m_box (v := sB va bs (vc)) rfl) ?_
 rintro _ _ ⟨b2, rfl, rfl⟩
 refine lv e_assign ?_
 refine lnf ?_
 refine cs2 ?_
 refine c_region ?_
 refine lv (v := pp J 0) (e_load1 tf43 rfl (k_pt 1 rfl rfl)) ?_
 refine lv (v := sB va bs (vc)) (e_load1 tf21 rfl (k_pt 0 rfl rfl)) ?_
 refine lcf (cl0 (vs := [pp J 0, sB va bs (vc)]) tf74 rfl rfl) rfl fun w β1 sb kn hw1 back => (ready_c β1 w hw1 J S (Nx (i.epoch)) (Nx (i.next)) (sB ps i.state cs) (sB pr i.recs cr) (Nx (i.size)) true (kn _ (k_pt 2 rfl rfl)) bs _ (Sl.mono _ _ _ _ _ sb (⟨⟨_, _, rfl, vl, vm, ve⟩⟩ : Sl U8R _ _ bs)) (310) ((if_neg (by omega)).trans (if_pos rfl))).mono ?_
 rintro e w' ⟨rfl, hw'⟩
 refine ⟨_, rfl, _, back _ _ hw', ?_⟩
 clear hw1 hw' back kn sb
 refine lv e_assign ?_
 refine lnc ?_
 refine lv e_move ?_
 refine lv (v := .bool true) (e_neq (a := (310 : Int)) (b := (0 : Int)) rfl rfl) ?_
 refine lnf ?_
 refine c_yes rfl ?_
 refine csr ?_
 refine lv e_move ?_
 refine lv e_assign ?_
 refine lnf ?_
 refine c_ret ?_
 refine f_then_ret ?_
 refine ret1 Try.results20 (v := .int .i64 (310)) rfl ?_
 intro w hw
 exact ⟨rfl, St.closeJour (i := i) (dn := true) (M := []) (st_mask [true, true, true, false, false] rfl (hw.perm (L' := [pt J (.cells #[pp S 0, Nx (i.epoch), Nx (i.next), sB ps i.state cs, sB pr i.recs cr, Nx (i.size), .bool true] 84), rB ps i.state cs, recsR 30 pr cr i.recs, pt b2 (.cells #[sB va bs (vc)] 30), pt b1 (.cells #[pp J 0] 43)]) (by exact (perm_ix [2, 3, 4, 0, 1] 5 rfl (by kernel_rfl) (by kernel_rfl)))))⟩
set_option maxHeartbeats 4000000 in
theorem checkp_fail (β : Base) (w : World) (J S : Nat) (k : KS) (i : KI) (bs : Bs) (hlong : bs.length ≤ 65536) (hfit : k.fits 524288) (hful : i.epoch < 4611686018427387903) (hc : ¬ ckOk k (i.epoch + 1) i.next bs) (v : Value) (hs : Sl U8R β.heap v bs) (hw : St β [jourR J S i false, storeR S k] w) : Calls Try.prog 20 #[pp J 0, v] w fun r w' => r = .returned (.int .i64 310) ∧ St β [jourR J S i true, storeR S (ckS k (i.epoch + 1) i.next bs)] w' := by
 obtain ⟨va, vc, rfl, vl, vm, ve⟩ := hs.get
 obtain ⟨ps, pr, cs, cr, hw⟩ := St.openJour hw
 refine enter (n := 47) Try.func20 rfl Try.ntmps20 rfl ?_ hw
 refine csr ?_
 refine l_mv rfl rfl rfl (m_box (v := pp J 0) rfl) ?_
 rintro _ _ ⟨b1, rfl, rfl⟩
 refine l_mv rfl rfl rfl (m_box (v := sB va bs (vc)) rfl) ?_
 rintro _ _ ⟨b2, rfl, rfl⟩
 refine lv e_assign ?_
 refine lnf ?_
 refine cs2 ?_
 refine c_region ?_
 refine lv (v := pp J 0) (e_load1 tf43 rfl (k_pt 1 rfl rfl)) ?_
 refine lv (v := sB va bs (vc)) (e_load1 tf21 rfl (k_pt 0 rfl rfl)) ?_
 refine lcf (cl0 (vs := [pp J 0, sB va bs (vc)]) tf74 rfl rfl) rfl fun w β1 sb kn hw1 back => (ready_c β1 w hw1 J S (Nx (i.epoch)) (Nx (i.next)) (sB ps i.state cs) (sB pr i.recs cr) (Nx (i.size)) false (kn _ (k_pt 2 rfl rfl)) bs _ (Sl.mono _ _ _ _ _ sb (⟨⟨_, _, rfl, vl, vm, ve⟩⟩ : Sl U8R _ _ bs)) (0) ((if_neg (by omega)).trans (if_neg (by decide)))).mono ?_
 rintro e w' ⟨rfl, hw'⟩
 refine ⟨_, rfl, _, back _ _ hw', ?_⟩
 clear hw1 hw' back kn sb
 refine lv e_assign ?_
 refine lnc ?_
 refine lv e_move ?_
 refine lv (v := .bool false) (e_neq (a := (0 : Int)) (b := (0 : Int)) rfl rfl) ?_
 refine lnf ?_
 refine c_no rfl ?_
 refine csk ?_
 refine cs2 ?_
 refine c_region ?_
 refine lv (v := pp J 0) (e_load1 tf43 rfl (k_pt 1 rfl rfl)) ?_
 refine lv (v := pp J 0) (e_nil (a := ⟨J, 0, none⟩) rfl) ?_
 refine lv (e_fieldPt rfl tf75) ?_
 refine lv (e_fieldPt rfl tf48) ?_
 refine lv (v := Nx (i.epoch)) (e_load1 tf25 rfl (k_pt 2 rfl rfl)) ?_
 refine lv (e_eql (a := ((i.epoch : Nat) : Int)) (b := (4611686018427387903 : Int)) rfl rfl) ?_
 refine lnf ?_
 refine c_if (((i.epoch : Nat) : Int) = (4611686018427387903 : Int)) rfl (fun hc3 => ?_) (fun hc3 => ?_)
 ·exact absurd hc3 (by omega)
 refine csk ?_
 refine c_seq ?_
 refine c_any [⟨[], [], [0], [20], fun f => f 20 = pp J 0⟩, ⟨[0], [0], [], [21], fun f => f 21 = pp J 0⟩, ⟨[0, 1], [1], [], [22], fun f => f 22 = pp J 1⟩, ⟨[0, 1, 2], [2], [], [23], fun f => f 23 = pp J 1⟩, ⟨[0, 1, 2, 3], [3], [], [24], fun f => f 24 = Nx (i.epoch)⟩, ⟨[0, 1, 2, 3, 4], [4], [], [25], fun f => f 25 = Nx (i.epoch + 1)⟩, ⟨[], [], [0], [26], fun f => f 26 = pp J 0⟩, ⟨[6], [6], [], [27], fun f => f 27 = pp J 0⟩, ⟨[6, 7], [7], [], [28], fun f => f 28 = pp J 1⟩, ⟨[6, 7, 8], [8], [], [29], fun f => f 29 = pp J 2⟩, ⟨[6, 7, 8, 9], [9], [], [30], fun f => f 30 = Nx (i.next)⟩, ⟨[], [], [1], [31], fun f => f 31 = sB va bs (vc)⟩, ⟨[11], [11], [], [32], fun f => f 32 = sB (sla (f 32)) bs (slc (f 32))⟩, ⟨[], [], [1], [33], fun f => f 33 = sB va bs (vc)⟩, ⟨[13], [13], [], [34], fun f => f 34 = Nx (bs.length)⟩, ⟨[13, 14], [14], [], [35], fun f => f 35 = Nx (24 + bs.length)⟩, ⟨(List.range 16), [5, 10, 12, 15], [], [32, 36], fun f => f 36 = .agg #[Nx (i.epoch + 1), Nx (i.next), sB (sla (f 32)) bs (slc (f 32)), .slice none 0 0, Nx (24 + bs.length)]⟩, ⟨[], [], [], [6], fun f => f 6 = .pointer (some ⟨(blk (f 6)), 0, none⟩)⟩, ⟨(List.range 18), [17, 16], [], [], fun _ => True⟩] [⟨none, none, [11, 13], [], fun _ => pt b2 (.cells #[sB va bs (vc)] 30)⟩, ⟨none, none, [0, 6], [], fun _ => pt b1 (.cells #[pp J 0] 43)⟩, ⟨none, none, [4, 10], [], fun _ => pt J (.cells #[pp S 0, Nx (i.epoch), Nx (i.next), sB ps i.state cs, sB pr i.recs cr, Nx (i.size), .bool false] 84)⟩, ⟨none, none, [], [], fun _ => rB ps i.state cs⟩, ⟨none, none, [], [], fun _ => recsR 30 pr cr i.recs⟩, ⟨none, none, [], [], fun _ => storeR S k⟩, ⟨(some 12), none, [], [32], fun f => rB (sla (f 32)) bs (slc (f 32))⟩, ⟨(some 17), (some 18), [18], [6], fun f => pt (blk (f 6)) (.cells #[.int .i64 (0), .int .i64 (0), .slice none 0 0, .slice none 0 0, .int .i64 (0)] 36)⟩, ⟨(some 18), none, [], [6, 32], fun f => pt (blk (f 6)) (.cells #[Nx (i.epoch + 1), Nx (i.next), sB (sla (f 32)) bs (slc (f 32)), .slice none 0 0, Nx (24 + bs.length)] 36)⟩] [(2, pp b1 0), (3, pp b2 0)] [0, 1] [] (by kernel_rfl) (by kernel_rfl) (by kernel_rfl) (by kernel_rfl) rfl ⟨rfl, rfl, trivial⟩ ⟨?_, ?_, ?_, ?_, ?_, ?_, ?_, ?_, ?_, ?_, ?_, ?_, ?_, ?_, ?_, ?_, ?_, ?_, ?_, trivial⟩ ?_
 ·rintro f M - ⟨i0, -⟩
  exact obv (L' := pt b1 (.cells #[pp J 0] 43) :: M) (up_cons (d := 2) rfl i0) rfl (e_load1 tf43 rfl (k_pt 0 rfl rfl)) (perm_front 0 rfl) (by rfl)
 ·rintro f M ⟨k0, -⟩ -
  exact ob0 (up_cons (d := 20) rfl k0) rfl (e_nil (a := ⟨J, 0, none⟩) rfl) (.refl _)
 ·rintro f M ⟨k0, -⟩ -
  exact ob0 (up_cons (d := 21) rfl k0) rfl (e_fieldPt rfl tf75) (.refl _)
 ·rintro f M ⟨k0, -⟩ -
  exact ob0 (up_cons (d := 22) rfl k0) rfl (e_fieldPt rfl tf48) (.refl _)
 ·rintro f M ⟨k0, -⟩ -
  exact obv (L' := pt J (.cells #[pp S 0, Nx (i.epoch), Nx (i.next), sB ps i.state cs, sB pr i.recs cr, Nx (i.size), .bool false] 84) :: M) (up_cons (d := 23) rfl k0) rfl (e_load1 tf25 rfl (k_pt 0 rfl rfl)) (perm_front 0 rfl) (by rfl)
 ·rintro f M ⟨k0, -⟩ -
  exact ob0 (up_cons (d := 24) rfl k0) rfl (e_add (a := ((i.epoch : Nat) : Int)) (b := (1 : Int)) rfl rfl (i64n (by omega) (by omega))) (.refl _)
 ·rintro f M - ⟨i0, -⟩
  exact obv (L' := pt b1 (.cells #[pp J 0] 43) :: M) (up_cons (d := 2) rfl i0) rfl (e_load1 tf43 rfl (k_pt 0 rfl rfl)) (perm_front 0 rfl) (by rfl)
 ·rintro f M ⟨k0, -⟩ -
  exact ob0 (up_cons (d := 26) rfl k0) rfl (e_nil (a := ⟨J, 0, none⟩) rfl) (.refl _)
 ·rintro f M ⟨k0, -⟩ -
  exact ob0 (up_cons (d := 27) rfl k0) rfl (e_fieldPt rfl tf75) (.refl _)
 ·rintro f M ⟨k0, -⟩ -
  exact ob0 (up_cons (d := 28) rfl k0) rfl (e_fieldPt rfl tf53) (.refl _)
 ·rintro f M ⟨k0, -⟩ -
  exact obv (L' := pt J (.cells #[pp S 0, Nx (i.epoch), Nx (i.next), sB ps i.state cs, sB pr i.recs cr, Nx (i.size), .bool false] 84) :: M) (up_cons (d := 29) rfl k0) rfl (e_load1 tf25 rfl (k_pt 0 rfl rfl)) (perm_front 0 rfl) (by rfl)
 ·rintro f M - ⟨i0, -⟩
  exact obv (L' := pt b2 (.cells #[sB va bs (vc)] 30) :: M) (up_cons (d := 3) rfl i0) rfl (e_load1 tf21 rfl (k_pt 0 rfl rfl)) (perm_front 0 rfl) (by rfl)
 ·rintro f M ⟨k0, -⟩ -
  refine ob_start (L' := M) (by rfl) (up_cons (d := 31) rfl k0) ?_
  refine lcf (cl0 (vs := [sB va bs (vc)]) tf62 rfl rfl) rfl fun w β1 sb kn hw1 back => (clone_ok β1 w hw1 bs _ (by omega) (Sl.mono _ _ _ _ _ sb (⟨⟨_, _, rfl, vl, vm, ve⟩⟩ : Sl U8R _ _ bs))).mono ?_
  rintro e w' ⟨p6, c7, rfl, hw'⟩
  refine ⟨_, rfl, _, back _ _ hw', ?_⟩
  clear hw1 hw' back kn sb
  refine l_nil ?_
  exact f_owes_d (up_cons (d := 31) rfl k0) rfl (perm_front 0 rfl)
 ·rintro f M - ⟨i0, -⟩
  exact obv (L' := pt b2 (.cells #[sB va bs (vc)] 30) :: M) (up_cons (d := 3) rfl i0) rfl (e_load1 tf21 rfl (k_pt 0 rfl rfl)) (perm_front 0 rfl) (by rfl)
 ·rintro f M ⟨k0, -⟩ -
  exact ob0 (up_cons (d := 33) rfl k0) rfl (e_len (a := va) (n := bs.length) (c := vc) rfl tf11) (.refl _)
 ·rintro f M ⟨k0, -⟩ -
  exact ob0 (up_cons (d := 34) rfl k0) rfl (e_add (a := (24 : Int)) (b := ((bs.length : Nat) : Int)) rfl rfl (i64n (by omega) (by omega))) (.refl _)
 ·rintro f M ⟨k0, k1, k2, k3, -⟩ -
  have hs32 : f 32 = sB (sla (f 32)) bs (slc (f 32)) := k2
  exact ob0 (up_cons (d := 35) (up_cons (up_cons (d := 30) (up_cons (d := 25) rfl k0) k1) hs32) k3) rfl (e_build tf55 tf58 (vs := [(0, Nx (i.epoch + 1)), (1, Nx (i.next)), (2, sB (sla (f 32)) bs (slc (f 32))), (4, Nx (24 + bs.length))]) (cells := #[Nx (i.epoch + 1), Nx (i.next), sB (sla (f 32)) bs (slc (f 32)), .slice none 0 0, Nx (24 + bs.length)]) rfl rfl) (.refl _)
 ·rintro f M - -
  refine ob_start (L' := M) (by rfl) rfl ?_
  refine l_mv rfl rfl rfl (m_alloc tf55) ?_
  rintro _ _ ⟨b9, rfl, rfl⟩
  refine l_nil ?_
  exact f_owes_d rfl rfl (perm_front 0 rfl)
 ·rintro f M ⟨k0, k1, -⟩ -
  have hs6 : f 6 = .pointer (some ⟨(blk (f 6)), 0, none⟩) := k0
  have hs36 : f 36 = .agg #[Nx (i.epoch + 1), Nx (i.next), sB (sla (f 32)) bs (slc (f 32)), .slice none 0 0, Nx (24 + bs.length)] := k1
  refine ob_start (L' := pt (blk (f 6)) (.cells #[.int .i64 (0), .int .i64 (0), .slice none 0 0, .slice none 0 0, .int .i64 (0)] 36) :: M) (by rfl) (up_cons (up_cons rfl hs6) hs36) ?_
  refine lu (m_store 0 tf59 (cs' := #[Nx (i.epoch + 1), Nx (i.next), sB (sla (f 32)) bs (slc (f 32)), .slice none 0 0, Nx (24 + bs.length)]) rfl rfl rfl rfl rfl rfl rfl) ?_
  refine l_nil ?_
  exact f_owes_n (up_cons (up_cons rfl hs6) hs36) trivial (perm_front 0 rfl)
 rintro fa10 ⟨-, -, -, -, -, -, -, -, -, -, -, -, -, -, -, -, -, k17, -, -⟩ ⟨j0, j1, -⟩
 refine f_re (L' := [pt b2 (.cells #[sB va bs (vc)] 30), pt b1 (.cells #[pp J 0] 43), pt J (.cells #[pp S 0, Nx (i.epoch), Nx (i.next), sB ps i.state cs, sB pr i.recs cr, Nx (i.size), .bool false] 84), rB ps i.state cs, recsR 30 pr cr i.recs, storeR S k, rB (sla (fa10 32)) bs (slc (fa10 32)), pt (blk (fa10 6)) (.cells #[Nx (i.epoch + 1), Nx (i.next), sB (sla (fa10 32)) bs (slc (fa10 32)), .slice none 0 0, Nx (24 + bs.length)] 36)]) (by rfl) ?_
 refine f_rebase (d := 2) j0 ?_
 refine f_rebase (d := 3) j1 ?_
 refine f_rebase (d := 6) k17 ?_
 refine ftc ?_
 refine lv (v := pp J 0) (e_load1 tf43 rfl (k_pt 1 rfl rfl)) ?_
 refine lv (v := .func (.func 55) #[] #[pp b1 0, .pointer (some ⟨(blk (fa10 6)), 0, none⟩), pp b2 0]) (e_func (u := []) (v := [pp b1 0, .pointer (some ⟨(blk (fa10 6)), 0, none⟩), pp b2 0]) rfl rfl) ?_
 refine l_call rfl rfl rfl (cl0 (vs := [pp J 0, .func (.func 55) #[] #[pp b1 0, .pointer (some ⟨(blk (fa10 6)), 0, none⟩), pp b2 0]]) tf73 rfl rfl) ?_
 intro w hw
 replace hw := hw.perm (L' := _ :: _ :: _ :: _ :: _ :: _ :: _ :: _ :: []) (by exact ((((((((perm_front 6 rfl).trans (perm_front 5 rfl)).trans (perm_front 5 rfl)).trans (perm_front 6 rfl)).trans (perm_front 4 rfl)).trans (perm_front 7 rfl)).trans (perm_front 6 rfl)).trans (perm_front 7 rfl)))
 obtain ⟨β1, sb, kn, hw1, back⟩ := St.frame (L := [_, _, _, _, _]) (M := _ :: _ :: _ :: []) hw
 refine (att_check_no β1 w J S b1 (blk (fa10 6)) b2 vc (i.epoch + 1) i.next va k i (sB ps i.state cs) (sB pr i.recs cr) (sB (sla (fa10 32)) bs (slc (fa10 32))) (.slice none 0 0) (Nx (24 + bs.length)) bs (by omega) (by omega) (Elems.mono _ _ _ _ _ sb ve) hfit (by omega) hc hw1).mono ?_
 rintro e w' ⟨rfl, hw'⟩
 refine ⟨_, rfl, _, back _ _ hw', ?_⟩
 clear hw hw1 hw' back kn sb
 refine lv e_assign ?_
 refine lnf ?_
 refine cs2 ?_
 refine c_region ?_
 refine lv e_move ?_
 refine lv (v := .bool false) (e_eql (a := (310 : Int)) (b := (0 : Int)) rfl rfl) ?_
 refine lnf ?_
 refine c_no rfl ?_
 refine csk ?_
 refine csr ?_
 refine lv e_move ?_
 refine lv e_assign ?_
 refine lnf ?_
 refine c_ret ?_
 refine ret1 Try.results20 (v := .int .i64 (310)) rfl ?_
 intro w hw
 exact ⟨rfl, St.closeJour (i := i) (dn := true) (M := [storeR S (ckS k (i.epoch + 1) i.next bs)]) (st_mask [true, true, true, true, false, false, false, false] rfl (hw.perm (L' := [pt J (.cells #[pp S 0, Nx (i.epoch), Nx (i.next), sB ps i.state cs, sB pr i.recs cr, Nx (i.size), .bool true] 84), rB ps i.state cs, recsR 30 pr cr i.recs, storeR S (ckS k (i.epoch + 1) i.next bs), pt b1 (.cells #[pp J 0] 43), pt (blk (fa10 6)) (.cells #[Nx (i.epoch + 1), Nx (i.next), sB (sla (fa10 32)) bs (slc (fa10 32)), .slice none 0 0, Nx (24 + bs.length)] 36), pt b2 (.cells #[sB va bs (vc)] 30), rB (sla (fa10 32)) bs (slc (fa10 32))]) (by exact (perm_ix [0, 5, 6, 4, 1, 2, 3, 7] 8 rfl (by kernel_rfl) (by kernel_rfl)))))⟩
set_option maxHeartbeats 4000000 in
theorem checkp_ok (β : Base) (w : World) (J S : Nat) (k : KS) (i : KI) (bs : Bs) (hlong : bs.length ≤ 65536) (hfit : k.fits 524288) (hful : i.epoch < 4611686018427387903) (hc : ckOk k (i.epoch + 1) i.next bs) (v : Value) (hs : Sl U8R β.heap v bs) (hw : St β [jourR J S i false, storeR S k] w) : Calls Try.prog 20 #[pp J 0, v] w fun r w' => r = .returned (.int .i64 0) ∧ St β [jourR J S (ckI i bs) false, storeR S (ckS k (i.epoch + 1) i.next bs)] w' := by
 obtain ⟨va, vc, rfl, vl, vm, ve⟩ := hs.get
 obtain ⟨ps, pr, cs, cr, hw⟩ := St.openJour hw
 refine enter (n := 47) Try.func20 rfl Try.ntmps20 rfl ?_ hw
 refine csr ?_
 refine l_mv rfl rfl rfl (m_box (v := pp J 0) rfl) ?_
 rintro _ _ ⟨b1, rfl, rfl⟩
 refine l_mv rfl rfl rfl (m_box (v := sB va bs (vc)) rfl) ?_
 rintro _ _ ⟨b2, rfl, rfl⟩
 refine lv e_assign ?_
 refine lnf ?_
 refine cs2 ?_
 refine c_region ?_
 refine lv (v := pp J 0) (e_load1 tf43 rfl (k_pt 1 rfl rfl)) ?_
 refine lv (v := sB va bs (vc)) (e_load1 tf21 rfl (k_pt 0 rfl rfl)) ?_
 refine lcf (cl0 (vs := [pp J 0, sB va bs (vc)]) tf74 rfl rfl) rfl fun w β1 sb kn hw1 back => (ready_c β1 w hw1 J S (Nx (i.epoch)) (Nx (i.next)) (sB ps i.state cs) (sB pr i.recs cr) (Nx (i.size)) false (kn _ (k_pt 2 rfl rfl)) bs _ (Sl.mono _ _ _ _ _ sb (⟨⟨_, _, rfl, vl, vm, ve⟩⟩ : Sl U8R _ _ bs)) (0) ((if_neg (by omega)).trans (if_neg (by decide)))).mono ?_
 rintro e w' ⟨rfl, hw'⟩
 refine ⟨_, rfl, _, back _ _ hw', ?_⟩
 clear hw1 hw' back kn sb
 refine lv e_assign ?_
 refine lnc ?_
 refine lv e_move ?_
 refine lv (v := .bool false) (e_neq (a := (0 : Int)) (b := (0 : Int)) rfl rfl) ?_
 refine lnf ?_
 refine c_no rfl ?_
 refine csk ?_
 refine cs2 ?_
 refine c_region ?_
 refine lv (v := pp J 0) (e_load1 tf43 rfl (k_pt 1 rfl rfl)) ?_
 refine lv (v := pp J 0) (e_nil (a := ⟨J, 0, none⟩) rfl) ?_
 refine lv (e_fieldPt rfl tf75) ?_
 refine lv (e_fieldPt rfl tf48) ?_
 refine lv (v := Nx (i.epoch)) (e_load1 tf25 rfl (k_pt 2 rfl rfl)) ?_
 refine lv (e_eql (a := ((i.epoch : Nat) : Int)) (b := (4611686018427387903 : Int)) rfl rfl) ?_
 refine lnf ?_
 refine c_if (((i.epoch : Nat) : Int) = (4611686018427387903 : Int)) rfl (fun hc3 => ?_) (fun hc3 => ?_)
 ·exact absurd hc3 (by omega)
 refine csk ?_
 refine c_seq ?_
 refine c_any [⟨[], [], [0], [20], fun f => f 20 = pp J 0⟩, ⟨[0], [0], [], [21], fun f => f 21 = pp J 0⟩, ⟨[0, 1], [1], [], [22], fun f => f 22 = pp J 1⟩, ⟨[0, 1, 2], [2], [], [23], fun f => f 23 = pp J 1⟩, ⟨[0, 1, 2, 3], [3], [], [24], fun f => f 24 = Nx (i.epoch)⟩, ⟨[0, 1, 2, 3, 4], [4], [], [25], fun f => f 25 = Nx (i.epoch + 1)⟩, ⟨[], [], [0], [26], fun f => f 26 = pp J 0⟩, ⟨[6], [6], [], [27], fun f => f 27 = pp J 0⟩, ⟨[6, 7], [7], [], [28], fun f => f 28 = pp J 1⟩, ⟨[6, 7, 8], [8], [], [29], fun f => f 29 = pp J 2⟩, ⟨[6, 7, 8, 9], [9], [], [30], fun f => f 30 = Nx (i.next)⟩, ⟨[], [], [1], [31], fun f => f 31 = sB va bs (vc)⟩, ⟨[11], [11], [], [32], fun f => f 32 = sB (sla (f 32)) bs (slc (f 32))⟩, ⟨[], [], [1], [33], fun f => f 33 = sB va bs (vc)⟩, ⟨[13], [13], [], [34], fun f => f 34 = Nx (bs.length)⟩, ⟨[13, 14], [14], [], [35], fun f => f 35 = Nx (24 + bs.length)⟩, ⟨(List.range 16), [5, 10, 12, 15], [], [32, 36], fun f => f 36 = .agg #[Nx (i.epoch + 1), Nx (i.next), sB (sla (f 32)) bs (slc (f 32)), .slice none 0 0, Nx (24 + bs.length)]⟩, ⟨[], [], [], [6], fun f => f 6 = .pointer (some ⟨(blk (f 6)), 0, none⟩)⟩, ⟨(List.range 18), [17, 16], [], [], fun _ => True⟩] [⟨none, none, [11, 13], [], fun _ => pt b2 (.cells #[sB va bs (vc)] 30)⟩, ⟨none, none, [0, 6], [], fun _ => pt b1 (.cells #[pp J 0] 43)⟩, ⟨none, none, [4, 10], [], fun _ => pt J (.cells #[pp S 0, Nx (i.epoch), Nx (i.next), sB ps i.state cs, sB pr i.recs cr, Nx (i.size), .bool false] 84)⟩, ⟨none, none, [], [], fun _ => rB ps i.state cs⟩, ⟨none, none, [], [], fun _ => recsR 30 pr cr i.recs⟩, ⟨none, none, [], [], fun _ => storeR S k⟩, ⟨(some 12), none, [], [32], fun f => rB (sla (f 32)) bs (slc (f 32))⟩, ⟨(some 17), (some 18), [18], [6], fun f => pt (blk (f 6)) (.cells #[.int .i64 (0), .int .i64 (0), .slice none 0 0, .slice none 0 0, .int .i64 (0)] 36)⟩, ⟨(some 18), none, [], [6, 32], fun f => pt (blk (f 6)) (.cells #[Nx (i.epoch + 1), Nx (i.next), sB (sla (f 32)) bs (slc (f 32)), .slice none 0 0, Nx (24 + bs.length)] 36)⟩] [(2, pp b1 0), (3, pp b2 0)] [0, 1] [] (by kernel_rfl) (by kernel_rfl) (by kernel_rfl) (by kernel_rfl) rfl ⟨rfl, rfl, trivial⟩ ⟨?_, ?_, ?_, ?_, ?_, ?_, ?_, ?_, ?_, ?_, ?_, ?_, ?_, ?_, ?_, ?_, ?_, ?_, ?_, trivial⟩ ?_
 ·rintro f M - ⟨i0, -⟩
  exact obv (L' := pt b1 (.cells #[pp J 0] 43) :: M) (up_cons (d := 2) rfl i0) rfl (e_load1 tf43 rfl (k_pt 0 rfl rfl)) (perm_front 0 rfl) (by rfl)
 ·rintro f M ⟨k0, -⟩ -
  exact ob0 (up_cons (d := 20) rfl k0) rfl (e_nil (a := ⟨J, 0, none⟩) rfl) (.refl _)
 ·rintro f M ⟨k0, -⟩ -
  exact ob0 (up_cons (d := 21) rfl k0) rfl (e_fieldPt rfl tf75) (.refl _)
 ·rintro f M ⟨k0, -⟩ -
  exact ob0 (up_cons (d := 22) rfl k0) rfl (e_fieldPt rfl tf48) (.refl _)
 ·rintro f M ⟨k0, -⟩ -
  exact obv (L' := pt J (.cells #[pp S 0, Nx (i.epoch), Nx (i.next), sB ps i.state cs, sB pr i.recs cr, Nx (i.size), .bool false] 84) :: M) (up_cons (d := 23) rfl k0) rfl (e_load1 tf25 rfl (k_pt 0 rfl rfl)) (perm_front 0 rfl) (by rfl)
 ·rintro f M ⟨k0, -⟩ -
  exact ob0 (up_cons (d := 24) rfl k0) rfl (e_add (a := ((i.epoch : Nat) : Int)) (b := (1 : Int)) rfl rfl (i64n (by omega) (by omega))) (.refl _)
 ·rintro f M - ⟨i0, -⟩
  exact obv (L' := pt b1 (.cells #[pp J 0] 43) :: M) (up_cons (d := 2) rfl i0) rfl (e_load1 tf43 rfl (k_pt 0 rfl rfl)) (perm_front 0 rfl) (by rfl)
 ·rintro f M ⟨k0, -⟩ -
  exact ob0 (up_cons (d := 26) rfl k0) rfl (e_nil (a := ⟨J, 0, none⟩) rfl) (.refl _)
 ·rintro f M ⟨k0, -⟩ -
  exact ob0 (up_cons (d := 27) rfl k0) rfl (e_fieldPt rfl tf75) (.refl _)
 ·rintro f M ⟨k0, -⟩ -
  exact ob0 (up_cons (d := 28) rfl k0) rfl (e_fieldPt rfl tf53) (.refl _)
 ·rintro f M ⟨k0, -⟩ -
  exact obv (L' := pt J (.cells #[pp S 0, Nx (i.epoch), Nx (i.next), sB ps i.state cs, sB pr i.recs cr, Nx (i.size), .bool false] 84) :: M) (up_cons (d := 29) rfl k0) rfl (e_load1 tf25 rfl (k_pt 0 rfl rfl)) (perm_front 0 rfl) (by rfl)
 ·rintro f M - ⟨i0, -⟩
  exact obv (L' := pt b2 (.cells #[sB va bs (vc)] 30) :: M) (up_cons (d := 3) rfl i0) rfl (e_load1 tf21 rfl (k_pt 0 rfl rfl)) (perm_front 0 rfl) (by rfl)
 ·rintro f M ⟨k0, -⟩ -
  refine ob_start (L' := M) (by rfl) (up_cons (d := 31) rfl k0) ?_
  refine lcf (cl0 (vs := [sB va bs (vc)]) tf62 rfl rfl) rfl fun w β1 sb kn hw1 back => (clone_ok β1 w hw1 bs _ (by omega) (Sl.mono _ _ _ _ _ sb (⟨⟨_, _, rfl, vl, vm, ve⟩⟩ : Sl U8R _ _ bs))).mono ?_
  rintro e w' ⟨p6, c7, rfl, hw'⟩
  refine ⟨_, rfl, _, back _ _ hw', ?_⟩
  clear hw1 hw' back kn sb
  refine l_nil ?_
  exact f_owes_d (up_cons (d := 31) rfl k0) rfl (perm_front 0 rfl)
 ·rintro f M - ⟨i0, -⟩
  exact obv (L' := pt b2 (.cells #[sB va bs (vc)] 30) :: M) (up_cons (d := 3) rfl i0) rfl (e_load1 tf21 rfl (k_pt 0 rfl rfl)) (perm_front 0 rfl) (by rfl)
 ·rintro f M ⟨k0, -⟩ -
  exact ob0 (up_cons (d := 33) rfl k0) rfl (e_len (a := va) (n := bs.length) (c := vc) rfl tf11) (.refl _)
 ·rintro f M ⟨k0, -⟩ -
  exact ob0 (up_cons (d := 34) rfl k0) rfl (e_add (a := (24 : Int)) (b := ((bs.length : Nat) : Int)) rfl rfl (i64n (by omega) (by omega))) (.refl _)
 ·rintro f M ⟨k0, k1, k2, k3, -⟩ -
  have hs32 : f 32 = sB (sla (f 32)) bs (slc (f 32)) := k2
  exact ob0 (up_cons (d := 35) (up_cons (up_cons (d := 30) (up_cons (d := 25) rfl k0) k1) hs32) k3) rfl (e_build tf55 tf58 (vs := [(0, Nx (i.epoch + 1)), (1, Nx (i.next)), (2, sB (sla (f 32)) bs (slc (f 32))), (4, Nx (24 + bs.length))]) (cells := #[Nx (i.epoch + 1), Nx (i.next), sB (sla (f 32)) bs (slc (f 32)), .slice none 0 0, Nx (24 + bs.length)]) rfl rfl) (.refl _)
 ·rintro f M - -
  refine ob_start (L' := M) (by rfl) rfl ?_
  refine l_mv rfl rfl rfl (m_alloc tf55) ?_
  rintro _ _ ⟨b9, rfl, rfl⟩
  refine l_nil ?_
  exact f_owes_d rfl rfl (perm_front 0 rfl)
 ·rintro f M ⟨k0, k1, -⟩ -
  have hs6 : f 6 = .pointer (some ⟨(blk (f 6)), 0, none⟩) := k0
  have hs36 : f 36 = .agg #[Nx (i.epoch + 1), Nx (i.next), sB (sla (f 32)) bs (slc (f 32)), .slice none 0 0, Nx (24 + bs.length)] := k1
  refine ob_start (L' := pt (blk (f 6)) (.cells #[.int .i64 (0), .int .i64 (0), .slice none 0 0, .slice none 0 0, .int .i64 (0)] 36) :: M) (by rfl) (up_cons (up_cons rfl hs6) hs36) ?_
  refine lu (m_store 0 tf59 (cs' := #[Nx (i.epoch + 1), Nx (i.next), sB (sla (f 32)) bs (slc (f 32)), .slice none 0 0, Nx (24 + bs.length)]) rfl rfl rfl rfl rfl rfl rfl) ?_
  refine l_nil ?_
  exact f_owes_n (up_cons (up_cons rfl hs6) hs36) trivial (perm_front 0 rfl)
 rintro fa10 ⟨-, -, -, -, -, -, -, -, -, -, -, -, -, -, -, -, -, k17, -, -⟩ ⟨j0, j1, -⟩
 refine f_re (L' := [pt b2 (.cells #[sB va bs (vc)] 30), pt b1 (.cells #[pp J 0] 43), pt J (.cells #[pp S 0, Nx (i.epoch), Nx (i.next), sB ps i.state cs, sB pr i.recs cr, Nx (i.size), .bool false] 84), rB ps i.state cs, recsR 30 pr cr i.recs, storeR S k, rB (sla (fa10 32)) bs (slc (fa10 32)), pt (blk (fa10 6)) (.cells #[Nx (i.epoch + 1), Nx (i.next), sB (sla (fa10 32)) bs (slc (fa10 32)), .slice none 0 0, Nx (24 + bs.length)] 36)]) (by rfl) ?_
 refine f_rebase (d := 2) j0 ?_
 refine f_rebase (d := 3) j1 ?_
 refine f_rebase (d := 6) k17 ?_
 refine ftc ?_
 refine lv (v := pp J 0) (e_load1 tf43 rfl (k_pt 1 rfl rfl)) ?_
 refine lv (v := .func (.func 55) #[] #[pp b1 0, .pointer (some ⟨(blk (fa10 6)), 0, none⟩), pp b2 0]) (e_func (u := []) (v := [pp b1 0, .pointer (some ⟨(blk (fa10 6)), 0, none⟩), pp b2 0]) rfl rfl) ?_
 refine l_call rfl rfl rfl (cl0 (vs := [pp J 0, .func (.func 55) #[] #[pp b1 0, .pointer (some ⟨(blk (fa10 6)), 0, none⟩), pp b2 0]]) tf73 rfl rfl) ?_
 intro w hw
 replace hw := hw.perm (L' := _ :: _ :: _ :: _ :: _ :: _ :: _ :: _ :: []) (by exact ((((((((perm_front 6 rfl).trans (perm_front 5 rfl)).trans (perm_front 5 rfl)).trans (perm_front 6 rfl)).trans (perm_front 4 rfl)).trans (perm_front 7 rfl)).trans (perm_front 6 rfl)).trans (perm_front 7 rfl)))
 obtain ⟨β1, sb, kn, hw1, back⟩ := St.frame (L := [_, _, _, _, _]) (M := _ :: _ :: _ :: []) hw
 refine (att_check_ok β1 w J S b1 (blk (fa10 6)) b2 vc (i.epoch + 1) i.next va k i (sB ps i.state cs) (sB pr i.recs cr) (sB (sla (fa10 32)) bs (slc (fa10 32))) (.slice none 0 0) (Nx (24 + bs.length)) bs (by omega) (by omega) (Elems.mono _ _ _ _ _ sb ve) hfit (by omega) hc hw1).mono ?_
 rintro e w' ⟨rfl, hw'⟩
 refine ⟨_, rfl, _, back _ _ hw', ?_⟩
 clear hw hw1 hw' back kn sb
 refine lv e_assign ?_
 refine lnf ?_
 refine cs2 ?_
 refine c_region ?_
 refine lv e_move ?_
 refine lv (v := .bool true) (e_eql (a := (0 : Int)) (b := (0 : Int)) rfl rfl) ?_
 refine lnf ?_
 refine c_yes rfl ?_
 refine c_region ?_
 refine lv (v := pp J 0) (e_load1 tf43 rfl (k_pt 1 rfl rfl)) ?_
 refine lv (v := .agg #[Nx (i.epoch + 1), Nx (i.next), sB (sla (fa10 32)) bs (slc (fa10 32)), .slice none 0 0, Nx (24 + bs.length)]) (e_load tf59 rfl (k_pt 2 rfl rfl) rfl) ?_
 refine lv (v := pp J 0) (e_nil (a := ⟨J, 0, none⟩) rfl) ?_
 refine lv (e_fieldPt rfl tf75) ?_
 refine lu (m_store 0 tf59 (cs' := #[pp S 0, Nx (i.epoch + 1), Nx (i.next), sB (sla (fa10 32)) bs (slc (fa10 32)), .slice none 0 0, Nx (24 + bs.length), .bool false]) rfl rfl rfl rfl rfl rfl rfl) ?_
 refine lnc ?_
 refine lv e_move ?_
 refine lv e_assign ?_
 refine lnf ?_
 refine c_ret ?_
 refine ret1 Try.results20 (v := .int .i64 (0)) rfl ?_
 intro w hw
 replace hw := hw.emp (recs_nil 30 _)
 exact ⟨rfl, St.closeJour (i := ckI i bs) (dn := false) (M := [storeR S (ckS k (i.epoch + 1) i.next bs)]) (st_mask [true, true, true, true, false, false, false, false, false] rfl (hw.perm (L' := [pt J (.cells #[pp S 0, Nx (i.epoch + 1), Nx (i.next), sB (sla (fa10 32)) bs (slc (fa10 32)), .slice none 0 0, Nx (24 + bs.length), .bool false] 84), rB (sla (fa10 32)) bs (slc (fa10 32)), recsR 30 none 0 [], storeR S (ckS k (i.epoch + 1) i.next bs), pt b1 (.cells #[pp J 0] 43), pt (blk (fa10 6)) (.cells #[Nx (i.epoch + 1), Nx (i.next), sB (sla (fa10 32)) bs (slc (fa10 32)), .slice none 0 0, Nx (24 + bs.length)] 36), pt b2 (.cells #[sB va bs (vc)] 30), rB ps i.state cs, recsR 30 pr cr i.recs]) (by exact (perm_ix [1, 8, 0, 5, 2, 3, 4, 6, 7] 9 rfl (by kernel_rfl) (by kernel_rfl)))))⟩
end Go.Proofs
