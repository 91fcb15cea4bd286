/-
 Open, Append, Checkpoint, walked. Printed by a program of my own.
-/
import Derived.Test.YtjejfkajcbdgjaaGreatJn5
namespace Go.Proofs
open Go Go.Sl Go.Jn
theorem fits_ok {k : KS} (h : k.okP) (hp : k.power ≤ 9223372036854775807) : k.fits 524288 := by
 unfold KS.okP at h
 exact ⟨by omega, by omega, by omega, hp⟩
theorem tf69 : cfB Tryz.prog 45 = true := by kernel_rfl
theorem tf70 : stB Tryz.prog 143 [(0, 1), (1, 5), (6, 1)] = true := by kernel_rfl
theorem tf71 : (Tryz.prog.info? 143).bind (·.zero) = some (.agg #[.pointer none, .int .i64 (0), .int .i64 (0), .slice none 0 0, .slice none 0 0, .int .i64 (0), .bool false]) := by kernel_rfl
theorem tf72 : (Tryz.prog.info? 89).bind (·.zero) = some (.pointer none) := by kernel_rfl
theorem tf73 : cfB Tryz.prog 62 = true := by kernel_rfl
theorem tf74 : cfB Tryz.prog 60 = true := by kernel_rfl
theorem tf75 : fldB Tryz.prog 143 1 1 5 true = true := by kernel_rfl
theorem tf76 : (Tryz.prog.info? 141).bind (·.zero) = some (.pointer none) := by kernel_rfl
theorem readC_ok (β : Base) (w : World) (hw : St β [] w) (k : KS) (vh va vb : Value) (hH : Sl U8R β.heap vh k.head) (hA : Sl U8R β.heap va k.a) (hB : Sl U8R β.heap vb k.b) (h : k.okP) (i : KI) (h2 : readI k = some i) : Calls Tryz.prog 45 #[.agg #[vh, va, vb, Ix k.power]] w fun r w' => ∃ ps pr cs cr, r = .returned (.tuple #[.agg #[Nx i.epoch, Nx i.next, .slice ps i.state.length cs, .slice pr i.recs.length cr, Nx i.size], .int .i64 0]) ∧ St β [row (.slice ps i.state.length cs) 5 1 i.state.length (BX i.state), recsR 27 pr cr i.recs] w' := by
 refine (read_ok β w hw k vh va vb hH hA hB).mono fun r w' hh => ?_
 rcases hh with ⟨_, b, _⟩ | ⟨_, _, b, _⟩ | ⟨j, _, b, hh⟩
 ·exact absurd h b
 ·rw [h2] at b; cases b
 ·rw [h2] at b; injection b with b; subst b; exact hh
theorem att_open_ok (β : Base) (w : World) (J S q6 q1 q4 : Nat) (k : KS) (i : KI) (vs vr : Value) (hk : k.fits 524288) (hc : cutOk (k.area i.epoch) k.power i.size) (hw : St β [pt J (.cells #[.pointer (some ⟨S, 0, none⟩), Nx (i.epoch), Nx (i.next), vs, vr, Nx (i.size), .bool false] 143), pt q6 (.cells #[.pointer (some ⟨J, 0, none⟩)] 89), pt q1 (.cells #[.pointer (some ⟨S, 0, none⟩)] 26), pt q4 (.cells #[Nx (i.epoch), Nx (i.next), vs, vr, Nx (i.size)] 109), storeR S k] w) : Calls Tryz.prog 62 #[.pointer (some ⟨J, 0, none⟩), .func (.func 89) #[] #[.pointer (some ⟨q6, 0, none⟩), .pointer (some ⟨q1, 0, none⟩), .pointer (some ⟨q4, 0, none⟩)]] w fun r w' => r = .returned (.int .i64 0) ∧ St β [pt J (.cells #[.pointer (some ⟨S, 0, none⟩), Nx (i.epoch), Nx (i.next), vs, vr, Nx (i.size), .bool false] 143), pt q6 (.cells #[.pointer (some ⟨J, 0, none⟩)] 89), pt q1 (.cells #[.pointer (some ⟨S, 0, none⟩)] 26), pt q4 (.cells #[Nx (i.epoch), Nx (i.next), vs, vr, Nx (i.size)] 109), storeR S (cutS k i.epoch i.size)] w' := by
 refine (attempt_ok β w J 89 [.pointer (some ⟨q6, 0, none⟩), .pointer (some ⟨q1, 0, none⟩), .pointer (some ⟨q4, 0, none⟩)] _ _ _ _ _ _ _ [pt q6 (.cells #[.pointer (some ⟨J, 0, none⟩)] 89), pt q1 (.cells #[.pointer (some ⟨S, 0, none⟩)] 26), pt q4 (.cells #[Nx (i.epoch), Nx (i.next), vs, vr, Nx (i.size)] 109), storeR S k] [pt q6 (.cells #[.pointer (some ⟨J, 0, none⟩)] 89), pt q1 (.cells #[.pointer (some ⟨S, 0, none⟩)] 26), pt q4 (.cells #[Nx (i.epoch), Nx (i.next), vs, vr, Nx (i.size)] 109), storeR S (cutS k i.epoch i.size)] [pt q6 (.cells #[.pointer (some ⟨J, 0, none⟩)] 89), pt q1 (.cells #[.pointer (some ⟨S, 0, none⟩)] 26), pt q4 (.cells #[Nx (i.epoch), Nx (i.next), vs, vr, Nx (i.size)] 109), storeR S k] (cutOk (k.area i.epoch) k.power i.size) (¬ (cutOk (k.area i.epoch) k.power i.size)) (by kernel_rfl) hw (fun β' sb w hw => open1_ok β' w J S q6 q1 q4 k i vs vr (.bool false) hk hw)).mono fun r w' hh => ?_
 rcases hh with ⟨a, b, c⟩ | ⟨a, b, c⟩
 ·exact ⟨a, c⟩
 ·exact absurd hc b
theorem att_append_ok (β : Base) (w : World) (J S q2 q7 q8 cb : Nat) (pb : Option Addr) (k : KS) (i : KI) (vs vr : Value) (fb : Bs) (hk : k.fits 524288) (hb : fb.length ≤ 131072) (hsz : i.size ≤ 524288) (hc : wrOk k.power fb) (hw : St β [pt J (.cells #[.pointer (some ⟨S, 0, none⟩), Nx (i.epoch), Nx (i.next), vs, vr, Nx (i.size), .bool false] 143), pt q2 (.cells #[.pointer (some ⟨J, 0, none⟩)] 89), pt q7 (.cells #[.pointer (some ⟨J, 1, none⟩)] 141), pt q8 (.cells #[.slice pb (fb).length cb] 27), row (.slice pb (fb).length cb) 5 1 ((fb).length) (BX fb), storeR S k] w) : Calls Tryz.prog 62 #[.pointer (some ⟨J, 0, none⟩), .func (.func 63) #[] #[.pointer (some ⟨q2, 0, none⟩), .pointer (some ⟨q7, 0, none⟩), .pointer (some ⟨q8, 0, none⟩)]] w fun r w' => r = .returned (.int .i64 0) ∧ St β [pt J (.cells #[.pointer (some ⟨S, 0, none⟩), Nx (i.epoch), Nx (i.next), vs, vr, Nx (i.size), .bool false] 143), pt q2 (.cells #[.pointer (some ⟨J, 0, none⟩)] 89), pt q7 (.cells #[.pointer (some ⟨J, 1, none⟩)] 141), pt q8 (.cells #[.slice pb (fb).length cb] 27), row (.slice pb (fb).length cb) 5 1 ((fb).length) (BX fb), storeR S (wrS k i.epoch i.size fb)] w' := by
 refine (attempt_ok β w J 63 [.pointer (some ⟨q2, 0, none⟩), .pointer (some ⟨q7, 0, none⟩), .pointer (some ⟨q8, 0, none⟩)] _ _ _ _ _ _ _ [pt q2 (.cells #[.pointer (some ⟨J, 0, none⟩)] 89), pt q7 (.cells #[.pointer (some ⟨J, 1, none⟩)] 141), pt q8 (.cells #[.slice pb (fb).length cb] 27), row (.slice pb (fb).length cb) 5 1 ((fb).length) (BX fb), storeR S k] [pt q2 (.cells #[.pointer (some ⟨J, 0, none⟩)] 89), pt q7 (.cells #[.pointer (some ⟨J, 1, none⟩)] 141), pt q8 (.cells #[.slice pb (fb).length cb] 27), row (.slice pb (fb).length cb) 5 1 ((fb).length) (BX fb), storeR S (wrS k i.epoch i.size fb)] [pt q2 (.cells #[.pointer (some ⟨J, 0, none⟩)] 89), pt q7 (.cells #[.pointer (some ⟨J, 1, none⟩)] 141), pt q8 (.cells #[.slice pb (fb).length cb] 27), row (.slice pb (fb).length cb) 5 1 ((fb).length) (BX fb), storeR S (wrS k i.epoch i.size fb)] (wrOk k.power fb) (¬ (wrOk k.power fb)) (by kernel_rfl) hw (fun β' sb w hw => append1_ok β' w J S q2 q7 q8 cb pb k i vs vr (.bool false) fb hk hb hsz hw)).mono fun r w' hh => ?_
 rcases hh with ⟨a, b, c⟩ | ⟨a, b, c⟩
 ·exact ⟨a, c⟩
 ·exact absurd hc b
theorem att_append_no (β : Base) (w : World) (J S q2 q7 q8 cb : Nat) (pb : Option Addr) (k : KS) (i : KI) (vs vr : Value) (fb : Bs) (hk : k.fits 524288) (hb : fb.length ≤ 131072) (hsz : i.size ≤ 524288) (hc : ¬ (wrOk k.power fb)) (hw : St β [pt J (.cells #[.pointer (some ⟨S, 0, none⟩), Nx (i.epoch), Nx (i.next), vs, vr, Nx (i.size), .bool false] 143), pt q2 (.cells #[.pointer (some ⟨J, 0, none⟩)] 89), pt q7 (.cells #[.pointer (some ⟨J, 1, none⟩)] 141), pt q8 (.cells #[.slice pb (fb).length cb] 27), row (.slice pb (fb).length cb) 5 1 ((fb).length) (BX fb), storeR S k] w) : Calls Tryz.prog 62 #[.pointer (some ⟨J, 0, none⟩), .func (.func 63) #[] #[.pointer (some ⟨q2, 0, none⟩), .pointer (some ⟨q7, 0, none⟩), .pointer (some ⟨q8, 0, none⟩)]] w fun r w' => r = .returned (.int .i64 310) ∧ St β [pt J (.cells #[.pointer (some ⟨S, 0, none⟩), Nx (i.epoch), Nx (i.next), vs, vr, Nx (i.size), .bool true] 143), pt q2 (.cells #[.pointer (some ⟨J, 0, none⟩)] 89), pt q7 (.cells #[.pointer (some ⟨J, 1, none⟩)] 141), pt q8 (.cells #[.slice pb (fb).length cb] 27), row (.slice pb (fb).length cb) 5 1 ((fb).length) (BX fb), storeR S (wrS k i.epoch i.size fb)] w' := by
 refine (attempt_ok β w J 63 [.pointer (some ⟨q2, 0, none⟩), .pointer (some ⟨q7, 0, none⟩), .pointer (some ⟨q8, 0, none⟩)] _ _ _ _ _ _ _ [pt q2 (.cells #[.pointer (some ⟨J, 0, none⟩)] 89), pt q7 (.cells #[.pointer (some ⟨J, 1, none⟩)] 141), pt q8 (.cells #[.slice pb (fb).length cb] 27), row (.slice pb (fb).length cb) 5 1 ((fb).length) (BX fb), storeR S k] [pt q2 (.cells #[.pointer (some ⟨J, 0, none⟩)] 89), pt q7 (.cells #[.pointer (some ⟨J, 1, none⟩)] 141), pt q8 (.cells #[.slice pb (fb).length cb] 27), row (.slice pb (fb).length cb) 5 1 ((fb).length) (BX fb), storeR S (wrS k i.epoch i.size fb)] [pt q2 (.cells #[.pointer (some ⟨J, 0, none⟩)] 89), pt q7 (.cells #[.pointer (some ⟨J, 1, none⟩)] 141), pt q8 (.cells #[.slice pb (fb).length cb] 27), row (.slice pb (fb).length cb) 5 1 ((fb).length) (BX fb), storeR S (wrS k i.epoch i.size fb)] (wrOk k.power fb) (¬ (wrOk k.power fb)) (by kernel_rfl) hw (fun β' sb w hw => append1_ok β' w J S q2 q7 q8 cb pb k i vs vr (.bool false) fb hk hb hsz hw)).mono fun r w' hh => ?_
 rcases hh with ⟨a, b, c⟩ | ⟨a, b, c⟩
 ·exact absurd b hc
 ·exact ⟨a, c⟩
set_option maxHeartbeats 4000000 in
theorem open_ok (β : Base) (w : World) (S : Nat) (k : KS) (hok : k.okP) (hpw : k.power ≤ 9223372036854775807) (i : KI) (hri : readI k = some i) (hcut : cutOk (k.area i.epoch) k.power i.size) (hw : St β [storeR S k] w) : Calls Tryz.prog 47 #[.pointer (some ⟨S, 0, none⟩)] w fun r w' => ∃ J, r = .returned (.tuple #[.pointer (some ⟨J, 0, none⟩), .int .i64 0]) ∧ St β [jourR J S i false, storeR S (cutS k i.epoch i.size)] w' := by
 have hfit : k.fits 524288 := fits_ok hok hpw
 refine enter (n := 31) Tryz.func47 rfl Tryz.ntmps47 rfl ?_ hw
 refine c_seq ?_
 refine c_region ?_
 refine l_mv rfl rfl rfl (m_box (v := .pointer (some ⟨S, 0, none⟩)) rfl) ?_
 rintro _ _ ⟨b1, rfl, rfl⟩
 refine l_val (v := .pointer none) rfl rfl rfl (e_assign) ?_
 refine l_val (v := .int .i64 (0)) rfl rfl rfl (e_assign) ?_
 refine l_nil ?_
 refine f_then ?_
 refine c_seq ?_
 refine c_seq ?_
 refine c_region ?_
 refine l_val (v := .pointer (some ⟨S, 0, none⟩)) rfl rfl rfl (e_load1 tf31 (v := .pointer (some ⟨S, 0, none⟩)) rfl (k_pt 0 (cs := #[.pointer (some ⟨S, 0, none⟩)]) (vs := [.pointer (some ⟨S, 0, none⟩)]) rfl rfl)) ?_
 refine l_val (v := .bool false) rfl rfl rfl (e_eql_pnil (p := some (⟨S, 0, none⟩)) rfl rfl tf37) ?_
 refine l_nil ?_
 refine f_then ?_
 refine c_no rfl ?_
 refine c_skip ?_
 refine f_then ?_
 refine c_seq ?_
 refine c_perm (L' := [storeR S k, pt b1 (.cells #[.pointer (some ⟨S, 0, none⟩)] 26)]) (by exact (perm_ix [1, 0] 2 rfl (by kernel_rfl) (by kernel_rfl))) ?_
 refine c_openStore rfl (fun pH2 pA3 pB4 cH5 cA6 cB7 => ?_)
 refine c_region ?_
 refine l_val (v := .pointer (some ⟨S, 0, none⟩)) rfl rfl rfl (e_load1 tf31 (v := .pointer (some ⟨S, 0, none⟩)) rfl (k_pt 4 (cs := #[.pointer (some ⟨S, 0, none⟩)]) (vs := [.pointer (some ⟨S, 0, none⟩)]) rfl rfl)) ?_
 refine l_val (v := .pointer (some ⟨S, 0, none⟩)) rfl rfl rfl (e_nil (a := ⟨S, 0, none⟩) rfl) ?_
 refine l_val (v := .agg #[.slice pH2 (k.head).length cH5, .slice pA3 (k.a).length cA6, .slice pB4 (k.b).length cB7, Ix (k.power)]) rfl rfl rfl (e_load tf56 (cs := [.slice pH2 (k.head).length cH5, .slice pA3 (k.a).length cA6, .slice pB4 (k.b).length cB7, Ix (k.power)]) rfl (k_pt 0 (cs := #[.slice pH2 (k.head).length cH5, .slice pA3 (k.a).length cA6, .slice pB4 (k.b).length cB7, Ix (k.power)]) (vs := [.slice pH2 (k.head).length cH5, .slice pA3 (k.a).length cA6, .slice pB4 (k.b).length cB7, Ix (k.power)]) rfl rfl) rfl) ?_
 refine l_call rfl rfl rfl (cl_value (fst := []) (cap := []) (vs := [.agg #[.slice pH2 (k.head).length cH5, .slice pA3 (k.a).length cA6, .slice pB4 (k.b).length cB7, Ix (k.power)]]) (all := [.agg #[.slice pH2 (k.head).length cH5, .slice pA3 (k.a).length cA6, .slice pB4 (k.b).length cB7, Ix (k.power)]]) tf69 rfl rfl rfl) ?_
 intro w hw
 obtain ⟨β1, sb, kn, hw1, back⟩ := St.frame_all hw
 refine (readC_ok β1 w hw1 k _ _ _ (kn _ (Knows.of_res 1 rfl (Sl.mono U8R _ _) fun _ h => row_u8 h)) (kn _ (Knows.of_res 2 rfl (Sl.mono U8R _ _) fun _ h => row_u8 h)) (kn _ (Knows.of_res 3 rfl (Sl.mono U8R _ _) fun _ h => row_u8 h)) hok i hri).mono ?_
 rintro e w' ⟨ps8, pr9, cs10, cr11, rfl, hw'⟩
 refine ⟨_, rfl, _, back _ _ hw', ?_⟩
 clear hw hw1 hw' back kn sb
 refine l_val (v := .tuple #[.agg #[Nx (i.epoch), Nx (i.next), .slice ps8 (i.state).length cs10, .slice pr9 (i.recs).length cr11, Nx (i.size)], .int .i64 (0)]) rfl rfl rfl (e_move) ?_
 refine l_val (v := .agg #[Nx (i.epoch), Nx (i.next), .slice ps8 (i.state).length cs10, .slice pr9 (i.recs).length cr11, Nx (i.size)]) rfl rfl rfl (e_extract (vs := #[.agg #[Nx (i.epoch), Nx (i.next), .slice ps8 (i.state).length cs10, .slice pr9 (i.recs).length cr11, Nx (i.size)], .int .i64 (0)]) rfl rfl) ?_
 refine l_val (v := .int .i64 (0)) rfl rfl rfl (e_extract (vs := #[.agg #[Nx (i.epoch), Nx (i.next), .slice ps8 (i.state).length cs10, .slice pr9 (i.recs).length cr11, Nx (i.size)], .int .i64 (0)]) rfl rfl) ?_
 refine l_mv rfl rfl rfl (m_alloc tf55) ?_
 rintro _ _ ⟨b12, rfl, rfl⟩
 refine l_mu rfl rfl (m_store 0 tf59 (b := b12) (o := 0) (T := 109) (cs := #[.int .i64 (0), .int .i64 (0), .slice none 0 0, .slice none 0 0, .int .i64 (0)]) (cs' := #[Nx (i.epoch), Nx (i.next), .slice ps8 (i.state).length cs10, .slice pr9 (i.recs).length cr11, Nx (i.size)]) (v := .agg #[Nx (i.epoch), Nx (i.next), .slice ps8 (i.state).length cs10, .slice pr9 (i.recs).length cr11, Nx (i.size)]) rfl rfl rfl rfl rfl rfl rfl) ?_
 refine l_val (v := .int .i64 (0)) rfl rfl rfl (e_assign) ?_
 refine l_nil ?_
 refine f_then ?_
 refine c_seq ?_
 refine c_seq ?_
 refine c_region ?_
 refine l_val (v := .int .i64 (0)) rfl rfl rfl (e_move) ?_
 refine l_val (v := .bool false) rfl rfl rfl (e_neq (a := (0 : Int)) (b := (0 : Int)) rfl rfl) ?_
 refine l_nil ?_
 refine f_then ?_
 refine c_no rfl ?_
 refine c_skip ?_
 refine f_then ?_
 refine c_seq ?_
 refine c_region ?_
 refine l_val (v := .pointer (some ⟨S, 0, none⟩)) rfl rfl rfl (e_load1 tf31 (v := .pointer (some ⟨S, 0, none⟩)) rfl (k_pt 7 (cs := #[.pointer (some ⟨S, 0, none⟩)]) (vs := [.pointer (some ⟨S, 0, none⟩)]) rfl rfl)) ?_
 refine l_val (v := .agg #[Nx (i.epoch), Nx (i.next), .slice ps8 (i.state).length cs10, .slice pr9 (i.recs).length cr11, Nx (i.size)]) rfl rfl rfl (e_load tf59 (cs := [Nx (i.epoch), Nx (i.next), .slice ps8 (i.state).length cs10, .slice pr9 (i.recs).length cr11, Nx (i.size)]) rfl (k_pt 0 (cs := #[Nx (i.epoch), Nx (i.next), .slice ps8 (i.state).length cs10, .slice pr9 (i.recs).length cr11, Nx (i.size)]) (vs := [Nx (i.epoch), Nx (i.next), .slice ps8 (i.state).length cs10, .slice pr9 (i.recs).length cr11, Nx (i.size)]) rfl rfl) rfl) ?_
 refine l_val (v := .agg #[.pointer (some ⟨S, 0, none⟩), Nx (i.epoch), Nx (i.next), .slice ps8 (i.state).length cs10, .slice pr9 (i.recs).length cr11, Nx (i.size), .bool false]) rfl rfl rfl (e_build tf71 tf70 (vs := [(0, .pointer (some ⟨S, 0, none⟩)), (1, .agg #[Nx (i.epoch), Nx (i.next), .slice ps8 (i.state).length cs10, .slice pr9 (i.recs).length cr11, Nx (i.size)])]) (cells := #[.pointer (some ⟨S, 0, none⟩), Nx (i.epoch), Nx (i.next), .slice ps8 (i.state).length cs10, .slice pr9 (i.recs).length cr11, Nx (i.size), .bool false]) rfl rfl) ?_
 refine l_mv rfl rfl rfl (m_box (v := .agg #[.pointer (some ⟨S, 0, none⟩), Nx (i.epoch), Nx (i.next), .slice ps8 (i.state).length cs10, .slice pr9 (i.recs).length cr11, Nx (i.size), .bool false]) rfl) ?_
 rintro _ _ ⟨b13, rfl, rfl⟩
 refine l_mv rfl rfl rfl (m_alloc tf72) ?_
 rintro _ _ ⟨b14, rfl, rfl⟩
 refine l_mu rfl rfl (m_store 0 tf43 (b := b14) (o := 0) (T := 89) (cs := #[.pointer none]) (cs' := #[.pointer (some ⟨b13, 0, none⟩)]) (v := .pointer (some ⟨b13, 0, none⟩)) rfl rfl rfl rfl rfl rfl rfl) ?_
 refine l_nil ?_
 refine f_then ?_
 refine c_seq ?_
 refine c_seq ?_
 refine c_perm (L' := [pt S (.cells #[.slice pH2 (k.head).length cH5, .slice pA3 (k.a).length cA6, .slice pB4 (k.b).length cB7, Ix (k.power)] 29), row (.slice pH2 (k.head).length cH5) 5 1 ((k.head).length) (BX k.head), row (.slice pA3 (k.a).length cA6) 5 1 ((k.a).length) (BX k.a), row (.slice pB4 (k.b).length cB7) 5 1 ((k.b).length) (BX k.b), pt b14 (.cells #[.pointer (some ⟨b13, 0, none⟩)] 89), pt b13 (.cells #[.pointer (some ⟨S, 0, none⟩), Nx (i.epoch), Nx (i.next), .slice ps8 (i.state).length cs10, .slice pr9 (i.recs).length cr11, Nx (i.size), .bool false] 143), pt b12 (.cells #[Nx (i.epoch), Nx (i.next), .slice ps8 (i.state).length cs10, .slice pr9 (i.recs).length cr11, Nx (i.size)] 109), row (.slice ps8 (i.state).length cs10) 5 1 ((i.state).length) (BX i.state), recsR 27 pr9 cr11 i.recs, pt b1 (.cells #[.pointer (some ⟨S, 0, none⟩)] 26)]) (by exact (perm_ix [5, 6, 7, 8, 0, 1, 2, 3, 4, 9] 10 rfl (by kernel_rfl) (by kernel_rfl))) ?_
 refine c_closeStore (S := S) (k := k) (pH := pH2) (pA := pA3) (pB := pB4) (cH := cH5) (cA := cA6) (cB := cB7) (M := (pt b14 (.cells #[.pointer (some ⟨b13, 0, none⟩)] 89) :: pt b13 (.cells #[.pointer (some ⟨S, 0, none⟩), Nx (i.epoch), Nx (i.next), .slice ps8 (i.state).length cs10, .slice pr9 (i.recs).length cr11, Nx (i.size), .bool false] 143) :: pt b12 (.cells #[Nx (i.epoch), Nx (i.next), .slice ps8 (i.state).length cs10, .slice pr9 (i.recs).length cr11, Nx (i.size)] 109) :: row (.slice ps8 (i.state).length cs10) 5 1 ((i.state).length) (BX i.state) :: recsR 27 pr9 cr11 i.recs :: pt b1 (.cells #[.pointer (some ⟨S, 0, none⟩)] 26) :: [])) rfl ?_
 refine c_region ?_
 refine l_val (v := .pointer (some ⟨b13, 0, none⟩)) rfl rfl rfl (e_load1 tf43 (v := .pointer (some ⟨b13, 0, none⟩)) rfl (k_pt 1 (cs := #[.pointer (some ⟨b13, 0, none⟩)]) (vs := [.pointer (some ⟨b13, 0, none⟩)]) rfl rfl)) ?_
 refine l_val (v := .func (.func 89) #[] #[.pointer (some ⟨b14, 0, none⟩), .pointer (some ⟨b1, 0, none⟩), .pointer (some ⟨b12, 0, none⟩)]) rfl rfl rfl (e_func (u := []) (v := [.pointer (some ⟨b14, 0, none⟩), .pointer (some ⟨b1, 0, none⟩), .pointer (some ⟨b12, 0, none⟩)]) rfl rfl) ?_
 refine l_call rfl rfl rfl (cl_value (fst := []) (cap := []) (vs := [.pointer (some ⟨b13, 0, none⟩), .func (.func 89) #[] #[.pointer (some ⟨b14, 0, none⟩), .pointer (some ⟨b1, 0, none⟩), .pointer (some ⟨b12, 0, none⟩)]]) (all := [.pointer (some ⟨b13, 0, none⟩), .func (.func 89) #[] #[.pointer (some ⟨b14, 0, none⟩), .pointer (some ⟨b1, 0, none⟩), .pointer (some ⟨b12, 0, none⟩)]]) tf73 rfl rfl rfl) ?_
 intro w hw
 replace hw := hw.perm (L' := _ :: _ :: _ :: _ :: _ :: _ :: _ :: []) (by exact (((((((perm_front 5 rfl).trans (perm_front 5 rfl)).trans (perm_front 2 rfl)).trans (perm_front 5 rfl)).trans (perm_front 6 rfl)).trans (perm_front 5 rfl)).trans (perm_front 6 rfl)))
 obtain ⟨β1, sb, kn, hw1, back⟩ := St.frame (L := [_, _, _, _, _]) (M := _ :: _ :: []) hw
 refine (att_open_ok β1 w b13 S b14 b1 b12 k i (.slice ps8 (i.state).length cs10) (.slice pr9 (i.recs).length cr11) hfit hcut hw1).mono ?_
 rintro e w' ⟨rfl, hw'⟩
 refine ⟨_, rfl, _, back _ _ hw', ?_⟩
 clear hw hw1 hw' back kn sb
 refine l_val (v := .int .i64 (0)) rfl rfl rfl (e_assign) ?_
 refine l_nil ?_
 refine f_then ?_
 refine c_seq ?_
 refine c_region ?_
 refine l_val (v := .int .i64 (0)) rfl rfl rfl (e_move) ?_
 refine l_val (v := .bool false) rfl rfl rfl (e_neq (a := (0 : Int)) (b := (0 : Int)) rfl rfl) ?_
 refine l_nil ?_
 refine f_then ?_
 refine c_no rfl ?_
 refine c_skip ?_
 refine f_then ?_
 refine c_seq ?_
 refine c_region ?_
 refine l_val (v := .pointer (some ⟨b13, 0, none⟩)) rfl rfl rfl (e_load1 tf43 (v := .pointer (some ⟨b13, 0, none⟩)) rfl (k_pt 1 (cs := #[.pointer (some ⟨b13, 0, none⟩)]) (vs := [.pointer (some ⟨b13, 0, none⟩)]) rfl rfl)) ?_
 refine l_val (v := .pointer (some ⟨b13, 0, none⟩)) rfl rfl rfl (e_assign) ?_
 refine l_val (v := .int .i64 (0)) rfl rfl rfl (e_assign) ?_
 refine l_nil ?_
 refine f_then ?_
 refine c_ret ?_
 refine ret2 (v := .pointer (some ⟨b13, 0, none⟩)) (v' := .int .i64 (0)) Tryz.results47 rfl rfl ?_
 intro w hw
 exact ⟨_, rfl, St.closeJour (i := i) (dn := false) (M := [storeR S (cutS k i.epoch i.size)]) (st_mask [true, true, true, true, false, false, false] rfl (hw.perm (L' := [pt b13 (.cells #[.pointer (some ⟨S, 0, none⟩), Nx (i.epoch), Nx (i.next), .slice ps8 (i.state).length cs10, .slice pr9 (i.recs).length cr11, Nx (i.size), .bool false] 143), row (.slice ps8 (i.state).length cs10) 5 1 ((i.state).length) (BX i.state), recsR 27 pr9 cr11 i.recs, storeR S (cutS k i.epoch i.size), pt b14 (.cells #[.pointer (some ⟨b13, 0, none⟩)] 89), pt b1 (.cells #[.pointer (some ⟨S, 0, none⟩)] 26), pt b12 (.cells #[Nx (i.epoch), Nx (i.next), .slice ps8 (i.state).length cs10, .slice pr9 (i.recs).length cr11, Nx (i.size)] 109)]) (by exact (perm_ix [0, 5, 6, 4, 1, 2, 3] 7 rfl (by kernel_rfl) (by kernel_rfl)))))⟩
theorem ready_c (β : Base) (w : World) (hw : St β [] w) (J S : Nat) (x1 x2 x3 x4 x5 : Value) (dn : Bool) (hJ : Cs β.heap ⟨J, 0, none⟩ [.pointer (some ⟨S, 0, none⟩), x1, x2, x3, x4, x5, .bool (dn)]) (bs : Bs) (v : Value) (hs : Sl U8R β.heap v bs) (c : Int) (hc : readyE dn bs = c) : Calls Tryz.prog 60 #[.pointer (some ⟨J, 0, none⟩), v] w fun r w' => r = .returned (.int .i64 c) ∧ St β [] w' := by
 subst hc
 exact ready_ok β w hw J S x1 x2 x3 x4 x5 dn hJ bs v hs
set_option maxHeartbeats 4000000 in
theorem append_fail (β : Base) (w : World) (J S : Nat) (k : KS) (i : KI) (bs : Bs) (hlong : bs.length ≤ 65536) (hfit : k.fits 524288) (hnl : i.next ≤ 4611686018427387904) (hsz : i.size ≤ 262144) (hrl : i.recs.length ≤ 1048576) (hful : i.size + 24 + bs.length ≤ 262144) (hnm : i.next ≠ 4611686018427387904) (hc : ¬ apOk k i bs) (v : Value) (hs : Sl U8R β.heap v bs) (hw : St β [jourR J S i false, storeR S k] w) : Calls Tryz.prog 38 #[.pointer (some ⟨J, 0, none⟩), v] w fun r w' => r = .returned (.tuple #[.int .i64 0, .int .i64 310]) ∧ St β [jourR J S i true, storeR S (apS k i bs)] w' := by
 obtain ⟨va, vc, rfl, vl, vm, ve⟩ := hs.get
 obtain ⟨ps, pr, cs, cr, hw⟩ := St.openJour hw
 refine enter (n := 83) Tryz.func38 rfl Tryz.ntmps38 rfl ?_ hw
 refine c_seq ?_
 refine c_region ?_
 refine l_mv rfl rfl rfl (m_box (v := .pointer (some ⟨J, 0, none⟩)) rfl) ?_
 rintro _ _ ⟨b1, rfl, rfl⟩
 refine l_val (v := .int .i64 (0)) rfl rfl rfl (e_assign) ?_
 refine l_val (v := .int .i64 (0)) rfl rfl rfl (e_assign) ?_
 refine l_nil ?_
 refine f_then ?_
 refine c_seq ?_
 refine c_seq ?_
 refine c_region ?_
 refine l_val (v := .pointer (some ⟨J, 0, none⟩)) rfl rfl rfl (e_load1 tf43 (v := .pointer (some ⟨J, 0, none⟩)) rfl (k_pt 0 (cs := #[.pointer (some ⟨J, 0, none⟩)]) (vs := [.pointer (some ⟨J, 0, none⟩)]) rfl rfl)) ?_
 refine l_val (v := .slice va (bs.length) (vc)) rfl rfl rfl (e_move) ?_
 refine l_call rfl rfl rfl (cl_value (fst := []) (cap := []) (vs := [.pointer (some ⟨J, 0, none⟩), .slice va (bs.length) (vc)]) (all := [.pointer (some ⟨J, 0, none⟩), .slice va (bs.length) (vc)]) tf74 rfl rfl rfl) ?_
 intro w hw
 obtain ⟨β1, sb, kn, hw1, back⟩ := St.frame_all hw
 refine (ready_c β1 w hw1 J S (Nx (i.epoch)) (Nx (i.next)) (.slice ps (i.state).length cs) (.slice pr (i.recs).length cr) (Nx (i.size)) false (kn _ (k_pt 1 (cs := #[.pointer (some ⟨S, 0, none⟩), Nx (i.epoch), Nx (i.next), .slice ps (i.state).length cs, .slice pr (i.recs).length cr, Nx (i.size), .bool false]) (vs := [.pointer (some ⟨S, 0, none⟩), Nx (i.epoch), Nx (i.next), .slice ps (i.state).length cs, .slice pr (i.recs).length cr, Nx (i.size), .bool false]) rfl rfl)) bs _ (Sl.mono _ _ _ _ _ sb (⟨⟨_, _, rfl, vl, vm, ve⟩⟩ : Sl U8R _ _ bs)) (0) ((if_neg (by omega)).trans (if_neg (by decide)))).mono ?_
 rintro e w' ⟨rfl, hw'⟩
 refine ⟨_, rfl, _, back _ _ hw', ?_⟩
 clear hw hw1 hw' back kn sb
 refine l_val (v := .int .i64 (0)) rfl rfl rfl (e_assign) ?_
 refine l_nil ?_
 refine f_then ?_
 refine c_seq ?_
 refine c_region ?_
 refine l_val (v := .int .i64 (0)) rfl rfl rfl (e_move) ?_
 refine l_val (v := .bool false) rfl rfl rfl (e_neq (a := (0 : Int)) (b := (0 : Int)) rfl rfl) ?_
 refine l_nil ?_
 refine f_then ?_
 refine c_no rfl ?_
 refine c_skip ?_
 refine f_then ?_
 refine c_seq ?_
 refine c_region ?_
 refine l_val (v := .pointer (some ⟨J, 0, none⟩)) rfl rfl rfl (e_load1 tf43 (v := .pointer (some ⟨J, 0, none⟩)) rfl (k_pt 0 (cs := #[.pointer (some ⟨J, 0, none⟩)]) (vs := [.pointer (some ⟨J, 0, none⟩)]) rfl rfl)) ?_
 refine l_val (v := .pointer (some ⟨J, 0, none⟩)) rfl rfl rfl (e_nil (a := ⟨J, 0, none⟩) rfl) ?_
 refine l_val (v := .pointer (some ⟨J, 1, none⟩)) rfl rfl rfl (e_fieldPt (b := J) (o := 0) rfl tf75) ?_
 refine l_mv rfl rfl rfl (m_alloc tf76) ?_
 rintro _ _ ⟨b2, rfl, rfl⟩
 refine l_mu rfl rfl (m_store 0 tf47 (b := b2) (o := 0) (T := 141) (cs := #[.pointer none]) (cs' := #[.pointer (some ⟨J, 1, none⟩)]) (v := .pointer (some ⟨J, 1, none⟩)) rfl rfl rfl rfl rfl rfl rfl) ?_
 refine l_nil ?_
 refine f_then ?_
 refine c_seq ?_
 refine c_seq ?_
 refine c_region ?_
 refine l_val (v := .pointer (some ⟨J, 1, none⟩)) rfl rfl rfl (e_load1 tf47 (v := .pointer (some ⟨J, 1, none⟩)) rfl (k_pt 0 (cs := #[.pointer (some ⟨J, 1, none⟩)]) (vs := [.pointer (some ⟨J, 1, none⟩)]) rfl rfl)) ?_
 refine l_val (v := .pointer (some ⟨J, 1, none⟩)) rfl rfl rfl (e_nil (a := ⟨J, 1, none⟩) rfl) ?_
 refine l_val (v := .pointer (some ⟨J, 5, none⟩)) rfl rfl rfl (e_fieldPt (b := J) (o := 1) rfl tf50) ?_
 refine l_val (v := Nx (i.size)) rfl rfl rfl (e_load1 tf25 (v := Nx (i.size)) rfl (k_pt 2 (cs := #[.pointer (some ⟨S, 0, none⟩), Nx (i.epoch), Nx (i.next), .slice ps (i.state).length cs, .slice pr (i.recs).length cr, Nx (i.size), .bool false]) (vs := [Nx (i.size)]) rfl rfl)) ?_
 refine l_val (v := Nx (i.size + 24)) rfl rfl rfl (e_add (a := ((i.size : Nat) : Int)) (b := (24 : Int)) rfl rfl (i64n (by omega) (by omega))) ?_
 refine l_val (v := .slice va (bs.length) (vc)) rfl rfl rfl (e_move) ?_
 refine l_val (v := Nx (bs.length)) rfl rfl rfl (e_len (a := va) (n := bs.length) (c := vc) rfl tf11) ?_
 refine l_val (v := Nx ((i.size + 24) + bs.length)) rfl rfl rfl (e_add (a := ((i.size + 24 : Nat) : Int)) (b := ((bs.length : Nat) : Int)) rfl rfl (i64n (by omega) (by omega))) ?_
 refine l_val (v := .bool (decide ((262144 : Int) < (((i.size + 24) + bs.length : Nat) : Int)))) rfl rfl rfl (e_gtr (a := (((i.size + 24) + bs.length : Nat) : Int)) (b := (262144 : Int)) rfl rfl) ?_
 refine l_val (v := .bool (decide ((262144 : Int) < (((i.size + 24) + bs.length : Nat) : Int)))) rfl rfl rfl (e_move) ?_
 refine l_split (s := 28) (p := (262144 : Int) < (((i.size + 24) + bs.length : Nat) : Int)) rfl (fun h => ?_) (fun h => ?_)
 exact absurd h (by omega)
 refine g_val (v := .pointer (some ⟨J, 1, none⟩)) rfl rfl rfl rfl rfl (e_load1 tf47 (v := .pointer (some ⟨J, 1, none⟩)) rfl (k_pt 0 (cs := #[.pointer (some ⟨J, 1, none⟩)]) (vs := [.pointer (some ⟨J, 1, none⟩)]) rfl rfl)) ?_
 refine g_val (v := .pointer (some ⟨J, 1, none⟩)) rfl rfl rfl rfl rfl (e_nil (a := ⟨J, 1, none⟩) rfl) ?_
 refine g_val (v := .pointer (some ⟨J, 2, none⟩)) rfl rfl rfl rfl rfl (e_fieldPt (b := J) (o := 1) rfl tf53) ?_
 refine g_val (v := Nx (i.next)) rfl rfl rfl rfl rfl (e_load1 tf25 (v := Nx (i.next)) rfl (k_pt 2 (cs := #[.pointer (some ⟨S, 0, none⟩), Nx (i.epoch), Nx (i.next), .slice ps (i.state).length cs, .slice pr (i.recs).length cr, Nx (i.size), .bool false]) (vs := [Nx (i.next)]) rfl rfl)) ?_
 refine g_val (v := .bool (decide (((i.next : Nat) : Int) = (4611686018427387904 : Int)))) rfl rfl rfl rfl rfl (e_eql (a := ((i.next : Nat) : Int)) (b := (4611686018427387904 : Int)) rfl rfl) ?_
 refine l_val (v := .bool (decide (((i.next : Nat) : Int) = (4611686018427387904 : Int)))) rfl rfl rfl (e_pick_f rfl) ?_
 refine l_nil ?_
 refine f_then ?_
 refine c_if (((i.next : Nat) : Int) = (4611686018427387904 : Int)) rfl (fun hc3 => ?_) (fun hc3 => ?_)
 ·
  exact absurd hc3 (by omega)
 ·
  refine c_skip ?_
  refine f_then ?_
  refine c_seq ?_
  refine c_any [⟨[], [], [0], [35], fun f => f 35 = .pointer (some ⟨J, 1, none⟩)⟩, ⟨[0], [0], [], [36], fun f => f 36 = .pointer (some ⟨J, 1, none⟩)⟩, ⟨[0, 1], [1], [], [37], fun f => f 37 = .pointer (some ⟨J, 1, none⟩)⟩, ⟨[0, 1, 2], [2], [], [38], fun f => f 38 = Nx (i.epoch)⟩, ⟨[], [], [0], [39], fun f => f 39 = .pointer (some ⟨J, 1, none⟩)⟩, ⟨[4], [4], [], [40], fun f => f 40 = .pointer (some ⟨J, 1, none⟩)⟩, ⟨[4, 5], [5], [], [41], fun f => f 41 = .pointer (some ⟨J, 2, none⟩)⟩, ⟨[4, 5, 6], [6], [], [42], fun f => f 42 = Nx (i.next)⟩, ⟨[], [], [1], [43], fun f => f 43 = .slice va (bs.length) (vc)⟩, ⟨[0, 1, 2, 3, 4, 5, 6, 7, 8], [3, 7, 8], [], [44], fun f => f 44 = .slice (sla (f 44)) (formB ((i.epoch : Nat) : Int) ((i.next : Nat) : Int) bs).length (slc (f 44))⟩, ⟨[], [], [], [8], fun f => f 8 = .pointer (some ⟨(blk (f 8)), 0, none⟩)⟩, ⟨[0, 1, 2, 3, 4, 5, 6, 7, 8, 9, 10], [10, 9], [], [], fun _ => True⟩] [⟨none, none, [0, 4], [], fun _ => pt b2 (.cells #[.pointer (some ⟨J, 1, none⟩)] 141)⟩, ⟨none, none, [], [], fun _ => pt b1 (.cells #[.pointer (some ⟨J, 0, none⟩)] 89)⟩, ⟨none, none, [3, 7], [], fun _ => pt J (.cells #[.pointer (some ⟨S, 0, none⟩), Nx (i.epoch), Nx (i.next), .slice ps (i.state).length cs, .slice pr (i.recs).length cr, Nx (i.size), .bool false] 143)⟩, ⟨none, none, [], [], fun _ => row (.slice ps (i.state).length cs) 5 1 ((i.state).length) (BX i.state)⟩, ⟨none, none, [], [], fun _ => recsR 27 pr cr i.recs⟩, ⟨none, none, [], [], fun _ => storeR S k⟩, ⟨(some 9), none, [], [44], fun f => row (.slice (sla (f 44)) (formB ((i.epoch : Nat) : Int) ((i.next : Nat) : Int) bs).length (slc (f 44))) 5 1 ((formB ((i.epoch : Nat) : Int) ((i.next : Nat) : Int) bs).length) (BX (formB ((i.epoch : Nat) : Int) ((i.next : Nat) : Int) bs))⟩, ⟨(some 10), (some 11), [11], [8], fun f => pt (blk (f 8)) (.cells #[.slice none 0 0] 27)⟩, ⟨(some 11), none, [], [8, 44], fun f => pt (blk (f 8)) (.cells #[.slice (sla (f 44)) (formB ((i.epoch : Nat) : Int) ((i.next : Nat) : Int) bs).length (slc (f 44))] 27)⟩] [(7, .pointer (some ⟨b2, 0, none⟩)), (1, .slice va (bs.length) (vc)), (2, .pointer (some ⟨b1, 0, none⟩))] [1, 2, 0] [] (by kernel_rfl) (by kernel_rfl) (by kernel_rfl) (by kernel_rfl) rfl ⟨rfl, rfl, rfl, trivial⟩ ⟨?_, ?_, ?_, ?_, ?_, ?_, ?_, ?_, ?_, ?_, ?_, ?_, trivial⟩ ?_
  ·rintro f M - ⟨i0, -⟩
   have hs7 : f 7 = .pointer (some ⟨b2, 0, none⟩) := i0
   refine ob_start (L' := pt b2 (.cells #[.pointer (some ⟨J, 1, none⟩)] 141) :: M) (by rfl) (up_cons rfl hs7) ?_
   refine l_val (v := .pointer (some ⟨J, 1, none⟩)) rfl rfl rfl (e_load1 tf47 (v := .pointer (some ⟨J, 1, none⟩)) rfl (k_pt 0 (cs := #[.pointer (some ⟨J, 1, none⟩)]) (vs := [.pointer (some ⟨J, 1, none⟩)]) rfl rfl)) ?_
   refine l_nil ?_
   exact f_owes_d (up_cons rfl hs7) rfl (perm_front 0 rfl)
  ·rintro f M ⟨k0, -⟩ -
   have hs35 : f 35 = .pointer (some ⟨J, 1, none⟩) := k0
   refine ob_start (L' := M) (by rfl) (up_cons rfl hs35) ?_
   refine l_val (v := .pointer (some ⟨J, 1, none⟩)) rfl rfl rfl (e_nil (a := ⟨J, 1, none⟩) rfl) ?_
   refine l_nil ?_
   exact f_owes_d (up_cons rfl hs35) rfl (List.Perm.refl _)
  ·rintro f M ⟨k0, -⟩ -
   have hs36 : f 36 = .pointer (some ⟨J, 1, none⟩) := k0
   refine ob_start (L' := M) (by rfl) (up_cons rfl hs36) ?_
   refine l_val (v := .pointer (some ⟨J, 1, none⟩)) rfl rfl rfl (e_fieldPt (b := J) (o := 1) rfl tf48) ?_
   refine l_nil ?_
   exact f_owes_d (up_cons rfl hs36) rfl (List.Perm.refl _)
  ·rintro f M ⟨k0, -⟩ -
   have hs37 : f 37 = .pointer (some ⟨J, 1, none⟩) := k0
   refine ob_start (L' := pt J (.cells #[.pointer (some ⟨S, 0, none⟩), Nx (i.epoch), Nx (i.next), .slice ps (i.state).length cs, .slice pr (i.recs).length cr, Nx (i.size), .bool false] 143) :: M) (by rfl) (up_cons rfl hs37) ?_
   refine l_val (v := Nx (i.epoch)) rfl rfl rfl (e_load1 tf25 (v := Nx (i.epoch)) rfl (k_pt 0 (cs := #[.pointer (some ⟨S, 0, none⟩), Nx (i.epoch), Nx (i.next), .slice ps (i.state).length cs, .slice pr (i.recs).length cr, Nx (i.size), .bool false]) (vs := [Nx (i.epoch)]) rfl rfl)) ?_
   refine l_nil ?_
   exact f_owes_d (up_cons rfl hs37) rfl (perm_front 0 rfl)
  ·rintro f M - ⟨i0, -⟩
   have hs7 : f 7 = .pointer (some ⟨b2, 0, none⟩) := i0
   refine ob_start (L' := pt b2 (.cells #[.pointer (some ⟨J, 1, none⟩)] 141) :: M) (by rfl) (up_cons rfl hs7) ?_
   refine l_val (v := .pointer (some ⟨J, 1, none⟩)) rfl rfl rfl (e_load1 tf47 (v := .pointer (some ⟨J, 1, none⟩)) rfl (k_pt 0 (cs := #[.pointer (some ⟨J, 1, none⟩)]) (vs := [.pointer (some ⟨J, 1, none⟩)]) rfl rfl)) ?_
   refine l_nil ?_
   exact f_owes_d (up_cons rfl hs7) rfl (perm_front 0 rfl)
  ·rintro f M ⟨k0, -⟩ -
   have hs39 : f 39 = .pointer (some ⟨J, 1, none⟩) := k0
   refine ob_start (L' := M) (by rfl) (up_cons rfl hs39) ?_
   refine l_val (v := .pointer (some ⟨J, 1, none⟩)) rfl rfl rfl (e_nil (a := ⟨J, 1, none⟩) rfl) ?_
   refine l_nil ?_
   exact f_owes_d (up_cons rfl hs39) rfl (List.Perm.refl _)
  ·rintro f M ⟨k0, -⟩ -
   have hs40 : f 40 = .pointer (some ⟨J, 1, none⟩) := k0
   refine ob_start (L' := M) (by rfl) (up_cons rfl hs40) ?_
   refine l_val (v := .pointer (some ⟨J, 2, none⟩)) rfl rfl rfl (e_fieldPt (b := J) (o := 1) rfl tf53) ?_
   refine l_nil ?_
   exact f_owes_d (up_cons rfl hs40) rfl (List.Perm.refl _)
  ·rintro f M ⟨k0, -⟩ -
   have hs41 : f 41 = .pointer (some ⟨J, 2, none⟩) := k0
   refine ob_start (L' := pt J (.cells #[.pointer (some ⟨S, 0, none⟩), Nx (i.epoch), Nx (i.next), .slice ps (i.state).length cs, .slice pr (i.recs).length cr, Nx (i.size), .bool false] 143) :: M) (by rfl) (up_cons rfl hs41) ?_
   refine l_val (v := Nx (i.next)) rfl rfl rfl (e_load1 tf25 (v := Nx (i.next)) rfl (k_pt 0 (cs := #[.pointer (some ⟨S, 0, none⟩), Nx (i.epoch), Nx (i.next), .slice ps (i.state).length cs, .slice pr (i.recs).length cr, Nx (i.size), .bool false]) (vs := [Nx (i.next)]) rfl rfl)) ?_
   refine l_nil ?_
   exact f_owes_d (up_cons rfl hs41) rfl (perm_front 0 rfl)
  ·rintro f M - ⟨i0, -⟩
   have hs1 : f 1 = .slice va (bs.length) (vc) := i0
   refine ob_start (L' := M) (by rfl) (up_cons rfl hs1) ?_
   refine l_val (v := .slice va (bs.length) (vc)) rfl rfl rfl (e_move) ?_
   refine l_nil ?_
   exact f_owes_d (up_cons rfl hs1) rfl (List.Perm.refl _)
  ·rintro f M ⟨k0, k1, k2, -⟩ -
   have hs38 : f 38 = Nx (i.epoch) := k0
   have hs42 : f 42 = Nx (i.next) := k1
   have hs43 : f 43 = .slice va (bs.length) (vc) := k2
   refine ob_start (L' := M) (by rfl) (up_cons (up_cons (up_cons rfl hs38) hs42) hs43) ?_
   refine l_call rfl rfl rfl (cl_value (fst := []) (cap := []) (vs := [Nx (i.epoch), Nx (i.next), .slice va (bs.length) (vc)]) (all := [Nx (i.epoch), Nx (i.next), .slice va (bs.length) (vc)]) tf54 rfl rfl rfl) ?_
   intro w hw
   obtain ⟨β1, sb, kn, hw1, back⟩ := St.frame_all hw
   refine (form_ok β1 w hw1 ((i.epoch : Nat) : Int) ((i.next : Nat) : Int) bs _ (by omega) (Sl.mono _ _ _ _ _ sb (⟨⟨_, _, rfl, vl, vm, ve⟩⟩ : Sl U8R _ _ bs))).mono ?_
   rintro e w' ⟨p6, c7, rfl, hw'⟩
   refine ⟨_, rfl, _, back _ _ hw', ?_⟩
   clear hw hw1 hw' back kn sb
   refine l_nil ?_
   exact f_owes_d (up_cons (up_cons (up_cons rfl hs38) hs42) hs43) rfl (perm_front 0 rfl)
  ·rintro f M - -
   refine ob_start (L' := M) (by rfl) rfl ?_
   refine l_mv rfl rfl rfl (m_alloc tf67) ?_
   rintro _ _ ⟨b9, rfl, rfl⟩
   refine l_nil ?_
   exact f_owes_d rfl rfl (perm_front 0 rfl)
  ·rintro f M ⟨k0, k1, -⟩ -
   have hs8 : f 8 = .pointer (some ⟨(blk (f 8)), 0, none⟩) := k0
   have hs44 : f 44 = .slice (sla (f 44)) (formB ((i.epoch : Nat) : Int) ((i.next : Nat) : Int) bs).length (slc (f 44)) := k1
   refine ob_start (L' := pt (blk (f 8)) (.cells #[.slice none 0 0] 27) :: M) (by rfl) (up_cons (up_cons rfl hs8) hs44) ?_
   refine l_mu rfl rfl (m_store 0 tf21 (b := (blk (f 8))) (o := 0) (T := 27) (cs := #[.slice none 0 0]) (cs' := #[.slice (sla (f 44)) (formB ((i.epoch : Nat) : Int) ((i.next : Nat) : Int) bs).length (slc (f 44))]) (v := .slice (sla (f 44)) (formB ((i.epoch : Nat) : Int) ((i.next : Nat) : Int) bs).length (slc (f 44))) rfl rfl rfl rfl rfl rfl rfl) ?_
   refine l_nil ?_
   exact f_owes_n (up_cons (up_cons rfl hs8) hs44) trivial (perm_front 0 rfl)
  rintro fa10 ⟨-, -, -, -, -, -, -, -, -, -, k10, -, -⟩ ⟨j0, j1, j2, -⟩
  refine f_re (L' := [pt b2 (.cells #[.pointer (some ⟨J, 1, none⟩)] 141), pt b1 (.cells #[.pointer (some ⟨J, 0, none⟩)] 89), pt J (.cells #[.pointer (some ⟨S, 0, none⟩), Nx (i.epoch), Nx (i.next), .slice ps (i.state).length cs, .slice pr (i.recs).length cr, Nx (i.size), .bool false] 143), row (.slice ps (i.state).length cs) 5 1 ((i.state).length) (BX i.state), recsR 27 pr cr i.recs, storeR S k, row (.slice (sla (fa10 44)) (formB ((i.epoch : Nat) : Int) ((i.next : Nat) : Int) bs).length (slc (fa10 44))) 5 1 ((formB ((i.epoch : Nat) : Int) ((i.next : Nat) : Int) bs).length) (BX (formB ((i.epoch : Nat) : Int) ((i.next : Nat) : Int) bs)), pt (blk (fa10 8)) (.cells #[.slice (sla (fa10 44)) (formB ((i.epoch : Nat) : Int) ((i.next : Nat) : Int) bs).length (slc (fa10 44))] 27)]) (by rfl) ?_
  refine f_rebase (d := 1) (v := .slice va (bs.length) (vc)) j0 ?_
  refine f_rebase (d := 2) (v := .pointer (some ⟨b1, 0, none⟩)) j1 ?_
  refine f_rebase (d := 7) (v := .pointer (some ⟨b2, 0, none⟩)) j2 ?_
  refine f_rebase (d := 8) (v := .pointer (some ⟨(blk (fa10 8)), 0, none⟩)) k10 ?_
  refine f_then ?_
  refine c_seq ?_
  refine c_seq ?_
  refine c_region ?_
  refine l_val (v := .pointer (some ⟨J, 0, none⟩)) rfl rfl rfl (e_load1 tf43 (v := .pointer (some ⟨J, 0, none⟩)) rfl (k_pt 1 (cs := #[.pointer (some ⟨J, 0, none⟩)]) (vs := [.pointer (some ⟨J, 0, none⟩)]) rfl rfl)) ?_
  refine l_val (v := .func (.func 63) #[] #[.pointer (some ⟨b1, 0, none⟩), .pointer (some ⟨b2, 0, none⟩), .pointer (some ⟨(blk (fa10 8)), 0, none⟩)]) rfl rfl rfl (e_func (u := []) (v := [.pointer (some ⟨b1, 0, none⟩), .pointer (some ⟨b2, 0, none⟩), .pointer (some ⟨(blk (fa10 8)), 0, none⟩)]) rfl rfl) ?_
  refine l_call rfl rfl rfl (cl_value (fst := []) (cap := []) (vs := [.pointer (some ⟨J, 0, none⟩), .func (.func 63) #[] #[.pointer (some ⟨b1, 0, none⟩), .pointer (some ⟨b2, 0, none⟩), .pointer (some ⟨(blk (fa10 8)), 0, none⟩)]]) (all := [.pointer (some ⟨J, 0, none⟩), .func (.func 63) #[] #[.pointer (some ⟨b1, 0, none⟩), .pointer (some ⟨b2, 0, none⟩), .pointer (some ⟨(blk (fa10 8)), 0, none⟩)]]) tf73 rfl rfl rfl) ?_
  intro w hw
  replace hw := hw.perm (L' := _ :: _ :: _ :: _ :: _ :: _ :: _ :: _ :: []) (by exact ((((((((perm_front 4 rfl).trans (perm_front 4 rfl)).trans (perm_front 5 rfl)).trans (perm_front 6 rfl)).trans (perm_front 7 rfl)).trans (perm_front 5 rfl)).trans (perm_front 6 rfl)).trans (perm_front 7 rfl)))
  obtain ⟨β1, sb, kn, hw1, back⟩ := St.frame (L := [_, _, _, _, _, _]) (M := _ :: _ :: []) hw
  refine (att_append_no β1 w J S b1 b2 (blk (fa10 8)) (slc (fa10 44)) (sla (fa10 44)) k i (.slice ps (i.state).length cs) (.slice pr (i.recs).length cr) (formB ((i.epoch : Nat) : Int) ((i.next : Nat) : Int) bs) hfit (by rw [formB_length]; omega) (by omega) hc hw1).mono ?_
  rintro e w' ⟨rfl, hw'⟩
  refine ⟨_, rfl, _, back _ _ hw', ?_⟩
  clear hw hw1 hw' back kn sb
  refine l_val (v := .int .i64 (310)) rfl rfl rfl (e_assign) ?_
  refine l_nil ?_
  refine f_then ?_
  refine c_seq ?_
  refine c_region ?_
  refine l_val (v := .int .i64 (310)) rfl rfl rfl (e_move) ?_
  refine l_val (v := .bool true) rfl rfl rfl (e_neq (a := (310 : Int)) (b := (0 : Int)) rfl rfl) ?_
  refine l_nil ?_
  refine f_then ?_
  refine c_yes rfl ?_
  refine c_seq ?_
  refine c_region ?_
  refine l_val (v := .int .i64 (310)) rfl rfl rfl (e_move) ?_
  refine l_val (v := .int .i64 (0)) rfl rfl rfl (e_assign) ?_
  refine l_val (v := .int .i64 (310)) rfl rfl rfl (e_assign) ?_
  refine l_nil ?_
  refine f_then ?_
  refine c_ret ?_
  refine f_then_ret ?_
  refine ret2 (v := .int .i64 (0)) (v' := .int .i64 (310)) Tryz.results38 rfl rfl ?_
  intro w hw
  exact ⟨rfl, St.closeJour (i := i) (dn := true) (M := [storeR S (wrS k i.epoch i.size (formB ((i.epoch : Nat) : Int) ((i.next : Nat) : Int) bs))]) (st_mask [true, true, true, true, false, false, false, false] rfl (hw.perm (L' := [pt J (.cells #[.pointer (some ⟨S, 0, none⟩), Nx (i.epoch), Nx (i.next), .slice ps (i.state).length cs, .slice pr (i.recs).length cr, Nx (i.size), .bool true] 143), row (.slice ps (i.state).length cs) 5 1 ((i.state).length) (BX i.state), recsR 27 pr cr i.recs, storeR S (wrS k i.epoch i.size (formB ((i.epoch : Nat) : Int) ((i.next : Nat) : Int) bs)), pt b1 (.cells #[.pointer (some ⟨J, 0, none⟩)] 89), pt b2 (.cells #[.pointer (some ⟨J, 1, none⟩)] 141), pt (blk (fa10 8)) (.cells #[.slice (sla (fa10 44)) (formB ((i.epoch : Nat) : Int) ((i.next : Nat) : Int) bs).length (slc (fa10 44))] 27), row (.slice (sla (fa10 44)) (formB ((i.epoch : Nat) : Int) ((i.next : Nat) : Int) bs).length (slc (fa10 44))) 5 1 ((formB ((i.epoch : Nat) : Int) ((i.next : Nat) : Int) bs).length) (BX (formB ((i.epoch : Nat) : Int) ((i.next : Nat) : Int) bs))]) (by exact (perm_ix [0, 6, 7, 5, 1, 2, 3, 4] 8 rfl (by kernel_rfl) (by kernel_rfl)))))⟩
set_option maxHeartbeats 4000000 in
theorem append_ok (β : Base) (w : World) (J S : Nat) (k : KS) (i : KI) (bs : Bs) (hlong : bs.length ≤ 65536) (hfit : k.fits 524288) (hnl : i.next ≤ 4611686018427387904) (hsz : i.size ≤ 262144) (hrl : i.recs.length ≤ 1048576) (hful : i.size + 24 + bs.length ≤ 262144) (hnm : i.next ≠ 4611686018427387904) (hc : apOk k i bs) (v : Value) (hs : Sl U8R β.heap v bs) (hw : St β [jourR J S i false, storeR S k] w) : Calls Tryz.prog 38 #[.pointer (some ⟨J, 0, none⟩), v] w fun r w' => r = .returned (.tuple #[Nx i.next, .int .i64 0]) ∧ St β [jourR J S (apI i bs) false, storeR S (apS k i bs)] w' := by
 obtain ⟨va, vc, rfl, vl, vm, ve⟩ := hs.get
 obtain ⟨ps, pr, cs, cr, hw⟩ := St.openJour hw
 refine enter (n := 83) Tryz.func38 rfl Tryz.ntmps38 rfl ?_ hw
 refine c_seq ?_
 refine c_region ?_
 refine l_mv rfl rfl rfl (m_box (v := .pointer (some ⟨J, 0, none⟩)) rfl) ?_
 rintro _ _ ⟨b1, rfl, rfl⟩
 refine l_val (v := .int .i64 (0)) rfl rfl rfl (e_assign) ?_
 refine l_val (v := .int .i64 (0)) rfl rfl rfl (e_assign) ?_
 refine l_nil ?_
 refine f_then ?_
 refine c_seq ?_
 refine c_seq ?_
 refine c_region ?_
 refine l_val (v := .pointer (some ⟨J, 0, none⟩)) rfl rfl rfl (e_load1 tf43 (v := .pointer (some ⟨J, 0, none⟩)) rfl (k_pt 0 (cs := #[.pointer (some ⟨J, 0, none⟩)]) (vs := [.pointer (some ⟨J, 0, none⟩)]) rfl rfl)) ?_
 refine l_val (v := .slice va (bs.length) (vc)) rfl rfl rfl (e_move) ?_
 refine l_call rfl rfl rfl (cl_value (fst := []) (cap := []) (vs := [.pointer (some ⟨J, 0, none⟩), .slice va (bs.length) (vc)]) (all := [.pointer (some ⟨J, 0, none⟩), .slice va (bs.length) (vc)]) tf74 rfl rfl rfl) ?_
 intro w hw
 obtain ⟨β1, sb, kn, hw1, back⟩ := St.frame_all hw
 refine (ready_c β1 w hw1 J S (Nx (i.epoch)) (Nx (i.next)) (.slice ps (i.state).length cs) (.slice pr (i.recs).length cr) (Nx (i.size)) false (kn _ (k_pt 1 (cs := #[.pointer (some ⟨S, 0, none⟩), Nx (i.epoch), Nx (i.next), .slice ps (i.state).length cs, .slice pr (i.recs).length cr, Nx (i.size), .bool false]) (vs := [.pointer (some ⟨S, 0, none⟩), Nx (i.epoch), Nx (i.next), .slice ps (i.state).length cs, .slice pr (i.recs).length cr, Nx (i.size), .bool false]) rfl rfl)) bs _ (Sl.mono _ _ _ _ _ sb (⟨⟨_, _, rfl, vl, vm, ve⟩⟩ : Sl U8R _ _ bs)) (0) ((if_neg (by omega)).trans (if_neg (by decide)))).mono ?_
 rintro e w' ⟨rfl, hw'⟩
 refine ⟨_, rfl, _, back _ _ hw', ?_⟩
 clear hw hw1 hw' back kn sb
 refine l_val (v := .int .i64 (0)) rfl rfl rfl (e_assign) ?_
 refine l_nil ?_
 refine f_then ?_
 refine c_seq ?_
 refine c_region ?_
 refine l_val (v := .int .i64 (0)) rfl rfl rfl (e_move) ?_
 refine l_val (v := .bool false) rfl rfl rfl (e_neq (a := (0 : Int)) (b := (0 : Int)) rfl rfl) ?_
 refine l_nil ?_
 refine f_then ?_
 refine c_no rfl ?_
 refine c_skip ?_
 refine f_then ?_
 refine c_seq ?_
 refine c_region ?_
 refine l_val (v := .pointer (some ⟨J, 0, none⟩)) rfl rfl rfl (e_load1 tf43 (v := .pointer (some ⟨J, 0, none⟩)) rfl (k_pt 0 (cs := #[.pointer (some ⟨J, 0, none⟩)]) (vs := [.pointer (some ⟨J, 0, none⟩)]) rfl rfl)) ?_
 refine l_val (v := .pointer (some ⟨J, 0, none⟩)) rfl rfl rfl (e_nil (a := ⟨J, 0, none⟩) rfl) ?_
 refine l_val (v := .pointer (some ⟨J, 1, none⟩)) rfl rfl rfl (e_fieldPt (b := J) (o := 0) rfl tf75) ?_
 refine l_mv rfl rfl rfl (m_alloc tf76) ?_
 rintro _ _ ⟨b2, rfl, rfl⟩
 refine l_mu rfl rfl (m_store 0 tf47 (b := b2) (o := 0) (T := 141) (cs := #[.pointer none]) (cs' := #[.pointer (some ⟨J, 1, none⟩)]) (v := .pointer (some ⟨J, 1, none⟩)) rfl rfl rfl rfl rfl rfl rfl) ?_
 refine l_nil ?_
 refine f_then ?_
 refine c_seq ?_
 refine c_seq ?_
 refine c_region ?_
 refine l_val (v := .pointer (some ⟨J, 1, none⟩)) rfl rfl rfl (e_load1 tf47 (v := .pointer (some ⟨J, 1, none⟩)) rfl (k_pt 0 (cs := #[.pointer (some ⟨J, 1, none⟩)]) (vs := [.pointer (some ⟨J, 1, none⟩)]) rfl rfl)) ?_
 refine l_val (v := .pointer (some ⟨J, 1, none⟩)) rfl rfl rfl (e_nil (a := ⟨J, 1, none⟩) rfl) ?_
 refine l_val (v := .pointer (some ⟨J, 5, none⟩)) rfl rfl rfl (e_fieldPt (b := J) (o := 1) rfl tf50) ?_
 refine l_val (v := Nx (i.size)) rfl rfl rfl (e_load1 tf25 (v := Nx (i.size)) rfl (k_pt 2 (cs := #[.pointer (some ⟨S, 0, none⟩), Nx (i.epoch), Nx (i.next), .slice ps (i.state).length cs, .slice pr (i.recs).length cr, Nx (i.size), .bool false]) (vs := [Nx (i.size)]) rfl rfl)) ?_
 refine l_val (v := Nx (i.size + 24)) rfl rfl rfl (e_add (a := ((i.size : Nat) : Int)) (b := (24 : Int)) rfl rfl (i64n (by omega) (by omega))) ?_
 refine l_val (v := .slice va (bs.length) (vc)) rfl rfl rfl (e_move) ?_
 refine l_val (v := Nx (bs.length)) rfl rfl rfl (e_len (a := va) (n := bs.length) (c := vc) rfl tf11) ?_
 refine l_val (v := Nx ((i.size + 24) + bs.length)) rfl rfl rfl (e_add (a := ((i.size + 24 : Nat) : Int)) (b := ((bs.length : Nat) : Int)) rfl rfl (i64n (by omega) (by omega))) ?_
 refine l_val (v := .bool (decide ((262144 : Int) < (((i.size + 24) + bs.length : Nat) : Int)))) rfl rfl rfl (e_gtr (a := (((i.size + 24) + bs.length : Nat) : Int)) (b := (262144 : Int)) rfl rfl) ?_
 refine l_val (v := .bool (decide ((262144 : Int) < (((i.size + 24) + bs.length : Nat) : Int)))) rfl rfl rfl (e_move) ?_
 refine l_split (s := 28) (p := (262144 : Int) < (((i.size + 24) + bs.length : Nat) : Int)) rfl (fun h => ?_) (fun h => ?_)
 exact absurd h (by omega)
 refine g_val (v := .pointer (some ⟨J, 1, none⟩)) rfl rfl rfl rfl rfl (e_load1 tf47 (v := .pointer (some ⟨J, 1, none⟩)) rfl (k_pt 0 (cs := #[.pointer (some ⟨J, 1, none⟩)]) (vs := [.pointer (some ⟨J, 1, none⟩)]) rfl rfl)) ?_
 refine g_val (v := .pointer (some ⟨J, 1, none⟩)) rfl rfl rfl rfl rfl (e_nil (a := ⟨J, 1, none⟩) rfl) ?_
 refine g_val (v := .pointer (some ⟨J, 2, none⟩)) rfl rfl rfl rfl rfl (e_fieldPt (b := J) (o := 1) rfl tf53) ?_
 refine g_val (v := Nx (i.next)) rfl rfl rfl rfl rfl (e_load1 tf25 (v := Nx (i.next)) rfl (k_pt 2 (cs := #[.pointer (some ⟨S, 0, none⟩), Nx (i.epoch), Nx (i.next), .slice ps (i.state).length cs, .slice pr (i.recs).length cr, Nx (i.size), .bool false]) (vs := [Nx (i.next)]) rfl rfl)) ?_
 refine g_val (v := .bool (decide (((i.next : Nat) : Int) = (4611686018427387904 : Int)))) rfl rfl rfl rfl rfl (e_eql (a := ((i.next : Nat) : Int)) (b := (4611686018427387904 : Int)) rfl rfl) ?_
 refine l_val (v := .bool (decide (((i.next : Nat) : Int) = (4611686018427387904 : Int)))) rfl rfl rfl (e_pick_f rfl) ?_
 refine l_nil ?_
 refine f_then ?_
 refine c_if (((i.next : Nat) : Int) = (4611686018427387904 : Int)) rfl (fun hc3 => ?_) (fun hc3 => ?_)
 ·
  exact absurd hc3 (by omega)
 ·
  refine c_skip ?_
  refine f_then ?_
  refine c_seq ?_
  refine c_any [⟨[], [], [0], [35], fun f => f 35 = .pointer (some ⟨J, 1, none⟩)⟩, ⟨[0], [0], [], [36], fun f => f 36 = .pointer (some ⟨J, 1, none⟩)⟩, ⟨[0, 1], [1], [], [37], fun f => f 37 = .pointer (some ⟨J, 1, none⟩)⟩, ⟨[0, 1, 2], [2], [], [38], fun f => f 38 = Nx (i.epoch)⟩, ⟨[], [], [0], [39], fun f => f 39 = .pointer (some ⟨J, 1, none⟩)⟩, ⟨[4], [4], [], [40], fun f => f 40 = .pointer (some ⟨J, 1, none⟩)⟩, ⟨[4, 5], [5], [], [41], fun f => f 41 = .pointer (some ⟨J, 2, none⟩)⟩, ⟨[4, 5, 6], [6], [], [42], fun f => f 42 = Nx (i.next)⟩, ⟨[], [], [1], [43], fun f => f 43 = .slice va (bs.length) (vc)⟩, ⟨[0, 1, 2, 3, 4, 5, 6, 7, 8], [3, 7, 8], [], [44], fun f => f 44 = .slice (sla (f 44)) (formB ((i.epoch : Nat) : Int) ((i.next : Nat) : Int) bs).length (slc (f 44))⟩, ⟨[], [], [], [8], fun f => f 8 = .pointer (some ⟨(blk (f 8)), 0, none⟩)⟩, ⟨[0, 1, 2, 3, 4, 5, 6, 7, 8, 9, 10], [10, 9], [], [], fun _ => True⟩] [⟨none, none, [0, 4], [], fun _ => pt b2 (.cells #[.pointer (some ⟨J, 1, none⟩)] 141)⟩, ⟨none, none, [], [], fun _ => pt b1 (.cells #[.pointer (some ⟨J, 0, none⟩)] 89)⟩, ⟨none, none, [3, 7], [], fun _ => pt J (.cells #[.pointer (some ⟨S, 0, none⟩), Nx (i.epoch), Nx (i.next), .slice ps (i.state).length cs, .slice pr (i.recs).length cr, Nx (i.size), .bool false] 143)⟩, ⟨none, none, [], [], fun _ => row (.slice ps (i.state).length cs) 5 1 ((i.state).length) (BX i.state)⟩, ⟨none, none, [], [], fun _ => recsR 27 pr cr i.recs⟩, ⟨none, none, [], [], fun _ => storeR S k⟩, ⟨(some 9), none, [], [44], fun f => row (.slice (sla (f 44)) (formB ((i.epoch : Nat) : Int) ((i.next : Nat) : Int) bs).length (slc (f 44))) 5 1 ((formB ((i.epoch : Nat) : Int) ((i.next : Nat) : Int) bs).length) (BX (formB ((i.epoch : Nat) : Int) ((i.next : Nat) : Int) bs))⟩, ⟨(some 10), (some 11), [11], [8], fun f => pt (blk (f 8)) (.cells #[.slice none 0 0] 27)⟩, ⟨(some 11), none, [], [8, 44], fun f => pt (blk (f 8)) (.cells #[.slice (sla (f 44)) (formB ((i.epoch : Nat) : Int) ((i.next : Nat) : Int) bs).length (slc (f 44))] 27)⟩] [(7, .pointer (some ⟨b2, 0, none⟩)), (1, .slice va (bs.length) (vc)), (2, .pointer (some ⟨b1, 0, none⟩))] [1, 2, 0] [] (by kernel_rfl) (by kernel_rfl) (by kernel_rfl) (by kernel_rfl) rfl ⟨rfl, rfl, rfl, trivial⟩ ⟨?_, ?_, ?_, ?_, ?_, ?_, ?_, ?_, ?_, ?_, ?_, ?_, trivial⟩ ?_
  ·rintro f M - ⟨i0, -⟩
   have hs7 : f 7 = .pointer (some ⟨b2, 0, none⟩) := i0
   refine ob_start (L' := pt b2 (.cells #[.pointer (some ⟨J, 1, none⟩)] 141) :: M) (by rfl) (up_cons rfl hs7) ?_
   refine l_val (v := .pointer (some ⟨J, 1, none⟩)) rfl rfl rfl (e_load1 tf47 (v := .pointer (some ⟨J, 1, none⟩)) rfl (k_pt 0 (cs := #[.pointer (some ⟨J, 1, none⟩)]) (vs := [.pointer (some ⟨J, 1, none⟩)]) rfl rfl)) ?_
   refine l_nil ?_
   exact f_owes_d (up_cons rfl hs7) rfl (perm_front 0 rfl)
  ·rintro f M ⟨k0, -⟩ -
   have hs35 : f 35 = .pointer (some ⟨J, 1, none⟩) := k0
   refine ob_start (L' := M) (by rfl) (up_cons rfl hs35) ?_
   refine l_val (v := .pointer (some ⟨J, 1, none⟩)) rfl rfl rfl (e_nil (a := ⟨J, 1, none⟩) rfl) ?_
   refine l_nil ?_
   exact f_owes_d (up_cons rfl hs35) rfl (List.Perm.refl _)
  ·rintro f M ⟨k0, -⟩ -
   have hs36 : f 36 = .pointer (some ⟨J, 1, none⟩) := k0
   refine ob_start (L' := M) (by rfl) (up_cons rfl hs36) ?_
   refine l_val (v := .pointer (some ⟨J, 1, none⟩)) rfl rfl rfl (e_fieldPt (b := J) (o := 1) rfl tf48) ?_
   refine l_nil ?_
   exact f_owes_d (up_cons rfl hs36) rfl (List.Perm.refl _)
  ·rintro f M ⟨k0, -⟩ -
   have hs37 : f 37 = .pointer (some ⟨J, 1, none⟩) := k0
   refine ob_start (L' := pt J (.cells #[.pointer (some ⟨S, 0, none⟩), Nx (i.epoch), Nx (i.next), .slice ps (i.state).length cs, .slice pr (i.recs).length cr, Nx (i.size), .bool false] 143) :: M) (by rfl) (up_cons rfl hs37) ?_
   refine l_val (v := Nx (i.epoch)) rfl rfl rfl (e_load1 tf25 (v := Nx (i.epoch)) rfl (k_pt 0 (cs := #[.pointer (some ⟨S, 0, none⟩), Nx (i.epoch), Nx (i.next), .slice ps (i.state).length cs, .slice pr (i.recs).length cr, Nx (i.size), .bool false]) (vs := [Nx (i.epoch)]) rfl rfl)) ?_
   refine l_nil ?_
   exact f_owes_d (up_cons rfl hs37) rfl (perm_front 0 rfl)
  ·rintro f M - ⟨i0, -⟩
   have hs7 : f 7 = .pointer (some ⟨b2, 0, none⟩) := i0
   refine ob_start (L' := pt b2 (.cells #[.pointer (some ⟨J, 1, none⟩)] 141) :: M) (by rfl) (up_cons rfl hs7) ?_
   refine l_val (v := .pointer (some ⟨J, 1, none⟩)) rfl rfl rfl (e_load1 tf47 (v := .pointer (some ⟨J, 1, none⟩)) rfl (k_pt 0 (cs := #[.pointer (some ⟨J, 1, none⟩)]) (vs := [.pointer (some ⟨J, 1, none⟩)]) rfl rfl)) ?_
   refine l_nil ?_
   exact f_owes_d (up_cons rfl hs7) rfl (perm_front 0 rfl)
  ·rintro f M ⟨k0, -⟩ -
   have hs39 : f 39 = .pointer (some ⟨J, 1, none⟩) := k0
   refine ob_start (L' := M) (by rfl) (up_cons rfl hs39) ?_
   refine l_val (v := .pointer (some ⟨J, 1, none⟩)) rfl rfl rfl (e_nil (a := ⟨J, 1, none⟩) rfl) ?_
   refine l_nil ?_
   exact f_owes_d (up_cons rfl hs39) rfl (List.Perm.refl _)
  ·rintro f M ⟨k0, -⟩ -
   have hs40 : f 40 = .pointer (some ⟨J, 1, none⟩) := k0
   refine ob_start (L' := M) (by rfl) (up_cons rfl hs40) ?_
   refine l_val (v := .pointer (some ⟨J, 2, none⟩)) rfl rfl rfl (e_fieldPt (b := J) (o := 1) rfl tf53) ?_
   refine l_nil ?_
   exact f_owes_d (up_cons rfl hs40) rfl (List.Perm.refl _)
  ·rintro f M ⟨k0, -⟩ -
   have hs41 : f 41 = .pointer (some ⟨J, 2, none⟩) := k0
   refine ob_start (L' := pt J (.cells #[.pointer (some ⟨S, 0, none⟩), Nx (i.epoch), Nx (i.next), .slice ps (i.state).length cs, .slice pr (i.recs).length cr, Nx (i.size), .bool false] 143) :: M) (by rfl) (up_cons rfl hs41) ?_
   refine l_val (v := Nx (i.next)) rfl rfl rfl (e_load1 tf25 (v := Nx (i.next)) rfl (k_pt 0 (cs := #[.pointer (some ⟨S, 0, none⟩), Nx (i.epoch), Nx (i.next), .slice ps (i.state).length cs, .slice pr (i.recs).length cr, Nx (i.size), .bool false]) (vs := [Nx (i.next)]) rfl rfl)) ?_
   refine l_nil ?_
   exact f_owes_d (up_cons rfl hs41) rfl (perm_front 0 rfl)
  ·rintro f M - ⟨i0, -⟩
   have hs1 : f 1 = .slice va (bs.length) (vc) := i0
   refine ob_start (L' := M) (by rfl) (up_cons rfl hs1) ?_
   refine l_val (v := .slice va (bs.length) (vc)) rfl rfl rfl (e_move) ?_
   refine l_nil ?_
   exact f_owes_d (up_cons rfl hs1) rfl (List.Perm.refl _)
  ·rintro f M ⟨k0, k1, k2, -⟩ -
   have hs38 : f 38 = Nx (i.epoch) := k0
   have hs42 : f 42 = Nx (i.next) := k1
   have hs43 : f 43 = .slice va (bs.length) (vc) := k2
   refine ob_start (L' := M) (by rfl) (up_cons (up_cons (up_cons rfl hs38) hs42) hs43) ?_
   refine l_call rfl rfl rfl (cl_value (fst := []) (cap := []) (vs := [Nx (i.epoch), Nx (i.next), .slice va (bs.length) (vc)]) (all := [Nx (i.epoch), Nx (i.next), .slice va (bs.length) (vc)]) tf54 rfl rfl rfl) ?_
   intro w hw
   obtain ⟨β1, sb, kn, hw1, back⟩ := St.frame_all hw
   refine (form_ok β1 w hw1 ((i.epoch : Nat) : Int) ((i.next : Nat) : Int) bs _ (by omega) (Sl.mono _ _ _ _ _ sb (⟨⟨_, _, rfl, vl, vm, ve⟩⟩ : Sl U8R _ _ bs))).mono ?_
   rintro e w' ⟨p6, c7, rfl, hw'⟩
   refine ⟨_, rfl, _, back _ _ hw', ?_⟩
   clear hw hw1 hw' back kn sb
   refine l_nil ?_
   exact f_owes_d (up_cons (up_cons (up_cons rfl hs38) hs42) hs43) rfl (perm_front 0 rfl)
  ·rintro f M - -
   refine ob_start (L' := M) (by rfl) rfl ?_
   refine l_mv rfl rfl rfl (m_alloc tf67) ?_
   rintro _ _ ⟨b9, rfl, rfl⟩
   refine l_nil ?_
   exact f_owes_d rfl rfl (perm_front 0 rfl)
  ·rintro f M ⟨k0, k1, -⟩ -
   have hs8 : f 8 = .pointer (some ⟨(blk (f 8)), 0, none⟩) := k0
   have hs44 : f 44 = .slice (sla (f 44)) (formB ((i.epoch : Nat) : Int) ((i.next : Nat) : Int) bs).length (slc (f 44)) := k1
   refine ob_start (L' := pt (blk (f 8)) (.cells #[.slice none 0 0] 27) :: M) (by rfl) (up_cons (up_cons rfl hs8) hs44) ?_
   refine l_mu rfl rfl (m_store 0 tf21 (b := (blk (f 8))) (o := 0) (T := 27) (cs := #[.slice none 0 0]) (cs' := #[.slice (sla (f 44)) (formB ((i.epoch : Nat) : Int) ((i.next : Nat) : Int) bs).length (slc (f 44))]) (v := .slice (sla (f 44)) (formB ((i.epoch : Nat) : Int) ((i.next : Nat) : Int) bs).length (slc (f 44))) rfl rfl rfl rfl rfl rfl rfl) ?_
   refine l_nil ?_
   exact f_owes_n (up_cons (up_cons rfl hs8) hs44) trivial (perm_front 0 rfl)
  rintro fa10 ⟨-, -, -, -, -, -, -, -, -, -, k10, -, -⟩ ⟨j0, j1, j2, -⟩
  refine f_re (L' := [pt b2 (.cells #[.pointer (some ⟨J, 1, none⟩)] 141), pt b1 (.cells #[.pointer (some ⟨J, 0, none⟩)] 89), pt J (.cells #[.pointer (some ⟨S, 0, none⟩), Nx (i.epoch), Nx (i.next), .slice ps (i.state).length cs, .slice pr (i.recs).length cr, Nx (i.size), .bool false] 143), row (.slice ps (i.state).length cs) 5 1 ((i.state).length) (BX i.state), recsR 27 pr cr i.recs, storeR S k, row (.slice (sla (fa10 44)) (formB ((i.epoch : Nat) : Int) ((i.next : Nat) : Int) bs).length (slc (fa10 44))) 5 1 ((formB ((i.epoch : Nat) : Int) ((i.next : Nat) : Int) bs).length) (BX (formB ((i.epoch : Nat) : Int) ((i.next : Nat) : Int) bs)), pt (blk (fa10 8)) (.cells #[.slice (sla (fa10 44)) (formB ((i.epoch : Nat) : Int) ((i.next : Nat) : Int) bs).length (slc (fa10 44))] 27)]) (by rfl) ?_
  refine f_rebase (d := 1) (v := .slice va (bs.length) (vc)) j0 ?_
  refine f_rebase (d := 2) (v := .pointer (some ⟨b1, 0, none⟩)) j1 ?_
  refine f_rebase (d := 7) (v := .pointer (some ⟨b2, 0, none⟩)) j2 ?_
  refine f_rebase (d := 8) (v := .pointer (some ⟨(blk (fa10 8)), 0, none⟩)) k10 ?_
  refine f_then ?_
  refine c_seq ?_
  refine c_seq ?_
  refine c_region ?_
  refine l_val (v := .pointer (some ⟨J, 0, none⟩)) rfl rfl rfl (e_load1 tf43 (v := .pointer (some ⟨J, 0, none⟩)) rfl (k_pt 1 (cs := #[.pointer (some ⟨J, 0, none⟩)]) (vs := [.pointer (some ⟨J, 0, none⟩)]) rfl rfl)) ?_
  refine l_val (v := .func (.func 63) #[] #[.pointer (some ⟨b1, 0, none⟩), .pointer (some ⟨b2, 0, none⟩), .pointer (some ⟨(blk (fa10 8)), 0, none⟩)]) rfl rfl rfl (e_func (u := []) (v := [.pointer (some ⟨b1, 0, none⟩), .pointer (some ⟨b2, 0, none⟩), .pointer (some ⟨(blk (fa10 8)), 0, none⟩)]) rfl rfl) ?_
  refine l_call rfl rfl rfl (cl_value (fst := []) (cap := []) (vs := [.pointer (some ⟨J, 0, none⟩), .func (.func 63) #[] #[.pointer (some ⟨b1, 0, none⟩), .pointer (some ⟨b2, 0, none⟩), .pointer (some ⟨(blk (fa10 8)), 0, none⟩)]]) (all := [.pointer (some ⟨J, 0, none⟩), .func (.func 63) #[] #[.pointer (some ⟨b1, 0, none⟩), .pointer (some ⟨b2, 0, none⟩), .pointer (some ⟨(blk (fa10 8)), 0, none⟩)]]) tf73 rfl rfl rfl) ?_
  intro w hw
  replace hw := hw.perm (L' := _ :: _ :: _ :: _ :: _ :: _ :: _ :: _ :: []) (by exact ((((((((perm_front 4 rfl).trans (perm_front 4 rfl)).trans (perm_front 5 rfl)).trans (perm_front 6 rfl)).trans (perm_front 7 rfl)).trans (perm_front 5 rfl)).trans (perm_front 6 rfl)).trans (perm_front 7 rfl)))
  obtain ⟨β1, sb, kn, hw1, back⟩ := St.frame (L := [_, _, _, _, _, _]) (M := _ :: _ :: []) hw
  refine (att_append_ok β1 w J S b1 b2 (blk (fa10 8)) (slc (fa10 44)) (sla (fa10 44)) k i (.slice ps (i.state).length cs) (.slice pr (i.recs).length cr) (formB ((i.epoch : Nat) : Int) ((i.next : Nat) : Int) bs) hfit (by rw [formB_length]; omega) (by omega) hc hw1).mono ?_
  rintro e w' ⟨rfl, hw'⟩
  refine ⟨_, rfl, _, back _ _ hw', ?_⟩
  clear hw hw1 hw' back kn sb
  refine l_val (v := .int .i64 (0)) rfl rfl rfl (e_assign) ?_
  refine l_nil ?_
  refine f_then ?_
  refine c_seq ?_
  refine c_region ?_
  refine l_val (v := .int .i64 (0)) rfl rfl rfl (e_move) ?_
  refine l_val (v := .bool false) rfl rfl rfl (e_neq (a := (0 : Int)) (b := (0 : Int)) rfl rfl) ?_
  refine l_nil ?_
  refine f_then ?_
  refine c_no rfl ?_
  refine c_skip ?_
  refine f_then ?_
  refine c_seq ?_
  refine c_any [⟨[], [], [0], [51], fun f => f 51 = .pointer (some ⟨J, 1, none⟩)⟩, ⟨[], [], [0], [52], fun f => f 52 = .pointer (some ⟨J, 1, none⟩)⟩, ⟨[1], [1], [], [53], fun f => f 53 = .pointer (some ⟨J, 1, none⟩)⟩, ⟨[1, 2], [2], [], [54], fun f => f 54 = .pointer (some ⟨J, 4, none⟩)⟩, ⟨[1, 2, 3], [3], [], [55], fun f => f 55 = .slice pr (i.recs).length cr⟩, ⟨[], [], [1], [56], fun f => f 56 = .slice va (bs.length) (vc)⟩, ⟨[5], [5], [], [57], fun f => f 57 = .slice (sla (f 57)) (bs).length (slc (f 57))⟩, ⟨[5, 6], [6], [], [58], fun f => f 58 = .slice (some ⟨(blk (f 58)), 0, none⟩) 1 1⟩, ⟨[1, 2, 3, 4, 5, 6, 7], [4, 7], [], [59], fun f => f 59 = .slice (sla (f 59)) ((i.recs ++ [bs])).length (slc (f 59))⟩, ⟨[0, 1, 2, 3, 4, 5, 6, 7, 8], [0], [], [60], fun f => f 60 = .pointer (some ⟨J, 1, none⟩)⟩, ⟨[0, 1, 2, 3, 4, 5, 6, 7, 8, 9], [9], [], [61], fun f => f 61 = .pointer (some ⟨J, 4, none⟩)⟩, ⟨[0, 1, 2, 3, 4, 5, 6, 7, 8, 9, 10], [10, 8], [], [], fun _ => True⟩] [⟨none, (some 11), [4, 11], [], fun _ => pt J (.cells #[.pointer (some ⟨S, 0, none⟩), Nx (i.epoch), Nx (i.next), .slice ps (i.state).length cs, .slice pr (i.recs).length cr, Nx (i.size), .bool false] 143)⟩, ⟨none, none, [], [], fun _ => pt b1 (.cells #[.pointer (some ⟨J, 0, none⟩)] 89)⟩, ⟨none, none, [0, 1], [], fun _ => pt b2 (.cells #[.pointer (some ⟨J, 1, none⟩)] 141)⟩, ⟨none, none, [], [], fun _ => pt (blk (fa10 8)) (.cells #[.slice (sla (fa10 44)) (formB ((i.epoch : Nat) : Int) ((i.next : Nat) : Int) bs).length (slc (fa10 44))] 27)⟩, ⟨none, none, [], [], fun _ => row (.slice (sla (fa10 44)) (formB ((i.epoch : Nat) : Int) ((i.next : Nat) : Int) bs).length (slc (fa10 44))) 5 1 ((formB ((i.epoch : Nat) : Int) ((i.next : Nat) : Int) bs).length) (BX (formB ((i.epoch : Nat) : Int) ((i.next : Nat) : Int) bs))⟩, ⟨none, none, [], [], fun _ => storeR S (wrS k i.epoch i.size (formB ((i.epoch : Nat) : Int) ((i.next : Nat) : Int) bs))⟩, ⟨none, none, [], [], fun _ => row (.slice ps (i.state).length cs) 5 1 ((i.state).length) (BX i.state)⟩, ⟨none, (some 8), [8], [], fun _ => recsR 27 pr cr i.recs⟩, ⟨(some 6), (some 8), [8], [57], fun f => row (.slice (sla (f 57)) (bs).length (slc (f 57))) 5 1 ((bs).length) (BX bs)⟩, ⟨(some 7), none, [8], [57, 58], fun f => pt (blk (f 58)) (.cells #[.slice (sla (f 57)) (bs).length (slc (f 57))] 27)⟩, ⟨(some 8), none, [], [59], fun f => recsR 27 (sla (f 59)) (slc (f 59)) (i.recs ++ [bs])⟩, ⟨(some 11), none, [], [59], fun f => pt J (.cells #[.pointer (some ⟨S, 0, none⟩), Nx (i.epoch), Nx (i.next), .slice ps (i.state).length cs, .slice (sla (f 59)) ((i.recs ++ [bs])).length (slc (f 59)), Nx (i.size), .bool false] 143)⟩] [(7, .pointer (some ⟨b2, 0, none⟩)), (1, .slice va (bs.length) (vc)), (8, .pointer (some ⟨(blk (fa10 8)), 0, none⟩))] [0, 2] [] (by kernel_rfl) (by kernel_rfl) (by kernel_rfl) (by kernel_rfl) rfl ⟨rfl, rfl, rfl, trivial⟩ ⟨?_, ?_, ?_, ?_, ?_, ?_, ?_, ?_, ?_, ?_, ?_, ?_, trivial⟩ ?_
  ·rintro f M - ⟨i0, -⟩
   have hs7 : f 7 = .pointer (some ⟨b2, 0, none⟩) := i0
   refine ob_start (L' := pt b2 (.cells #[.pointer (some ⟨J, 1, none⟩)] 141) :: M) (by rfl) (up_cons rfl hs7) ?_
   refine l_val (v := .pointer (some ⟨J, 1, none⟩)) rfl rfl rfl (e_load1 tf47 (v := .pointer (some ⟨J, 1, none⟩)) rfl (k_pt 0 (cs := #[.pointer (some ⟨J, 1, none⟩)]) (vs := [.pointer (some ⟨J, 1, none⟩)]) rfl rfl)) ?_
   refine l_nil ?_
   exact f_owes_d (up_cons rfl hs7) rfl (perm_front 0 rfl)
  ·rintro f M - ⟨i0, -⟩
   have hs7 : f 7 = .pointer (some ⟨b2, 0, none⟩) := i0
   refine ob_start (L' := pt b2 (.cells #[.pointer (some ⟨J, 1, none⟩)] 141) :: M) (by rfl) (up_cons rfl hs7) ?_
   refine l_val (v := .pointer (some ⟨J, 1, none⟩)) rfl rfl rfl (e_load1 tf47 (v := .pointer (some ⟨J, 1, none⟩)) rfl (k_pt 0 (cs := #[.pointer (some ⟨J, 1, none⟩)]) (vs := [.pointer (some ⟨J, 1, none⟩)]) rfl rfl)) ?_
   refine l_nil ?_
   exact f_owes_d (up_cons rfl hs7) rfl (perm_front 0 rfl)
  ·rintro f M ⟨k0, -⟩ -
   have hs52 : f 52 = .pointer (some ⟨J, 1, none⟩) := k0
   refine ob_start (L' := M) (by rfl) (up_cons rfl hs52) ?_
   refine l_val (v := .pointer (some ⟨J, 1, none⟩)) rfl rfl rfl (e_nil (a := ⟨J, 1, none⟩) rfl) ?_
   refine l_nil ?_
   exact f_owes_d (up_cons rfl hs52) rfl (List.Perm.refl _)
  ·rintro f M ⟨k0, -⟩ -
   have hs53 : f 53 = .pointer (some ⟨J, 1, none⟩) := k0
   refine ob_start (L' := M) (by rfl) (up_cons rfl hs53) ?_
   refine l_val (v := .pointer (some ⟨J, 4, none⟩)) rfl rfl rfl (e_fieldPt (b := J) (o := 1) rfl tf64) ?_
   refine l_nil ?_
   exact f_owes_d (up_cons rfl hs53) rfl (List.Perm.refl _)
  ·rintro f M ⟨k0, -⟩ -
   have hs54 : f 54 = .pointer (some ⟨J, 4, none⟩) := k0
   refine ob_start (L' := pt J (.cells #[.pointer (some ⟨S, 0, none⟩), Nx (i.epoch), Nx (i.next), .slice ps (i.state).length cs, .slice pr (i.recs).length cr, Nx (i.size), .bool false] 143) :: M) (by rfl) (up_cons rfl hs54) ?_
   refine l_val (v := .slice pr (i.recs).length cr) rfl rfl rfl (e_load1 tf65 (v := .slice pr (i.recs).length cr) rfl (k_pt 0 (cs := #[.pointer (some ⟨S, 0, none⟩), Nx (i.epoch), Nx (i.next), .slice ps (i.state).length cs, .slice pr (i.recs).length cr, Nx (i.size), .bool false]) (vs := [.slice pr (i.recs).length cr]) rfl rfl)) ?_
   refine l_nil ?_
   exact f_owes_d (up_cons rfl hs54) rfl (perm_front 0 rfl)
  ·rintro f M - ⟨i0, -⟩
   have hs1 : f 1 = .slice va (bs.length) (vc) := i0
   refine ob_start (L' := M) (by rfl) (up_cons rfl hs1) ?_
   refine l_val (v := .slice va (bs.length) (vc)) rfl rfl rfl (e_move) ?_
   refine l_nil ?_
   exact f_owes_d (up_cons rfl hs1) rfl (List.Perm.refl _)
  ·rintro f M ⟨k0, -⟩ -
   have hs56 : f 56 = .slice va (bs.length) (vc) := k0
   refine ob_start (L' := M) (by rfl) (up_cons rfl hs56) ?_
   refine l_call rfl rfl rfl (cl_value (fst := []) (cap := []) (vs := [.slice va (bs.length) (vc)]) (all := [.slice va (bs.length) (vc)]) tf62 rfl rfl rfl) ?_
   intro w hw
   obtain ⟨β1, sb, kn, hw1, back⟩ := St.frame_all hw
   refine (clone_ok β1 w hw1 bs _ (by omega) (Sl.mono _ _ _ _ _ sb (⟨⟨_, _, rfl, vl, vm, ve⟩⟩ : Sl U8R _ _ bs))).mono ?_
   rintro e w' ⟨p13, c14, rfl, hw'⟩
   refine ⟨_, rfl, _, back _ _ hw', ?_⟩
   clear hw hw1 hw' back kn sb
   refine l_nil ?_
   exact f_owes_d (up_cons rfl hs56) rfl (perm_front 0 rfl)
  ·rintro f M ⟨k0, -⟩ -
   have hs57 : f 57 = .slice (sla (f 57)) (bs).length (slc (f 57)) := k0
   refine ob_start (L' := M) (by rfl) (up_cons rfl hs57) ?_
   refine l_mv rfl rfl rfl (m_slices tf66 tf67 (vs := [(0, .slice (sla (f 57)) (bs).length (slc (f 57)))]) (cells := #[.slice (sla (f 57)) (bs).length (slc (f 57))]) rfl rfl rfl rfl) ?_
   rintro _ _ ⟨b16, rfl, rfl⟩
   refine l_nil ?_
   exact f_owes_d (up_cons rfl hs57) rfl (perm_front 0 rfl)
  ·rintro f M ⟨k0, k1, -⟩ -
   have hs55 : f 55 = .slice pr (i.recs).length cr := k0
   have hs58 : f 58 = .slice (some ⟨(blk (f 58)), 0, none⟩) 1 1 := k1
   refine ob_start (L' := recsR 27 pr cr i.recs :: row (.slice (sla (f 57)) (bs).length (slc (f 57))) 5 1 ((bs).length) (BX bs) :: pt (blk (f 58)) (.cells #[.slice (sla (f 57)) (bs).length (slc (f 57))] 27) :: M) (by rfl) (up_cons (up_cons rfl hs55) hs58) ?_
   refine l_perm (L' := (recsR 27 pr cr i.recs :: row (.slice (sla (f 57)) (bs).length (slc (f 57))) 5 1 ((bs).length) (BX bs) :: pt (blk (f 58)) (.cells #[.slice (sla (f 57)) (bs).length (slc (f 57))] 27) :: M)) (List.Perm.refl _) ?_
   refine l_mv rfl rfl rfl (m_appendRec (xs := i.recs) (bs := bs) (b := (blk (f 58))) rfl tf66 tf68 rfl rfl (by omega) (by omega)) ?_
   rintro _ _ ⟨rp19, rc20, rfl, rfl⟩
   refine l_nil ?_
   exact f_owes_d (up_cons (up_cons rfl hs55) hs58) rfl ((perm_front 0 rfl).trans (perm_front 1 rfl))
  ·rintro f M ⟨k0, -⟩ -
   have hs51 : f 51 = .pointer (some ⟨J, 1, none⟩) := k0
   refine ob_start (L' := M) (by rfl) (up_cons rfl hs51) ?_
   refine l_val (v := .pointer (some ⟨J, 1, none⟩)) rfl rfl rfl (e_nil (a := ⟨J, 1, none⟩) rfl) ?_
   refine l_nil ?_
   exact f_owes_d (up_cons rfl hs51) rfl (List.Perm.refl _)
  ·rintro f M ⟨k0, -⟩ -
   have hs60 : f 60 = .pointer (some ⟨J, 1, none⟩) := k0
   refine ob_start (L' := M) (by rfl) (up_cons rfl hs60) ?_
   refine l_val (v := .pointer (some ⟨J, 4, none⟩)) rfl rfl rfl (e_fieldPt (b := J) (o := 1) rfl tf64) ?_
   refine l_nil ?_
   exact f_owes_d (up_cons rfl hs60) rfl (List.Perm.refl _)
  ·rintro f M ⟨k0, k1, -⟩ -
   have hs61 : f 61 = .pointer (some ⟨J, 4, none⟩) := k0
   have hs59 : f 59 = .slice (sla (f 59)) ((i.recs ++ [bs])).length (slc (f 59)) := k1
   refine ob_start (L' := pt J (.cells #[.pointer (some ⟨S, 0, none⟩), Nx (i.epoch), Nx (i.next), .slice ps (i.state).length cs, .slice pr (i.recs).length cr, Nx (i.size), .bool false] 143) :: M) (by rfl) (up_cons (up_cons rfl hs61) hs59) ?_
   refine l_mu rfl rfl (m_store 0 tf65 (b := J) (o := 4) (T := 143) (cs := #[.pointer (some ⟨S, 0, none⟩), Nx (i.epoch), Nx (i.next), .slice ps (i.state).length cs, .slice pr (i.recs).length cr, Nx (i.size), .bool false]) (cs' := #[.pointer (some ⟨S, 0, none⟩), Nx (i.epoch), Nx (i.next), .slice ps (i.state).length cs, .slice (sla (f 59)) ((i.recs ++ [bs])).length (slc (f 59)), Nx (i.size), .bool false]) (v := .slice (sla (f 59)) ((i.recs ++ [bs])).length (slc (f 59))) rfl rfl rfl rfl rfl rfl rfl) ?_
   refine l_nil ?_
   exact f_owes_n (up_cons (up_cons rfl hs61) hs59) trivial (perm_front 0 rfl)
  rintro fa21 ⟨-, -, -, -, -, -, -, -, -, -, -, -, -⟩ ⟨j0, j1, -⟩
  refine f_re (L' := [pt b1 (.cells #[.pointer (some ⟨J, 0, none⟩)] 89), pt b2 (.cells #[.pointer (some ⟨J, 1, none⟩)] 141), pt (blk (fa10 8)) (.cells #[.slice (sla (fa10 44)) (formB ((i.epoch : Nat) : Int) ((i.next : Nat) : Int) bs).length (slc (fa10 44))] 27), row (.slice (sla (fa10 44)) (formB ((i.epoch : Nat) : Int) ((i.next : Nat) : Int) bs).length (slc (fa10 44))) 5 1 ((formB ((i.epoch : Nat) : Int) ((i.next : Nat) : Int) bs).length) (BX (formB ((i.epoch : Nat) : Int) ((i.next : Nat) : Int) bs)), storeR S (wrS k i.epoch i.size (formB ((i.epoch : Nat) : Int) ((i.next : Nat) : Int) bs)), row (.slice ps (i.state).length cs) 5 1 ((i.state).length) (BX i.state), pt (blk (fa21 58)) (.cells #[.slice (sla (fa21 57)) (bs).length (slc (fa21 57))] 27), recsR 27 (sla (fa21 59)) (slc (fa21 59)) (i.recs ++ [bs]), pt J (.cells #[.pointer (some ⟨S, 0, none⟩), Nx (i.epoch), Nx (i.next), .slice ps (i.state).length cs, .slice (sla (fa21 59)) ((i.recs ++ [bs])).length (slc (fa21 59)), Nx (i.size), .bool false] 143)]) (by rfl) ?_
  refine f_rebase (d := 7) (v := .pointer (some ⟨b2, 0, none⟩)) j0 ?_
  refine f_rebase (d := 8) (v := .pointer (some ⟨(blk (fa10 8)), 0, none⟩)) j1 ?_
  refine f_then ?_
  refine c_seq ?_
  have hfl := formB_length ((i.epoch : Nat) : Int) ((i.next : Nat) : Int) bs
  refine c_any [⟨[], [], [0], [62], fun f => f 62 = .pointer (some ⟨J, 1, none⟩)⟩, ⟨[0], [0], [], [63], fun f => f 63 = .pointer (some ⟨J, 1, none⟩)⟩, ⟨[0, 1], [1], [], [64], fun f => f 64 = .pointer (some ⟨J, 5, none⟩)⟩, ⟨[0, 1, 2], [2], [], [65], fun f => f 65 = Nx (i.size)⟩, ⟨[], [], [1], [66], fun f => f 66 = .slice (sla (fa10 44)) (formB ((i.epoch : Nat) : Int) ((i.next : Nat) : Int) bs).length (slc (fa10 44))⟩, ⟨[4], [4], [], [67], fun f => f 67 = Nx ((formB ((i.epoch : Nat) : Int) ((i.next : Nat) : Int) bs).length)⟩, ⟨[0, 1, 2, 3, 4, 5], [3, 5], [], [68], fun f => f 68 = Nx (i.size + ((formB ((i.epoch : Nat) : Int) ((i.next : Nat) : Int) bs).length))⟩, ⟨[0, 1, 2, 3, 4, 5, 6], [0], [], [69], fun f => f 69 = .pointer (some ⟨J, 1, none⟩)⟩, ⟨[0, 1, 2, 3, 4, 5, 6, 7], [7], [], [70], fun f => f 70 = .pointer (some ⟨J, 5, none⟩)⟩, ⟨[0, 1, 2, 3, 4, 5, 6, 7, 8], [8, 6], [], [], fun _ => True⟩] [⟨none, none, [], [], fun _ => pt b1 (.cells #[.pointer (some ⟨J, 0, none⟩)] 89)⟩, ⟨none, none, [0], [], fun _ => pt b2 (.cells #[.pointer (some ⟨J, 1, none⟩)] 141)⟩, ⟨none, none, [4], [], fun _ => pt (blk (fa10 8)) (.cells #[.slice (sla (fa10 44)) (formB ((i.epoch : Nat) : Int) ((i.next : Nat) : Int) bs).length (slc (fa10 44))] 27)⟩, ⟨none, none, [], [], fun _ => row (.slice (sla (fa10 44)) (formB ((i.epoch : Nat) : Int) ((i.next : Nat) : Int) bs).length (slc (fa10 44))) 5 1 ((formB ((i.epoch : Nat) : Int) ((i.next : Nat) : Int) bs).length) (BX (formB ((i.epoch : Nat) : Int) ((i.next : Nat) : Int) bs))⟩, ⟨none, none, [], [], fun _ => storeR S (wrS k i.epoch i.size (formB ((i.epoch : Nat) : Int) ((i.next : Nat) : Int) bs))⟩, ⟨none, none, [], [], fun _ => row (.slice ps (i.state).length cs) 5 1 ((i.state).length) (BX i.state)⟩, ⟨none, none, [], [], fun _ => pt (blk (fa21 58)) (.cells #[.slice (sla (fa21 57)) (bs).length (slc (fa21 57))] 27)⟩, ⟨none, none, [], [], fun _ => recsR 27 (sla (fa21 59)) (slc (fa21 59)) (i.recs ++ [bs])⟩, ⟨none, (some 9), [3, 9], [], fun _ => pt J (.cells #[.pointer (some ⟨S, 0, none⟩), Nx (i.epoch), Nx (i.next), .slice ps (i.state).length cs, .slice (sla (fa21 59)) ((i.recs ++ [bs])).length (slc (fa21 59)), Nx (i.size), .bool false] 143)⟩, ⟨(some 9), none, [], [], fun _ => pt J (.cells #[.pointer (some ⟨S, 0, none⟩), Nx (i.epoch), Nx (i.next), .slice ps (i.state).length cs, .slice (sla (fa21 59)) ((i.recs ++ [bs])).length (slc (fa21 59)), Nx (i.size + ((formB ((i.epoch : Nat) : Int) ((i.next : Nat) : Int) bs).length)), .bool false] 143)⟩] [(7, .pointer (some ⟨b2, 0, none⟩)), (8, .pointer (some ⟨(blk (fa10 8)), 0, none⟩))] [0] [] (by kernel_rfl) (by kernel_rfl) (by kernel_rfl) (by kernel_rfl) rfl ⟨rfl, rfl, trivial⟩ ⟨?_, ?_, ?_, ?_, ?_, ?_, ?_, ?_, ?_, ?_, trivial⟩ ?_
  ·rintro f M - ⟨i0, -⟩
   have hs7 : f 7 = .pointer (some ⟨b2, 0, none⟩) := i0
   refine ob_start (L' := pt b2 (.cells #[.pointer (some ⟨J, 1, none⟩)] 141) :: M) (by rfl) (up_cons rfl hs7) ?_
   refine l_val (v := .pointer (some ⟨J, 1, none⟩)) rfl rfl rfl (e_load1 tf47 (v := .pointer (some ⟨J, 1, none⟩)) rfl (k_pt 0 (cs := #[.pointer (some ⟨J, 1, none⟩)]) (vs := [.pointer (some ⟨J, 1, none⟩)]) rfl rfl)) ?_
   refine l_nil ?_
   exact f_owes_d (up_cons rfl hs7) rfl (perm_front 0 rfl)
  ·rintro f M ⟨k0, -⟩ -
   have hs62 : f 62 = .pointer (some ⟨J, 1, none⟩) := k0
   refine ob_start (L' := M) (by rfl) (up_cons rfl hs62) ?_
   refine l_val (v := .pointer (some ⟨J, 1, none⟩)) rfl rfl rfl (e_nil (a := ⟨J, 1, none⟩) rfl) ?_
   refine l_nil ?_
   exact f_owes_d (up_cons rfl hs62) rfl (List.Perm.refl _)
  ·rintro f M ⟨k0, -⟩ -
   have hs63 : f 63 = .pointer (some ⟨J, 1, none⟩) := k0
   refine ob_start (L' := M) (by rfl) (up_cons rfl hs63) ?_
   refine l_val (v := .pointer (some ⟨J, 5, none⟩)) rfl rfl rfl (e_fieldPt (b := J) (o := 1) rfl tf50) ?_
   refine l_nil ?_
   exact f_owes_d (up_cons rfl hs63) rfl (List.Perm.refl _)
  ·rintro f M ⟨k0, -⟩ -
   have hs64 : f 64 = .pointer (some ⟨J, 5, none⟩) := k0
   refine ob_start (L' := pt J (.cells #[.pointer (some ⟨S, 0, none⟩), Nx (i.epoch), Nx (i.next), .slice ps (i.state).length cs, .slice (sla (fa21 59)) ((i.recs ++ [bs])).length (slc (fa21 59)), Nx (i.size), .bool false] 143) :: M) (by rfl) (up_cons rfl hs64) ?_
   refine l_val (v := Nx (i.size)) rfl rfl rfl (e_load1 tf25 (v := Nx (i.size)) rfl (k_pt 0 (cs := #[.pointer (some ⟨S, 0, none⟩), Nx (i.epoch), Nx (i.next), .slice ps (i.state).length cs, .slice (sla (fa21 59)) ((i.recs ++ [bs])).length (slc (fa21 59)), Nx (i.size), .bool false]) (vs := [Nx (i.size)]) rfl rfl)) ?_
   refine l_nil ?_
   exact f_owes_d (up_cons rfl hs64) rfl (perm_front 0 rfl)
  ·rintro f M - ⟨i0, -⟩
   have hs8 : f 8 = .pointer (some ⟨(blk (fa10 8)), 0, none⟩) := i0
   refine ob_start (L' := pt (blk (fa10 8)) (.cells #[.slice (sla (fa10 44)) (formB ((i.epoch : Nat) : Int) ((i.next : Nat) : Int) bs).length (slc (fa10 44))] 27) :: M) (by rfl) (up_cons rfl hs8) ?_
   refine l_val (v := .slice (sla (fa10 44)) (formB ((i.epoch : Nat) : Int) ((i.next : Nat) : Int) bs).length (slc (fa10 44))) rfl rfl rfl (e_load1 tf21 (v := .slice (sla (fa10 44)) (formB ((i.epoch : Nat) : Int) ((i.next : Nat) : Int) bs).length (slc (fa10 44))) rfl (k_pt 0 (cs := #[.slice (sla (fa10 44)) (formB ((i.epoch : Nat) : Int) ((i.next : Nat) : Int) bs).length (slc (fa10 44))]) (vs := [.slice (sla (fa10 44)) (formB ((i.epoch : Nat) : Int) ((i.next : Nat) : Int) bs).length (slc (fa10 44))]) rfl rfl)) ?_
   refine l_nil ?_
   exact f_owes_d (up_cons rfl hs8) rfl (perm_front 0 rfl)
  ·rintro f M ⟨k0, -⟩ -
   have hs66 : f 66 = .slice (sla (fa10 44)) (formB ((i.epoch : Nat) : Int) ((i.next : Nat) : Int) bs).length (slc (fa10 44)) := k0
   refine ob_start (L' := M) (by rfl) (up_cons rfl hs66) ?_
   refine l_val (v := Nx ((formB ((i.epoch : Nat) : Int) ((i.next : Nat) : Int) bs).length)) rfl rfl rfl (e_len (a := (sla (fa10 44))) (n := (formB ((i.epoch : Nat) : Int) ((i.next : Nat) : Int) bs).length) (c := (slc (fa10 44))) rfl tf11) ?_
   refine l_nil ?_
   exact f_owes_d (up_cons rfl hs66) rfl (List.Perm.refl _)
  ·rintro f M ⟨k0, k1, -⟩ -
   have hs65 : f 65 = Nx (i.size) := k0
   have hs67 : f 67 = Nx ((formB ((i.epoch : Nat) : Int) ((i.next : Nat) : Int) bs).length) := k1
   refine ob_start (L' := M) (by rfl) (up_cons (up_cons rfl hs65) hs67) ?_
   refine l_val (v := Nx (i.size + ((formB ((i.epoch : Nat) : Int) ((i.next : Nat) : Int) bs).length))) rfl rfl rfl (e_add (a := ((i.size : Nat) : Int)) (b := (((formB ((i.epoch : Nat) : Int) ((i.next : Nat) : Int) bs).length : Nat) : Int)) rfl rfl (i64n (by omega) (by omega))) ?_
   refine l_nil ?_
   exact f_owes_d (up_cons (up_cons rfl hs65) hs67) rfl (List.Perm.refl _)
  ·rintro f M ⟨k0, -⟩ -
   have hs62 : f 62 = .pointer (some ⟨J, 1, none⟩) := k0
   refine ob_start (L' := M) (by rfl) (up_cons rfl hs62) ?_
   refine l_val (v := .pointer (some ⟨J, 1, none⟩)) rfl rfl rfl (e_nil (a := ⟨J, 1, none⟩) rfl) ?_
   refine l_nil ?_
   exact f_owes_d (up_cons rfl hs62) rfl (List.Perm.refl _)
  ·rintro f M ⟨k0, -⟩ -
   have hs69 : f 69 = .pointer (some ⟨J, 1, none⟩) := k0
   refine ob_start (L' := M) (by rfl) (up_cons rfl hs69) ?_
   refine l_val (v := .pointer (some ⟨J, 5, none⟩)) rfl rfl rfl (e_fieldPt (b := J) (o := 1) rfl tf50) ?_
   refine l_nil ?_
   exact f_owes_d (up_cons rfl hs69) rfl (List.Perm.refl _)
  ·rintro f M ⟨k0, k1, -⟩ -
   have hs70 : f 70 = .pointer (some ⟨J, 5, none⟩) := k0
   have hs68 : f 68 = Nx (i.size + ((formB ((i.epoch : Nat) : Int) ((i.next : Nat) : Int) bs).length)) := k1
   refine ob_start (L' := pt J (.cells #[.pointer (some ⟨S, 0, none⟩), Nx (i.epoch), Nx (i.next), .slice ps (i.state).length cs, .slice (sla (fa21 59)) ((i.recs ++ [bs])).length (slc (fa21 59)), Nx (i.size), .bool false] 143) :: M) (by rfl) (up_cons (up_cons rfl hs70) hs68) ?_
   refine l_mu rfl rfl (m_store 0 tf25 (b := J) (o := 5) (T := 143) (cs := #[.pointer (some ⟨S, 0, none⟩), Nx (i.epoch), Nx (i.next), .slice ps (i.state).length cs, .slice (sla (fa21 59)) ((i.recs ++ [bs])).length (slc (fa21 59)), Nx (i.size), .bool false]) (cs' := #[.pointer (some ⟨S, 0, none⟩), Nx (i.epoch), Nx (i.next), .slice ps (i.state).length cs, .slice (sla (fa21 59)) ((i.recs ++ [bs])).length (slc (fa21 59)), Nx (i.size + ((formB ((i.epoch : Nat) : Int) ((i.next : Nat) : Int) bs).length)), .bool false]) (v := Nx (i.size + ((formB ((i.epoch : Nat) : Int) ((i.next : Nat) : Int) bs).length))) rfl rfl rfl rfl rfl rfl rfl) ?_
   refine l_nil ?_
   exact f_owes_n (up_cons (up_cons rfl hs70) hs68) trivial (perm_front 0 rfl)
  rintro fa22 ⟨-, -, -, -, -, -, -, -, -, -, -⟩ ⟨j0, -⟩
  refine f_re (L' := [pt b1 (.cells #[.pointer (some ⟨J, 0, none⟩)] 89), pt b2 (.cells #[.pointer (some ⟨J, 1, none⟩)] 141), pt (blk (fa10 8)) (.cells #[.slice (sla (fa10 44)) (formB ((i.epoch : Nat) : Int) ((i.next : Nat) : Int) bs).length (slc (fa10 44))] 27), row (.slice (sla (fa10 44)) (formB ((i.epoch : Nat) : Int) ((i.next : Nat) : Int) bs).length (slc (fa10 44))) 5 1 ((formB ((i.epoch : Nat) : Int) ((i.next : Nat) : Int) bs).length) (BX (formB ((i.epoch : Nat) : Int) ((i.next : Nat) : Int) bs)), storeR S (wrS k i.epoch i.size (formB ((i.epoch : Nat) : Int) ((i.next : Nat) : Int) bs)), row (.slice ps (i.state).length cs) 5 1 ((i.state).length) (BX i.state), pt (blk (fa21 58)) (.cells #[.slice (sla (fa21 57)) (bs).length (slc (fa21 57))] 27), recsR 27 (sla (fa21 59)) (slc (fa21 59)) (i.recs ++ [bs]), pt J (.cells #[.pointer (some ⟨S, 0, none⟩), Nx (i.epoch), Nx (i.next), .slice ps (i.state).length cs, .slice (sla (fa21 59)) ((i.recs ++ [bs])).length (slc (fa21 59)), Nx (i.size + ((formB ((i.epoch : Nat) : Int) ((i.next : Nat) : Int) bs).length)), .bool false] 143)]) (by rfl) ?_
  refine f_rebase (d := 7) (v := .pointer (some ⟨b2, 0, none⟩)) j0 ?_
  refine f_then ?_
  refine c_seq ?_
  refine c_region ?_
  refine l_val (v := .pointer (some ⟨J, 1, none⟩)) rfl rfl rfl (e_load1 tf47 (v := .pointer (some ⟨J, 1, none⟩)) rfl (k_pt 1 (cs := #[.pointer (some ⟨J, 1, none⟩)]) (vs := [.pointer (some ⟨J, 1, none⟩)]) rfl rfl)) ?_
  refine l_val (v := .pointer (some ⟨J, 1, none⟩)) rfl rfl rfl (e_nil (a := ⟨J, 1, none⟩) rfl) ?_
  refine l_val (v := .pointer (some ⟨J, 2, none⟩)) rfl rfl rfl (e_fieldPt (b := J) (o := 1) rfl tf53) ?_
  refine l_val (v := Nx (i.next)) rfl rfl rfl (e_load1 tf25 (v := Nx (i.next)) rfl (k_pt 8 (cs := #[.pointer (some ⟨S, 0, none⟩), Nx (i.epoch), Nx (i.next), .slice ps (i.state).length cs, .slice (sla (fa21 59)) ((i.recs ++ [bs])).length (slc (fa21 59)), Nx (i.size + ((formB ((i.epoch : Nat) : Int) ((i.next : Nat) : Int) bs).length)), .bool false]) (vs := [Nx (i.next)]) rfl rfl)) ?_
  refine l_val (v := Nx (i.next + 1)) rfl rfl rfl (e_add (a := ((i.next : Nat) : Int)) (b := (1 : Int)) rfl rfl (i64n (by omega) (by omega))) ?_
  refine l_val (v := .pointer (some ⟨J, 1, none⟩)) rfl rfl rfl (e_nil (a := ⟨J, 1, none⟩) rfl) ?_
  refine l_val (v := .pointer (some ⟨J, 2, none⟩)) rfl rfl rfl (e_fieldPt (b := J) (o := 1) rfl tf53) ?_
  refine l_mu rfl rfl (m_store 8 tf25 (b := J) (o := 2) (T := 143) (cs := #[.pointer (some ⟨S, 0, none⟩), Nx (i.epoch), Nx (i.next), .slice ps (i.state).length cs, .slice (sla (fa21 59)) ((i.recs ++ [bs])).length (slc (fa21 59)), Nx (i.size + ((formB ((i.epoch : Nat) : Int) ((i.next : Nat) : Int) bs).length)), .bool false]) (cs' := #[.pointer (some ⟨S, 0, none⟩), Nx (i.epoch), Nx (i.next + 1), .slice ps (i.state).length cs, .slice (sla (fa21 59)) ((i.recs ++ [bs])).length (slc (fa21 59)), Nx (i.size + ((formB ((i.epoch : Nat) : Int) ((i.next : Nat) : Int) bs).length)), .bool false]) (v := Nx (i.next + 1)) rfl rfl rfl rfl rfl rfl rfl) ?_
  refine l_nil ?_
  refine f_then ?_
  refine c_seq ?_
  refine c_region ?_
  refine l_val (v := .pointer (some ⟨J, 1, none⟩)) rfl rfl rfl (e_load1 tf47 (v := .pointer (some ⟨J, 1, none⟩)) rfl (k_pt 1 (cs := #[.pointer (some ⟨J, 1, none⟩)]) (vs := [.pointer (some ⟨J, 1, none⟩)]) rfl rfl)) ?_
  refine l_val (v := .pointer (some ⟨J, 1, none⟩)) rfl rfl rfl (e_nil (a := ⟨J, 1, none⟩) rfl) ?_
  refine l_val (v := .pointer (some ⟨J, 2, none⟩)) rfl rfl rfl (e_fieldPt (b := J) (o := 1) rfl tf53) ?_
  refine l_val (v := Nx (i.next + 1)) rfl rfl rfl (e_load1 tf25 (v := Nx (i.next + 1)) rfl (k_pt 8 (cs := #[.pointer (some ⟨S, 0, none⟩), Nx (i.epoch), Nx (i.next + 1), .slice ps (i.state).length cs, .slice (sla (fa21 59)) ((i.recs ++ [bs])).length (slc (fa21 59)), Nx (i.size + ((formB ((i.epoch : Nat) : Int) ((i.next : Nat) : Int) bs).length)), .bool false]) (vs := [Nx (i.next + 1)]) rfl rfl)) ?_
  refine l_val (v := Ix (((i.next + 1 : Nat) : Int) - (1 : Int))) rfl rfl rfl (e_sub (a := ((i.next + 1 : Nat) : Int)) (b := (1 : Int)) rfl rfl (i64w (by omega))) ?_
  refine l_val (v := Ix (((i.next + 1 : Nat) : Int) - (1 : Int))) rfl rfl rfl (e_assign) ?_
  refine l_val (v := .int .i64 (0)) rfl rfl rfl (e_assign) ?_
  refine l_nil ?_
  refine f_then ?_
  refine c_ret ?_
  refine ret2 (v := Ix (((i.next + 1 : Nat) : Int) - (1 : Int))) (v' := .int .i64 (0)) Tryz.results38 rfl rfl ?_
  intro w hw
  refine ⟨congrArg (fun z : Int => Ending.returned (.tuple #[Ix z, .int .i64 0])) (by omega), ?_⟩
  exact St.closeJour (i := apI i bs) (dn := false) (M := [storeR S (wrS k i.epoch i.size (formB ((i.epoch : Nat) : Int) ((i.next : Nat) : Int) bs))]) (st_mask [true, true, true, true, false, false, false, false, false] rfl (hw.perm (L' := [pt J (.cells #[.pointer (some ⟨S, 0, none⟩), Nx (i.epoch), Nx (i.next + 1), .slice ps (i.state).length cs, .slice (sla (fa21 59)) ((i.recs ++ [bs])).length (slc (fa21 59)), Nx (i.size + ((formB ((i.epoch : Nat) : Int) ((i.next : Nat) : Int) bs).length)), .bool false] 143), row (.slice ps (i.state).length cs) 5 1 ((i.state).length) (BX i.state), recsR 27 (sla (fa21 59)) (slc (fa21 59)) (i.recs ++ [bs]), storeR S (wrS k i.epoch i.size (formB ((i.epoch : Nat) : Int) ((i.next : Nat) : Int) bs)), pt b1 (.cells #[.pointer (some ⟨J, 0, none⟩)] 89), pt b2 (.cells #[.pointer (some ⟨J, 1, none⟩)] 141), pt (blk (fa10 8)) (.cells #[.slice (sla (fa10 44)) (formB ((i.epoch : Nat) : Int) ((i.next : Nat) : Int) bs).length (slc (fa10 44))] 27), row (.slice (sla (fa10 44)) (formB ((i.epoch : Nat) : Int) ((i.next : Nat) : Int) bs).length (slc (fa10 44))) 5 1 ((formB ((i.epoch : Nat) : Int) ((i.next : Nat) : Int) bs).length) (BX (formB ((i.epoch : Nat) : Int) ((i.next : Nat) : Int) bs)), pt (blk (fa21 58)) (.cells #[.slice (sla (fa21 57)) (bs).length (slc (fa21 57))] 27)]) (by exact (perm_ix [8, 5, 7, 4, 0, 1, 2, 3, 6] 9 rfl (by kernel_rfl) (by kernel_rfl)))))
theorem append_nil (β : Base) (w : World) (hw : St β [] w) (v : Value) : Calls Tryz.prog 38 #[.pointer none, v] w fun r w' => r = .returned (.tuple #[.int .i64 0, .int .i64 1]) ∧ St β [] w' := by
 refine enter (n := 83) Tryz.func38 rfl Tryz.ntmps38 rfl ?_ hw
 refine c_seq ?_
 refine c_region ?_
 refine l_mv rfl rfl rfl (m_box (v := .pointer none) rfl) ?_
 rintro _ _ ⟨b1, rfl, rfl⟩
 refine l_val (v := .int .i64 (0)) rfl rfl rfl (e_assign) ?_
 refine l_val (v := .int .i64 (0)) rfl rfl rfl (e_assign) ?_
 refine l_nil ?_
 refine f_then ?_
 refine c_seq ?_
 refine c_seq ?_
 refine c_region ?_
 refine l_val (v := .pointer none) rfl rfl rfl (e_load1 tf43 (v := .pointer none) rfl (k_pt 0 (cs := #[.pointer none]) (vs := [.pointer none]) rfl rfl)) ?_
 refine l_val (v := v) rfl rfl rfl (e_move) ?_
 refine l_call rfl rfl rfl (cl_value (fst := []) (cap := []) (vs := [.pointer none, v]) (all := [.pointer none, v]) tf74 rfl rfl rfl) ?_
 intro w hw
 obtain ⟨β1, sb, kn, hw1, back⟩ := St.frame_all hw
 refine (ready_nil β1 w hw1 _).mono ?_
 rintro e w' ⟨rfl, hw'⟩
 refine ⟨_, rfl, _, back _ _ hw', ?_⟩
 clear hw hw1 hw' back kn sb
 refine l_val (v := .int .i64 (1)) rfl rfl rfl (e_assign) ?_
 refine l_nil ?_
 refine f_then ?_
 refine c_seq ?_
 refine c_region ?_
 refine l_val (v := .int .i64 (1)) rfl rfl rfl (e_move) ?_
 refine l_val (v := .bool true) rfl rfl rfl (e_neq (a := (1 : Int)) (b := (0 : Int)) rfl rfl) ?_
 refine l_nil ?_
 refine f_then ?_
 refine c_yes rfl ?_
 refine c_seq ?_
 refine c_region ?_
 refine l_val (v := .int .i64 (1)) rfl rfl rfl (e_move) ?_
 refine l_val (v := .int .i64 (0)) rfl rfl rfl (e_assign) ?_
 refine l_val (v := .int .i64 (1)) rfl rfl rfl (e_assign) ?_
 refine l_nil ?_
 refine f_then ?_
 refine c_ret ?_
 refine f_then_ret ?_
 refine ret2 (v := .int .i64 (0)) (v' := .int .i64 (1)) Tryz.results38 rfl rfl ?_
 intro w hw
 exact ⟨rfl, st_mask [false] rfl hw⟩
end Go.Proofs
