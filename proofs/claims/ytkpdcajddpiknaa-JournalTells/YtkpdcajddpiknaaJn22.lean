/-
 opened, walked. Printed by a program of my own.
-/
import Derived.Test.YtkpdcajddpiknaaJn21
import Derived.Test.YtkpdcajddpiknaaSlC
namespace Go.Proofs
open Go Go.Sl Go.Jn
def zI : KI := ⟨0, 0, [], [], 0⟩
theorem row_mono {v : Value} {T n m : Nat} {vs : List Value} : Mono (fun h => ∃ a, Sub a h ∧ row v T n m vs a) := fun _ _ hs ⟨a, ha, hr⟩ => ⟨a, ha.trans hs, hr⟩
theorem rows_bs {p : Option Addr} {c T : Nat} {xs : List Bs} {us : List Value} {h : PHeap} (hr : ∃ a, Sub a h ∧ row (sB p xs c) T 1 xs.length us a) (hi : inn us xs h) : Sl BsR h (sB p xs c) xs := by
 obtain ⟨a, ha, hr⟩ := hr
 have hl := row_len hr
 refine ⟨p, c, rfl, hl.2.1, by have := hl.2.2; unfold maxLen at this; omega, fun j x hj => ?_⟩
 have hlt := (List.getElem?_eq_some_iff.1 hj).1
 obtain ⟨q, cur, rfl, hq, _⟩ := row_open hr (by omega)
 obtain ⟨u, hu⟩ : ∃ u, us[j]? = some u := ⟨_, List.getElem?_eq_getElem (by rw [hi.1]; exact hlt)⟩
 refine ⟨rfl, [u], Cs.mono _ _ _ _ ha (?_ : Cs a _ _), u, rfl, hi.2 j x u hj hu⟩
 show Cs a ((ba (some ⟨q, 0, none⟩)).add (j * 1)) _
 rw [Nat.mul_one]
 refine row_cs hr ?_ (Nat.succ_pos _)
 rw [List.drop_eq_getElem_cons (by omega)]
 have := (List.getElem?_eq_some_iff.1 hu).2
 simp [this]
theorem sat_sl {L : List Res} {h : PHeap} {p : Option Addr} {c : Nat} {xs : Bs} (hL : Sat L h) (i : Nat) (hi : L[i]? = some (rB p xs c)) : Sl U8R h (sB p xs c) xs := by
 obtain ⟨a, ha, hr⟩ := hL.each _ (List.mem_of_getElem? hi)
 exact Sl.mono _ _ _ _ _ ha (row_u8 hr)
theorem mem_of {pH pA pB qA qB pr : Option Addr} {cH cA cB dA dB cr : Nat} {k' k : KS} {i : KI} {us : List Value} {vS : Value} {a : PHeap}
  (h : Sat [rB pH k'.head cH, rB pA k'.a cA, rB pB k'.b cB, rB qA k.a dA, rB qB k.b dB, row (sB pr i.recs cr) 30 1 i.recs.length us] a)
  (hx : ∀ h, Sl U8R h (sB qA k.a dA) k.a → Sl U8R h (sB qB k.b dB) k.b → Sl U8R h vS i.state ∧ inn us i.recs h) : memR (sB pH k'.head cH) (sB pA k'.a cA) (sB pB k'.b cB) vS (sB pr i.recs cr) k' i a := by
 obtain ⟨h1, h2⟩ := hx a (sat_sl h 3 rfl) (sat_sl h 4 rfl)
 exact ⟨sat_sl h 0 rfl, sat_sl h 1 rfl, sat_sl h 2 rfl, h1, rows_bs (T := 30) (h.each _ (List.mem_of_getElem? (i := 5) rfl)) h2⟩
theorem mem_of0 {pH pA pB : Option Addr} {cH cA cB : Nat} {k' : KS} {a : PHeap} (h : Sat [rB pH k'.head cH, rB pA k'.a cA, rB pB k'.b cB] a) :
  memR (sB pH k'.head cH) (sB pA k'.a cA) (sB pB k'.b cB) (.slice none 0 0) (.slice none 0 0) k' zI a := ⟨sat_sl h 0 rfl, sat_sl h 1 rfl, sat_sl h 2 rfl, Sl.nil U8R a, Sl.nil BsR a⟩
theorem tf164 : cfB Try.prog 61 = true := by kernel_rfl
theorem tf165 : Try.prog.underlying 4 = some .bool := by kernel_rfl
theorem tf166 : cfB Try.prog 29 = true := by kernel_rfl
set_option maxHeartbeats 4000000 in
theorem opened_pow (β : Base) (w : World) (S : Nat) (k : KS) (hl1 : k.head.length ≤ 1048576) (hl2 : k.a.length ≤ 1048576) (hl3 : k.b.length ≤ 1048576) (hok : k.okP) (hpw : k.power ≤ 9223372036854775807) (i : KI) (hri : readI k = some i) (hcut : ¬ cutOk (k.area i.epoch) k.power i.size) (hw : St β [storeR S k] w) : Calls Try.prog 22 #[pp S 0] w fun r w' => ∃ pH pA pB cH cA cB, r = .returned (.tuple #[.pointer none, .agg #[sB pH k.head cH, sB pA k.a cA, sB pB k.b cB, Ix k.power, .int .i64 0, .int .i64 0, .slice none 0 0, .slice none 0 0, .int .i64 0, .bool false], .bool true]) ∧ St β [storeR S k, memR (sB pH k.head cH) (sB pA k.a cA) (sB pB k.b cB) (.slice none 0 0) (.slice none 0 0) k zI] w' := by
 refine enter (n := 86) Try.func22 rfl Try.ntmps22 rfl ?_ hw
 refine csr ?_
 refine lv e_assign ?_
 refine l_mv rfl rfl rfl (m_alloc tf151) ?_
 rintro _ _ ⟨b1, rfl, rfl⟩
 refine lv e_assign ?_
 refine lnf ?_
 refine c_seq ?_
 have hrb := read_b hri
 have hl : (k.area i.epoch).length ≤ 1048576 := by unfold KS.area; split <;> omega
 have hlen := hrb.len
 have hn : i.recs.length ≤ 1048576 := by omega
 have hb : i.state.length ≤ 1048576 := by have := hrb.state; omega
 have hbs : ∀ b ∈ i.recs, b.length ≤ 1048576 := fun b hb => by have := hrb.recs b hb; omega
 refine c_pi [1, 0] 2 rfl (by kernel_rfl) ?_
 refine c_openStore rfl (fun pH2 pA3 pB4 cH5 cA6 cB7 => ?_)
 refine c_rowcap 1 rfl (fun hcl8 hcm9 => ?_)
 refine c_rowcap 2 rfl (fun hcl10 hcm11 => ?_)
 refine c_rowcap 3 rfl (fun hcl12 hcm13 => ?_)
 refine c_region ?_
 refine lv e_move ?_
 refine lv (v := pp S 0) (e_nil (a := ⟨S, 0, none⟩) rfl) ?_
 refine lv (v := .agg #[sB pH2 k.head cH5, sB pA3 k.a cA6, sB pB4 k.b cB7, Ix (k.power)]) (e_load tf56 rfl (k_pt 0 rfl rfl) rfl) ?_
 refine lcf (cl0 (vs := [.agg #[sB pH2 k.head cH5, sB pA3 k.a cA6, sB pB4 k.b cB7, Ix (k.power)]]) tf118 rfl rfl) rfl fun w β1 sb kn hw1 back => (copys_ok β1 w hw1 k _ _ _ (kU kn 1 rfl) (kU kn 2 rfl) (kU kn 3 rfl) (by omega) (by omega) (by omega)).mono ?_
 rintro e w' ⟨pH14, pA15, pB16, cH17, cA18, cB19, rfl, hw'⟩
 refine ⟨_, rfl, _, back _ _ hw', ?_⟩
 clear hw1 hw' back kn sb
 refine l_mv rfl rfl rfl (m_alloc tf106) ?_
 rintro _ _ ⟨b20, rfl, rfl⟩
 refine lu (m_store 0 tf56 (cs' := #[sB pH14 k.head cH17, sB pA15 k.a cA18, sB pB16 k.b cB19, Ix (k.power)]) rfl rfl rfl rfl rfl rfl rfl) ?_
 refine lnc ?_
 refine lv e_move ?_
 refine lv (v := pp S 0) (e_nil (a := ⟨S, 0, none⟩) rfl) ?_
 refine lv (v := .agg #[sB pH2 k.head cH5, sB pA3 k.a cA6, sB pB4 k.b cB7, Ix (k.power)]) (e_load tf56 rfl (k_pt 4 rfl rfl) rfl) ?_
 refine lcf (cl0 (vs := [.agg #[sB pH2 k.head cH5, sB pA3 k.a cA6, sB pB4 k.b cB7, Ix (k.power)]]) tf69 rfl rfl) rfl fun w β1 sb kn hw1 back => (readC_ok β1 w hw1 k _ _ _ (kU kn 5 rfl) (kU kn 6 rfl) (kU kn 7 rfl) hok i hri).mono ?_
 rintro e w' ⟨ps21, pr22, cs23, cr24, rfl, hw'⟩
 refine ⟨_, rfl, _, back _ _ hw', ?_⟩
 clear hw1 hw' back kn sb
 refine lv e_move ?_
 refine lv (v := .agg #[Nx (i.epoch), Nx (i.next), sB ps21 i.state cs23, sB pr22 i.recs cr24, Nx (i.size)]) (e_extract (vs := #[.agg #[Nx (i.epoch), Nx (i.next), sB ps21 i.state cs23, sB pr22 i.recs cr24, Nx (i.size)], .int .i64 (0)]) rfl rfl) ?_
 refine lv (v := .int .i64 (0)) (e_extract (vs := #[.agg #[Nx (i.epoch), Nx (i.next), sB ps21 i.state cs23, sB pr22 i.recs cr24, Nx (i.size)], .int .i64 (0)]) rfl rfl) ?_
 refine l_mv rfl rfl rfl (m_alloc tf55) ?_
 rintro _ _ ⟨b25, rfl, rfl⟩
 refine lu (m_store 0 tf59 (cs' := #[Nx (i.epoch), Nx (i.next), sB ps21 i.state cs23, sB pr22 i.recs cr24, Nx (i.size)]) rfl rfl rfl rfl rfl rfl rfl) ?_
 refine lv e_assign ?_
 refine lnc ?_
 refine lv (v := .agg #[sB pH14 k.head cH17, sB pA15 k.a cA18, sB pB16 k.b cB19, Ix (k.power)]) (e_load tf56 rfl (k_pt 3 rfl rfl) rfl) ?_
 refine lcf (cl0 (vs := [.agg #[sB pH14 k.head cH17, sB pA15 k.a cA18, sB pB16 k.b cB19, Ix (k.power)]]) tf152 rfl rfl) rfl fun w β1 sb kn hw1 back => (rread_some β1 w hw1 k _ _ _ (kU kn 4 rfl) (kU kn 5 rfl) (kU kn 6 rfl) hok i hri).mono ?_
 rintro e w' ⟨ps26, cs27, pr28, cr29, us30, rfl, hx31, hw'⟩
 refine ⟨_, rfl, _, back _ _ hw', ?_⟩
 clear hw1 hw' back kn sb
 refine lv e_move ?_
 refine lv (v := .agg #[Nx (i.epoch), Nx (i.next), sB ps26 i.state cs27, sB pr28 i.recs cr29, Nx (i.size)]) (e_extract (vs := #[.agg #[Nx (i.epoch), Nx (i.next), sB ps26 i.state cs27, sB pr28 i.recs cr29, Nx (i.size)], .int .i64 (0)]) rfl rfl) ?_
 refine lv (v := .int .i64 (0)) (e_extract (vs := #[.agg #[Nx (i.epoch), Nx (i.next), sB ps26 i.state cs27, sB pr28 i.recs cr29, Nx (i.size)], .int .i64 (0)]) rfl rfl) ?_
 refine l_mv rfl rfl rfl (m_alloc tf139) ?_
 rintro _ _ ⟨b32, rfl, rfl⟩
 refine lu (m_store 0 tf142 (cs' := #[Nx (i.epoch), Nx (i.next), sB ps26 i.state cs27, sB pr28 i.recs cr29, Nx (i.size)]) rfl rfl rfl rfl rfl rfl rfl) ?_
 refine lv e_assign ?_
 refine lnf ?_
 refine cs2 ?_
 refine c_quiet (by kernel_rfl) (by kernel_rfl) ?_
 refine q_val (v := .int .i64 (0)) rfl rfl rfl e_move ?_
 refine q_val (v := .int .i64 (0)) rfl rfl rfl e_move ?_
 refine q_val (v := .bool false) rfl rfl rfl (e_neq (a := (0 : Int)) (b := (0 : Int)) rfl rfl) ?_
 refine q_val (v := .bool false) rfl rfl rfl e_move ?_
 refine qg_val (v := .agg #[Nx (i.epoch), Nx (i.next), sB ps21 i.state cs23, sB pr22 i.recs cr24, Nx (i.size)]) rfl rfl rfl rfl rfl (e_load tf59 rfl (k_pt 2 rfl rfl) rfl) ?_
 refine qg_val (v := .agg #[Nx (i.epoch), Nx (i.next), sB ps26 i.state cs27, sB pr28 i.recs cr29, Nx (i.size)]) rfl rfl rfl rfl rfl (e_load tf142 rfl (k_pt 0 rfl rfl) rfl) ?_
 refine qg_call (v := .bool true) rfl rfl rfl rfl rfl (cl0 (vs := [.agg #[Nx (i.epoch), Nx (i.next), sB ps21 i.state cs23, sB pr22 i.recs cr24, Nx (i.size)], .agg #[Nx (i.epoch), Nx (i.next), sB ps26 i.state cs27, sB pr28 i.recs cr29, Nx (i.size)]]) tf162 rfl rfl) (fun w hw => ?_) ?_
 ·obtain ⟨β1, sb, kn, hw1, back⟩ := St.frame_all hw
  exact (same2_ok β1 w hw1 i _ _ _ _ hn (kU kn 3 rfl) (kn _ (Knows.of_res 4 rfl (Sl.mono BsR _ _) fun _ h => recs_sl h)) (hx31 _ (kU kn 7 rfl) (kU kn 8 rfl)).1 (rows_bs (kn _ (Knows.of_res 1 rfl row_mono fun a h => ⟨a, Sub.refl _, h⟩)) (hx31 _ (kU kn 7 rfl) (kU kn 8 rfl)).2)).mono (fun e w' ⟨he, hw'⟩ => ⟨he, st_mask [true, true, true, true, true, true, true, true, true, true, true, true, true, true] rfl (back _ _ hw')⟩)
 refine qg_val (v := .bool false) rfl rfl rfl rfl rfl (e_not (a := true) rfl) ?_
 refine q_val (v := .bool false) rfl rfl rfl (e_pick_f rfl) ?_
 refine q_val (v := .bool false) rfl rfl rfl e_move ?_
 refine qg_val (v := pp S 0) rfl rfl rfl rfl rfl e_move ?_
 refine qg_val (v := pp S 0) rfl rfl rfl rfl rfl (e_nil (a := ⟨S, 0, none⟩) rfl) ?_
 refine qg_val (v := .agg #[sB pH2 k.head cH5, sB pA3 k.a cA6, sB pB4 k.b cB7, Ix (k.power)]) rfl rfl rfl rfl rfl (e_load tf56 rfl (k_pt 9 rfl rfl) rfl) ?_
 refine qg_val (v := .agg #[sB pH14 k.head cH17, sB pA15 k.a cA18, sB pB16 k.b cB19, Ix (k.power)]) rfl rfl rfl rfl rfl (e_load tf56 rfl (k_pt 5 rfl rfl) rfl) ?_
 refine qg_call (v := .bool true) rfl rfl rfl rfl rfl (cl0 (vs := [.agg #[sB pH2 k.head cH5, sB pA3 k.a cA6, sB pB4 k.b cB7, Ix (k.power)], .agg #[sB pH14 k.head cH17, sB pA15 k.a cA18, sB pB16 k.b cB19, Ix (k.power)]]) tf122 rfl rfl) (fun w hw => ?_) ?_
 ·obtain ⟨β1, sb, kn, hw1, back⟩ := St.frame_all hw
  exact (sames_ok β1 w hw1 k _ _ _ (kU kn 10 rfl) (kU kn 11 rfl) (kU kn 12 rfl) _ _ _ (kU kn 6 rfl) (kU kn 7 rfl) (kU kn 8 rfl)).mono (fun e w' ⟨he, hw'⟩ => ⟨he, st_mask [true, true, true, true, true, true, true, true, true, true, true, true, true, true] rfl (back _ _ hw')⟩)
 refine qg_val (v := .bool false) rfl rfl rfl rfl rfl (e_not (a := true) rfl) ?_
 refine q_val (v := .bool false) rfl rfl rfl (e_pick_f rfl) ?_
 refine q_nil ?_
 refine f_then ?_
 refine c_no rfl ?_
 refine csk ?_
 refine c_seq ?_
 refine c_pi [9, 10, 11, 12, 0, 1, 2, 3, 4, 5, 6, 7, 8, 13] 14 rfl (by kernel_rfl) ?_
 refine c_closeStore (S := S) (k := k) (pH := pH2) (pA := pA3) (pB := pB4) (cH := cH5) (cA := cA6) (cB := cB7) (M := (pt b32 (.cells #[Nx (i.epoch), Nx (i.next), sB ps26 i.state cs27, sB pr28 i.recs cr29, Nx (i.size)] 54) :: row (sB pr28 i.recs cr29) 30 1 (i.recs.length) (us30) :: pt b25 (.cells #[Nx (i.epoch), Nx (i.next), sB ps21 i.state cs23, sB pr22 i.recs cr24, Nx (i.size)] 36) :: rB ps21 i.state cs23 :: recsR 30 pr22 cr24 i.recs :: pt b20 (.cells #[sB pH14 k.head cH17, sB pA15 k.a cA18, sB pB16 k.b cB19, Ix (k.power)] 32) :: rB pH14 k.head cH17 :: rB pA15 k.a cA18 :: rB pB16 k.b cB19 :: pt b1 (.cells #[.slice none 0 0, .slice none 0 0, .slice none 0 0, .int .i64 (0), .int .i64 (0), .int .i64 (0), .slice none 0 0, .slice none 0 0, .int .i64 (0), .bool false] 56) :: [])) rfl ?_
 refine c_region ?_
 refine lv e_move ?_
 refine l_call rfl rfl rfl (cl0 (vs := [pp S 0]) tf104 rfl rfl) ?_
 intro w hw
 replace hw := hw.perm (L' := _ :: _ :: _ :: _ :: _ :: _ :: _ :: _ :: _ :: _ :: _ :: []) (by exact (((((((((((perm_front 10 rfl).trans (perm_front 10 rfl)).trans (perm_front 10 rfl)).trans (perm_front 10 rfl)).trans (perm_front 10 rfl)).trans (perm_front 10 rfl)).trans (perm_front 10 rfl)).trans (perm_front 10 rfl)).trans (perm_front 10 rfl)).trans (perm_front 10 rfl)).trans (perm_front 10 rfl)))
 obtain ⟨β1, sb, kn, hw1, back⟩ := St.frame (L := [_]) (M := _ :: _ :: _ :: _ :: _ :: _ :: _ :: _ :: _ :: _ :: []) hw
 refine (open_pow β1 w S k hok hpw i hri hcut hw1).mono ?_
 rintro e w' ⟨rfl, hw'⟩
 refine ⟨_, rfl, _, back _ _ hw', ?_⟩
 clear hw hw1 hw' back kn sb
 refine lv e_move ?_
 refine lv (v := .pointer none) (e_extract (vs := #[.pointer none, .int .i64 (310)]) rfl rfl) ?_
 refine lv (v := .int .i64 (310)) (e_extract (vs := #[.pointer none, .int .i64 (310)]) rfl rfl) ?_
 refine lv e_assign ?_
 refine lv e_assign ?_
 refine lnc ?_
 refine lv (v := .agg #[sB pH14 k.head cH17, sB pA15 k.a cA18, sB pB16 k.b cB19, Ix (k.power)]) (e_load tf56 rfl (k_pt 6 rfl rfl) rfl) ?_
 refine lcf (cl0 (vs := [.agg #[sB pH14 k.head cH17, sB pA15 k.a cA18, sB pB16 k.b cB19, Ix (k.power)]]) tf164 rfl rfl) rfl fun w β1 sb kn hw1 back => (ropen_pow β1 w hw1 k _ _ _ (kU kn 7 rfl) (kU kn 8 rfl) (kU kn 9 rfl) hok hpw i hri hcut).mono ?_
 rintro e w' ⟨pH33, pA34, pB35, cH36, cA37, cB38, rfl, hw'⟩
 refine ⟨_, rfl, _, back _ _ hw', ?_⟩
 clear hw1 hw' back kn sb
 refine lv e_move ?_
 refine lv (v := .agg #[sB pH33 ((cutS k i.epoch i.size).head) cH36, sB pA34 ((cutS k i.epoch i.size).a) cA37, sB pB35 ((cutS k i.epoch i.size).b) cB38, Ix ((cutS k i.epoch i.size).power), .int .i64 (0), .int .i64 (0), .slice none 0 0, .slice none 0 0, .int .i64 (0), .bool false]) (e_extract (vs := #[.agg #[sB pH33 ((cutS k i.epoch i.size).head) cH36, sB pA34 ((cutS k i.epoch i.size).a) cA37, sB pB35 ((cutS k i.epoch i.size).b) cB38, Ix ((cutS k i.epoch i.size).power), .int .i64 (0), .int .i64 (0), .slice none 0 0, .slice none 0 0, .int .i64 (0), .bool false], .int .i64 (310)]) rfl rfl) ?_
 refine lv (v := .int .i64 (310)) (e_extract (vs := #[.agg #[sB pH33 ((cutS k i.epoch i.size).head) cH36, sB pA34 ((cutS k i.epoch i.size).a) cA37, sB pB35 ((cutS k i.epoch i.size).b) cB38, Ix ((cutS k i.epoch i.size).power), .int .i64 (0), .int .i64 (0), .slice none 0 0, .slice none 0 0, .int .i64 (0), .bool false], .int .i64 (310)]) rfl rfl) ?_
 refine l_mv rfl rfl rfl (m_alloc tf151) ?_
 rintro _ _ ⟨b39, rfl, rfl⟩
 refine lu (m_store 0 tf154 (cs' := #[sB pH33 ((cutS k i.epoch i.size).head) cH36, sB pA34 ((cutS k i.epoch i.size).a) cA37, sB pB35 ((cutS k i.epoch i.size).b) cB38, Ix ((cutS k i.epoch i.size).power), .int .i64 (0), .int .i64 (0), .slice none 0 0, .slice none 0 0, .int .i64 (0), .bool false]) rfl rfl rfl rfl rfl rfl rfl) ?_
 refine lv e_assign ?_
 refine lnf ?_
 refine cs2 ?_
 refine c_re (L' := [pt b39 (.cells #[sB pH33 k.head cH36, sB pA34 k.a cA37, sB pB35 k.b cB38, Ix (k.power), .int .i64 (0), .int .i64 (0), .slice none 0 0, .slice none 0 0, .int .i64 (0), .bool false] 56), rB pH33 k.head cH36, rB pA34 k.a cA37, rB pB35 k.b cB38, storeR S k, pt b32 (.cells #[Nx (i.epoch), Nx (i.next), sB ps26 i.state cs27, sB pr28 i.recs cr29, Nx (i.size)] 54), row (sB pr28 i.recs cr29) 30 1 (i.recs.length) (us30), pt b25 (.cells #[Nx (i.epoch), Nx (i.next), sB ps21 i.state cs23, sB pr22 i.recs cr24, Nx (i.size)] 36), rB ps21 i.state cs23, recsR 30 pr22 cr24 i.recs, pt b20 (.cells #[sB pH14 k.head cH17, sB pA15 k.a cA18, sB pB16 k.b cB19, Ix (k.power)] 32), rB pH14 k.head cH17, rB pA15 k.a cA18, rB pB16 k.b cB19, pt b1 (.cells #[.slice none 0 0, .slice none 0 0, .slice none 0 0, .int .i64 (0), .int .i64 (0), .int .i64 (0), .slice none 0 0, .slice none 0 0, .int .i64 (0), .bool false] 56)]) (by show [pt b39 (.cells #[sB pH33 ((cutS k i.epoch i.size).head) cH36, sB pA34 ((cutS k i.epoch i.size).a) cA37, sB pB35 ((cutS k i.epoch i.size).b) cB38, Ix ((cutS k i.epoch i.size).power), .int .i64 (0), .int .i64 (0), .slice none 0 0, .slice none 0 0, .int .i64 (0), .bool false] 56), rB pH33 ((cutS k i.epoch i.size).head) cH36, rB pA34 ((cutS k i.epoch i.size).a) cA37, rB pB35 ((cutS k i.epoch i.size).b) cB38, storeR S k, pt b32 (.cells #[Nx (i.epoch), Nx (i.next), sB ps26 i.state cs27, sB pr28 i.recs cr29, Nx (i.size)] 54), row (sB pr28 i.recs cr29) 30 1 (i.recs.length) (us30), pt b25 (.cells #[Nx (i.epoch), Nx (i.next), sB ps21 i.state cs23, sB pr22 i.recs cr24, Nx (i.size)] 36), rB ps21 i.state cs23, recsR 30 pr22 cr24 i.recs, pt b20 (.cells #[sB pH14 k.head cH17, sB pA15 k.a cA18, sB pB16 k.b cB19, Ix (k.power)] 32), rB pH14 k.head cH17, rB pA15 k.a cA18, rB pB16 k.b cB19, pt b1 (.cells #[.slice none 0 0, .slice none 0 0, .slice none 0 0, .int .i64 (0), .int .i64 (0), .int .i64 (0), .slice none 0 0, .slice none 0 0, .int .i64 (0), .bool false] 56)] = _; rw [cut_no hcut]) ?_
 refine c_pi [4, 0, 1, 2, 3, 5, 6, 7, 8, 9, 10, 11, 12, 13, 14] 15 rfl (by kernel_rfl) ?_
 refine c_openStore rfl (fun pH40 pA41 pB42 cH43 cA44 cB45 => ?_)
 refine c_rowcap 1 rfl (fun hcl46 hcm47 => ?_)
 refine c_rowcap 2 rfl (fun hcl48 hcm49 => ?_)
 refine c_rowcap 3 rfl (fun hcl50 hcm51 => ?_)
 refine c_quiet (by kernel_rfl) (by kernel_rfl) ?_
 refine q_val (v := .int .i64 (310)) rfl rfl rfl e_move ?_
 refine q_val (v := .int .i64 (310)) rfl rfl rfl e_move ?_
 refine q_val (v := .bool false) rfl rfl rfl (e_neq (a := (310 : Int)) (b := (310 : Int)) rfl rfl) ?_
 refine q_val (v := .bool false) rfl rfl rfl e_move ?_
 refine qg_val (v := .pointer none) rfl rfl rfl rfl rfl e_move ?_
 refine qg_val (v := .bool true) rfl rfl rfl rfl rfl (e_eql_pnil (p := none) rfl rfl tf36) ?_
 refine qg_val (v := .int .i64 (310)) rfl rfl rfl rfl rfl e_move ?_
 refine qg_val (v := .bool true) rfl rfl rfl rfl rfl (e_neq (a := (310 : Int)) (b := (0 : Int)) rfl rfl) ?_
 refine qg_val (v := .bool false) rfl rfl rfl rfl rfl (e_neq_b (a := true) (b := true) rfl rfl tf165) ?_
 refine q_val (v := .bool false) rfl rfl rfl (e_pick_f rfl) ?_
 refine q_val (v := .bool false) rfl rfl rfl e_move ?_
 refine qg_val (v := pp S 0) rfl rfl rfl rfl rfl e_move ?_
 refine qg_val (v := pp S 0) rfl rfl rfl rfl rfl (e_nil (a := ⟨S, 0, none⟩) rfl) ?_
 refine qg_val (v := .agg #[sB pH40 k.head cH43, sB pA41 k.a cA44, sB pB42 k.b cB45, Ix (k.power)]) rfl rfl rfl rfl rfl (e_load tf56 rfl (k_pt 0 rfl rfl) rfl) ?_
 refine qg_val (v := pp b39 0) rfl rfl rfl rfl rfl (e_fieldPt rfl tf158) ?_
 refine qg_val (v := .agg #[sB pH33 k.head cH36, sB pA34 k.a cA37, sB pB35 k.b cB38, Ix (k.power)]) rfl rfl rfl rfl rfl (e_load tf56 rfl (k_pt 4 rfl rfl) rfl) ?_
 refine qg_call (v := .bool true) rfl rfl rfl rfl rfl (cl0 (vs := [.agg #[sB pH40 k.head cH43, sB pA41 k.a cA44, sB pB42 k.b cB45, Ix (k.power)], .agg #[sB pH33 k.head cH36, sB pA34 k.a cA37, sB pB35 k.b cB38, Ix (k.power)]]) tf122 rfl rfl) (fun w hw => ?_) ?_
 ·obtain ⟨β1, sb, kn, hw1, back⟩ := St.frame_all hw
  exact (sames_ok β1 w hw1 k _ _ _ (kU kn 1 rfl) (kU kn 2 rfl) (kU kn 3 rfl) _ _ _ (kU kn 5 rfl) (kU kn 6 rfl) (kU kn 7 rfl)).mono (fun e w' ⟨he, hw'⟩ => ⟨he, st_mask [true, true, true, true, true, true, true, true, true, true, true, true, true, true, true, true, true, true] rfl (back _ _ hw')⟩)
 refine qg_val (v := .bool false) rfl rfl rfl rfl rfl (e_not (a := true) rfl) ?_
 refine q_val (v := .bool false) rfl rfl rfl (e_pick_f rfl) ?_
 refine q_nil ?_
 refine f_then ?_
 refine c_no rfl ?_
 refine csk ?_
 refine c_seq ?_
 refine c_pi [0, 1, 2, 3, 4, 5, 6, 7, 8, 9, 10, 11, 12, 13, 14, 15, 16, 17] 18 rfl (by kernel_rfl) ?_
 refine c_closeStore (S := S) (k := k) (pH := pH40) (pA := pA41) (pB := pB42) (cH := cH43) (cA := cA44) (cB := cB45) (M := (pt b39 (.cells #[sB pH33 k.head cH36, sB pA34 k.a cA37, sB pB35 k.b cB38, Ix (k.power), .int .i64 (0), .int .i64 (0), .slice none 0 0, .slice none 0 0, .int .i64 (0), .bool false] 56) :: rB pH33 k.head cH36 :: rB pA34 k.a cA37 :: rB pB35 k.b cB38 :: pt b32 (.cells #[Nx (i.epoch), Nx (i.next), sB ps26 i.state cs27, sB pr28 i.recs cr29, Nx (i.size)] 54) :: row (sB pr28 i.recs cr29) 30 1 (i.recs.length) (us30) :: pt b25 (.cells #[Nx (i.epoch), Nx (i.next), sB ps21 i.state cs23, sB pr22 i.recs cr24, Nx (i.size)] 36) :: rB ps21 i.state cs23 :: recsR 30 pr22 cr24 i.recs :: pt b20 (.cells #[sB pH14 k.head cH17, sB pA15 k.a cA18, sB pB16 k.b cB19, Ix (k.power)] 32) :: rB pH14 k.head cH17 :: rB pA15 k.a cA18 :: rB pB16 k.b cB19 :: pt b1 (.cells #[.slice none 0 0, .slice none 0 0, .slice none 0 0, .int .i64 (0), .int .i64 (0), .int .i64 (0), .slice none 0 0, .slice none 0 0, .int .i64 (0), .bool false] 56) :: [])) rfl ?_
 refine c_pi [2, 3, 4, 0, 1, 5, 6, 7, 8, 9, 10, 11, 12, 13, 14] 15 rfl (by kernel_rfl) ?_
 refine c_seal (K := [rB pH33 k.head cH36, rB pA34 k.a cA37, rB pB35 k.b cB38]) (F := memR (sB pH33 k.head cH36) (sB pA34 k.a cA37) (sB pB35 k.b cB38) (.slice none 0 0) (.slice none 0 0) k zI) rfl (fun _ h => mem_of0 h) ?_
 refine c_any [⟨[], [], [0], [76], fun f => f 76 = .pointer none⟩, ⟨[], [], [1], [77], fun f => f 77 = .agg #[sB pH33 k.head cH36, sB pA34 k.a cA37, sB pB35 k.b cB38, Ix (k.power), .int .i64 (0), .int .i64 (0), .slice none 0 0, .slice none 0 0, .int .i64 (0), .bool false]⟩, ⟨[], [], [0], [78], fun f => f 78 = .pointer none⟩, ⟨[2], [2], [], [79], fun f => f 79 = .bool true⟩, ⟨[2, 3], [3], [], [80], fun f => f 80 = .bool true⟩, ⟨[2, 3, 4], [4], [0], [81], fun f => f 81 = undef⟩, ⟨[2, 3, 4], [4], [1], [82], fun f => f 82 = undef⟩, ⟨[2, 3, 4, 6], [6, 4], [], [83], fun f => f 83 = undef⟩, ⟨[2, 3, 4, 5, 6, 7], [5, 7, 4], [], [84], fun f => f 84 = undef⟩, ⟨[2, 3, 4, 5, 6, 7, 8], [4, 8], [], [85], fun f => f 85 = .bool true⟩, ⟨[0, 2, 3, 4, 5, 6, 7, 8], [0], [], [2], fun f => f 2 = .pointer none⟩, ⟨[0, 1, 2, 3, 4, 5, 6, 7, 8, 10], [1], [2], [], fun _ => True⟩, ⟨(List.range 12), [9], [], [4], fun f => f 4 = .bool true⟩] [⟨none, none, [], [], fun _ => memR (sB pH33 k.head cH36) (sB pA34 k.a cA37) (sB pB35 k.b cB38) (.slice none 0 0) (.slice none 0 0) k zI⟩, ⟨none, none, [], [], fun _ => storeR S k⟩, ⟨none, none, [1], [], fun _ => pt b39 (.cells #[sB pH33 k.head cH36, sB pA34 k.a cA37, sB pB35 k.b cB38, Ix (k.power), .int .i64 (0), .int .i64 (0), .slice none 0 0, .slice none 0 0, .int .i64 (0), .bool false] 56)⟩, ⟨none, none, [], [], fun _ => pt b32 (.cells #[Nx (i.epoch), Nx (i.next), sB ps26 i.state cs27, sB pr28 i.recs cr29, Nx (i.size)] 54)⟩, ⟨none, none, [], [], fun _ => row (sB pr28 i.recs cr29) 30 1 (i.recs.length) (us30)⟩, ⟨none, none, [], [], fun _ => pt b25 (.cells #[Nx (i.epoch), Nx (i.next), sB ps21 i.state cs23, sB pr22 i.recs cr24, Nx (i.size)] 36)⟩, ⟨none, none, [], [], fun _ => rB ps21 i.state cs23⟩, ⟨none, none, [], [], fun _ => recsR 30 pr22 cr24 i.recs⟩, ⟨none, none, [], [], fun _ => pt b20 (.cells #[sB pH14 k.head cH17, sB pA15 k.a cA18, sB pB16 k.b cB19, Ix (k.power)] 32)⟩, ⟨none, none, [], [], fun _ => rB pH14 k.head cH17⟩, ⟨none, none, [], [], fun _ => rB pA15 k.a cA18⟩, ⟨none, none, [], [], fun _ => rB pB16 k.b cB19⟩, ⟨none, (some 11), [11], [], fun _ => pt b1 (.cells #[.slice none 0 0, .slice none 0 0, .slice none 0 0, .int .i64 (0), .int .i64 (0), .int .i64 (0), .slice none 0 0, .slice none 0 0, .int .i64 (0), .bool false] 56)⟩, ⟨(some 11), none, [], [], fun _ => pt b1 (.cells #[sB pH33 k.head cH36, sB pA34 k.a cA37, sB pB35 k.b cB38, Ix (k.power), .int .i64 (0), .int .i64 (0), .slice none 0 0, .slice none 0 0, .int .i64 (0), .bool false] 56)⟩] [(10, .pointer none), (11, pp b39 0), (3, pp b1 0)] [2] [] (by kernel_rfl) (by kernel_rfl) (by kernel_rfl) (by kernel_rfl) rfl ⟨rfl, rfl, rfl, trivial⟩ ⟨?_, ?_, ?_, ?_, ?_, ?_, ?_, ?_, ?_, ?_, ?_, ?_, ?_, trivial⟩ ?_
 ·rintro f M - ⟨i0, -⟩
  exact ob0 (up_cons (d := 10) rfl i0) rfl e_move (.refl _)
 ·rintro f M - ⟨i0, -⟩
  exact obv (L' := pt b39 (.cells #[sB pH33 k.head cH36, sB pA34 k.a cA37, sB pB35 k.b cB38, Ix (k.power), .int .i64 (0), .int .i64 (0), .slice none 0 0, .slice none 0 0, .int .i64 (0), .bool false] 56) :: M) (up_cons (d := 11) rfl i0) rfl (e_load tf154 rfl (k_pt 0 rfl rfl) rfl) (perm_front 0 rfl) (by rfl)
 ·rintro f M - ⟨i0, -⟩
  exact ob0 (up_cons (d := 10) rfl i0) rfl e_move (.refl _)
 ·rintro f M ⟨k0, -⟩ -
  exact ob0 (up_cons (d := 78) rfl k0) rfl (e_eql_pnil (p := none) rfl rfl tf36) (.refl _)
 ·rintro f M ⟨k0, -⟩ -
  exact ob0 (up_cons (d := 79) rfl k0) rfl e_move (.refl _)
 ·rintro f M ⟨k0, -⟩ ⟨i0, -⟩
  exact obs (up_cons (d := 80) (up_cons (d := 10) rfl i0) k0) rfl rfl rfl rfl (.refl _)
 ·rintro f M ⟨k0, -⟩ ⟨i0, -⟩
  exact obs (up_cons (d := 80) (up_cons (d := 11) rfl i0) k0) rfl rfl rfl rfl (.refl _)
 ·rintro f M ⟨k0, k1, -⟩ -
  exact obs (up_cons (d := 80) (up_cons (d := 82) rfl k0) k1) rfl rfl rfl rfl (.refl _)
 ·rintro f M ⟨k0, k1, k2, -⟩ -
  exact obs (up_cons (d := 80) (up_cons (d := 83) (up_cons (d := 81) rfl k0) k1) k2) rfl rfl rfl rfl (.refl _)
 ·rintro f M ⟨k0, k1, -⟩ -
  exact ob0 (up_cons (d := 84) (up_cons (d := 80) rfl k0) k1) rfl (e_pick_t rfl) (.refl _)
 ·rintro f M ⟨k0, -⟩ -
  exact ob0 (up_cons (d := 76) rfl k0) rfl e_assign (.refl _)
 ·rintro f M ⟨k0, -⟩ ⟨i0, -⟩
  refine ob_start (L' := pt b1 (.cells #[.slice none 0 0, .slice none 0 0, .slice none 0 0, .int .i64 (0), .int .i64 (0), .int .i64 (0), .slice none 0 0, .slice none 0 0, .int .i64 (0), .bool false] 56) :: M) (by rfl) (up_cons (d := 77) (up_cons (d := 3) rfl i0) k0) ?_
  refine lu (m_store 0 tf154 (cs' := #[sB pH33 k.head cH36, sB pA34 k.a cA37, sB pB35 k.b cB38, Ix (k.power), .int .i64 (0), .int .i64 (0), .slice none 0 0, .slice none 0 0, .int .i64 (0), .bool false]) rfl rfl rfl rfl rfl rfl rfl) ?_
  refine l_nil ?_
  exact f_owes_n (up_cons (d := 77) (up_cons (d := 3) rfl i0) k0) trivial (perm_front 0 rfl)
 ·rintro f M ⟨k0, -⟩ -
  exact ob0 (up_cons (d := 85) rfl k0) rfl e_assign (.refl _)
 rintro fa52 ⟨-, -, -, -, -, -, -, -, -, -, k10, -, k12, -⟩ ⟨j0, -⟩
 refine f_re (L' := [memR (sB pH33 k.head cH36) (sB pA34 k.a cA37) (sB pB35 k.b cB38) (.slice none 0 0) (.slice none 0 0) k zI, storeR S k, pt b39 (.cells #[sB pH33 k.head cH36, sB pA34 k.a cA37, sB pB35 k.b cB38, Ix (k.power), .int .i64 (0), .int .i64 (0), .slice none 0 0, .slice none 0 0, .int .i64 (0), .bool false] 56), pt b32 (.cells #[Nx (i.epoch), Nx (i.next), sB ps26 i.state cs27, sB pr28 i.recs cr29, Nx (i.size)] 54), row (sB pr28 i.recs cr29) 30 1 (i.recs.length) (us30), pt b25 (.cells #[Nx (i.epoch), Nx (i.next), sB ps21 i.state cs23, sB pr22 i.recs cr24, Nx (i.size)] 36), rB ps21 i.state cs23, recsR 30 pr22 cr24 i.recs, pt b20 (.cells #[sB pH14 k.head cH17, sB pA15 k.a cA18, sB pB16 k.b cB19, Ix (k.power)] 32), rB pH14 k.head cH17, rB pA15 k.a cA18, rB pB16 k.b cB19, pt b1 (.cells #[sB pH33 k.head cH36, sB pA34 k.a cA37, sB pB35 k.b cB38, Ix (k.power), .int .i64 (0), .int .i64 (0), .slice none 0 0, .slice none 0 0, .int .i64 (0), .bool false] 56)]) (by rfl) ?_
 refine f_rebase (d := 2) k10 ?_
 refine f_rebase (d := 3) j0 ?_
 refine f_rebase (d := 4) k12 ?_
 refine ftr ?_
 refine retG (m := [.pointer none, .agg #[sB pH33 k.head cH36, sB pA34 k.a cA37, sB pB35 k.b cB38, Ix (k.power), .int .i64 (0), .int .i64 (0), .slice none 0 0, .slice none 0 0, .int .i64 (0), .bool false], .bool true]) Try.results22 ⟨rd_tmp (v := .pointer none) rfl, rd_cell tf154 rfl (k_pt 12 rfl rfl) rfl, rd_tmp (v := .bool true) rfl, trivial⟩ rfl ?_
 intro w hw
 have hw2 := st_mask [true, true, false, false, false, false, false, false, false, false, false, false, false] rfl (hw.perm (L' := [storeR S k, memR (sB pH33 k.head cH36) (sB pA34 k.a cA37) (sB pB35 k.b cB38) (.slice none 0 0) (.slice none 0 0) k zI, pt b39 (.cells #[sB pH33 k.head cH36, sB pA34 k.a cA37, sB pB35 k.b cB38, Ix (k.power), .int .i64 (0), .int .i64 (0), .slice none 0 0, .slice none 0 0, .int .i64 (0), .bool false] 56), pt b32 (.cells #[Nx (i.epoch), Nx (i.next), sB ps26 i.state cs27, sB pr28 i.recs cr29, Nx (i.size)] 54), row (sB pr28 i.recs cr29) 30 1 (i.recs.length) (us30), pt b25 (.cells #[Nx (i.epoch), Nx (i.next), sB ps21 i.state cs23, sB pr22 i.recs cr24, Nx (i.size)] 36), rB ps21 i.state cs23, recsR 30 pr22 cr24 i.recs, pt b20 (.cells #[sB pH14 k.head cH17, sB pA15 k.a cA18, sB pB16 k.b cB19, Ix (k.power)] 32), rB pH14 k.head cH17, rB pA15 k.a cA18, rB pB16 k.b cB19, pt b1 (.cells #[sB pH33 k.head cH36, sB pA34 k.a cA37, sB pB35 k.b cB38, Ix (k.power), .int .i64 (0), .int .i64 (0), .slice none 0 0, .slice none 0 0, .int .i64 (0), .bool false] 56)]) (by exact (perm_ix [1, 0, 2, 3, 4, 5, 6, 7, 8, 9, 10, 11, 12] 13 rfl (by kernel_rfl) (by kernel_rfl))))
 exact ⟨_, _, _, _, _, _, rfl, hw2⟩
set_option maxHeartbeats 4000000 in
theorem opened_ok (β : Base) (w : World) (S : Nat) (k : KS) (hl1 : k.head.length ≤ 1048576) (hl2 : k.a.length ≤ 1048576) (hl3 : k.b.length ≤ 1048576) (hok : k.okP) (hpw : k.power ≤ 9223372036854775807) (i : KI) (hri : readI k = some i) (hcut : cutOk (k.area i.epoch) k.power i.size) (hw : St β [storeR S k] w) : Calls Try.prog 22 #[pp S 0] w fun r w' => ∃ J pH pA pB cH cA cB ps cs pr cr, r = .returned (.tuple #[pp J 0, .agg #[sB pH ((cutS k i.epoch i.size).head) cH, sB pA ((cutS k i.epoch i.size).a) cA, sB pB ((cutS k i.epoch i.size).b) cB, Ix (cutS k i.epoch i.size).power, Nx i.epoch, Nx i.next, sB ps i.state cs, sB pr i.recs cr, Nx i.size, .bool false], .bool true]) ∧ St β [jourR J S i false, storeR S (cutS k i.epoch i.size), memR (sB pH (cutS k i.epoch i.size).head cH) (sB pA (cutS k i.epoch i.size).a cA) (sB pB (cutS k i.epoch i.size).b cB) (sB ps i.state cs) (sB pr i.recs cr) (cutS k i.epoch i.size) i] w' := by
 refine enter (n := 86) Try.func22 rfl Try.ntmps22 rfl ?_ hw
 refine csr ?_
 refine lv e_assign ?_
 refine l_mv rfl rfl rfl (m_alloc tf151) ?_
 rintro _ _ ⟨b1, rfl, rfl⟩
 refine lv e_assign ?_
 refine lnf ?_
 refine c_seq ?_
 have hrb := read_b hri
 have hl : (k.area i.epoch).length ≤ 1048576 := by unfold KS.area; split <;> omega
 have hlen := hrb.len
 have hn : i.recs.length ≤ 1048576 := by omega
 have hb : i.state.length ≤ 1048576 := by have := hrb.state; omega
 have hbs : ∀ b ∈ i.recs, b.length ≤ 1048576 := fun b hb => by have := hrb.recs b hb; omega
 refine c_pi [1, 0] 2 rfl (by kernel_rfl) ?_
 refine c_openStore rfl (fun pH2 pA3 pB4 cH5 cA6 cB7 => ?_)
 refine c_rowcap 1 rfl (fun hcl8 hcm9 => ?_)
 refine c_rowcap 2 rfl (fun hcl10 hcm11 => ?_)
 refine c_rowcap 3 rfl (fun hcl12 hcm13 => ?_)
 refine c_region ?_
 refine lv e_move ?_
 refine lv (v := pp S 0) (e_nil (a := ⟨S, 0, none⟩) rfl) ?_
 refine lv (v := .agg #[sB pH2 k.head cH5, sB pA3 k.a cA6, sB pB4 k.b cB7, Ix (k.power)]) (e_load tf56 rfl (k_pt 0 rfl rfl) rfl) ?_
 refine lcf (cl0 (vs := [.agg #[sB pH2 k.head cH5, sB pA3 k.a cA6, sB pB4 k.b cB7, Ix (k.power)]]) tf118 rfl rfl) rfl fun w β1 sb kn hw1 back => (copys_ok β1 w hw1 k _ _ _ (kU kn 1 rfl) (kU kn 2 rfl) (kU kn 3 rfl) (by omega) (by omega) (by omega)).mono ?_
 rintro e w' ⟨pH14, pA15, pB16, cH17, cA18, cB19, rfl, hw'⟩
 refine ⟨_, rfl, _, back _ _ hw', ?_⟩
 clear hw1 hw' back kn sb
 refine l_mv rfl rfl rfl (m_alloc tf106) ?_
 rintro _ _ ⟨b20, rfl, rfl⟩
 refine lu (m_store 0 tf56 (cs' := #[sB pH14 k.head cH17, sB pA15 k.a cA18, sB pB16 k.b cB19, Ix (k.power)]) rfl rfl rfl rfl rfl rfl rfl) ?_
 refine lnc ?_
 refine lv e_move ?_
 refine lv (v := pp S 0) (e_nil (a := ⟨S, 0, none⟩) rfl) ?_
 refine lv (v := .agg #[sB pH2 k.head cH5, sB pA3 k.a cA6, sB pB4 k.b cB7, Ix (k.power)]) (e_load tf56 rfl (k_pt 4 rfl rfl) rfl) ?_
 refine lcf (cl0 (vs := [.agg #[sB pH2 k.head cH5, sB pA3 k.a cA6, sB pB4 k.b cB7, Ix (k.power)]]) tf69 rfl rfl) rfl fun w β1 sb kn hw1 back => (readC_ok β1 w hw1 k _ _ _ (kU kn 5 rfl) (kU kn 6 rfl) (kU kn 7 rfl) hok i hri).mono ?_
 rintro e w' ⟨ps21, pr22, cs23, cr24, rfl, hw'⟩
 refine ⟨_, rfl, _, back _ _ hw', ?_⟩
 clear hw1 hw' back kn sb
 refine lv e_move ?_
 refine lv (v := .agg #[Nx (i.epoch), Nx (i.next), sB ps21 i.state cs23, sB pr22 i.recs cr24, Nx (i.size)]) (e_extract (vs := #[.agg #[Nx (i.epoch), Nx (i.next), sB ps21 i.state cs23, sB pr22 i.recs cr24, Nx (i.size)], .int .i64 (0)]) rfl rfl) ?_
 refine lv (v := .int .i64 (0)) (e_extract (vs := #[.agg #[Nx (i.epoch), Nx (i.next), sB ps21 i.state cs23, sB pr22 i.recs cr24, Nx (i.size)], .int .i64 (0)]) rfl rfl) ?_
 refine l_mv rfl rfl rfl (m_alloc tf55) ?_
 rintro _ _ ⟨b25, rfl, rfl⟩
 refine lu (m_store 0 tf59 (cs' := #[Nx (i.epoch), Nx (i.next), sB ps21 i.state cs23, sB pr22 i.recs cr24, Nx (i.size)]) rfl rfl rfl rfl rfl rfl rfl) ?_
 refine lv e_assign ?_
 refine lnc ?_
 refine lv (v := .agg #[sB pH14 k.head cH17, sB pA15 k.a cA18, sB pB16 k.b cB19, Ix (k.power)]) (e_load tf56 rfl (k_pt 3 rfl rfl) rfl) ?_
 refine lcf (cl0 (vs := [.agg #[sB pH14 k.head cH17, sB pA15 k.a cA18, sB pB16 k.b cB19, Ix (k.power)]]) tf152 rfl rfl) rfl fun w β1 sb kn hw1 back => (rread_some β1 w hw1 k _ _ _ (kU kn 4 rfl) (kU kn 5 rfl) (kU kn 6 rfl) hok i hri).mono ?_
 rintro e w' ⟨ps26, cs27, pr28, cr29, us30, rfl, hx31, hw'⟩
 refine ⟨_, rfl, _, back _ _ hw', ?_⟩
 clear hw1 hw' back kn sb
 refine lv e_move ?_
 refine lv (v := .agg #[Nx (i.epoch), Nx (i.next), sB ps26 i.state cs27, sB pr28 i.recs cr29, Nx (i.size)]) (e_extract (vs := #[.agg #[Nx (i.epoch), Nx (i.next), sB ps26 i.state cs27, sB pr28 i.recs cr29, Nx (i.size)], .int .i64 (0)]) rfl rfl) ?_
 refine lv (v := .int .i64 (0)) (e_extract (vs := #[.agg #[Nx (i.epoch), Nx (i.next), sB ps26 i.state cs27, sB pr28 i.recs cr29, Nx (i.size)], .int .i64 (0)]) rfl rfl) ?_
 refine l_mv rfl rfl rfl (m_alloc tf139) ?_
 rintro _ _ ⟨b32, rfl, rfl⟩
 refine lu (m_store 0 tf142 (cs' := #[Nx (i.epoch), Nx (i.next), sB ps26 i.state cs27, sB pr28 i.recs cr29, Nx (i.size)]) rfl rfl rfl rfl rfl rfl rfl) ?_
 refine lv e_assign ?_
 refine lnf ?_
 refine cs2 ?_
 refine c_quiet (by kernel_rfl) (by kernel_rfl) ?_
 refine q_val (v := .int .i64 (0)) rfl rfl rfl e_move ?_
 refine q_val (v := .int .i64 (0)) rfl rfl rfl e_move ?_
 refine q_val (v := .bool false) rfl rfl rfl (e_neq (a := (0 : Int)) (b := (0 : Int)) rfl rfl) ?_
 refine q_val (v := .bool false) rfl rfl rfl e_move ?_
 refine qg_val (v := .agg #[Nx (i.epoch), Nx (i.next), sB ps21 i.state cs23, sB pr22 i.recs cr24, Nx (i.size)]) rfl rfl rfl rfl rfl (e_load tf59 rfl (k_pt 2 rfl rfl) rfl) ?_
 refine qg_val (v := .agg #[Nx (i.epoch), Nx (i.next), sB ps26 i.state cs27, sB pr28 i.recs cr29, Nx (i.size)]) rfl rfl rfl rfl rfl (e_load tf142 rfl (k_pt 0 rfl rfl) rfl) ?_
 refine qg_call (v := .bool true) rfl rfl rfl rfl rfl (cl0 (vs := [.agg #[Nx (i.epoch), Nx (i.next), sB ps21 i.state cs23, sB pr22 i.recs cr24, Nx (i.size)], .agg #[Nx (i.epoch), Nx (i.next), sB ps26 i.state cs27, sB pr28 i.recs cr29, Nx (i.size)]]) tf162 rfl rfl) (fun w hw => ?_) ?_
 ·obtain ⟨β1, sb, kn, hw1, back⟩ := St.frame_all hw
  exact (same2_ok β1 w hw1 i _ _ _ _ hn (kU kn 3 rfl) (kn _ (Knows.of_res 4 rfl (Sl.mono BsR _ _) fun _ h => recs_sl h)) (hx31 _ (kU kn 7 rfl) (kU kn 8 rfl)).1 (rows_bs (kn _ (Knows.of_res 1 rfl row_mono fun a h => ⟨a, Sub.refl _, h⟩)) (hx31 _ (kU kn 7 rfl) (kU kn 8 rfl)).2)).mono (fun e w' ⟨he, hw'⟩ => ⟨he, st_mask [true, true, true, true, true, true, true, true, true, true, true, true, true, true] rfl (back _ _ hw')⟩)
 refine qg_val (v := .bool false) rfl rfl rfl rfl rfl (e_not (a := true) rfl) ?_
 refine q_val (v := .bool false) rfl rfl rfl (e_pick_f rfl) ?_
 refine q_val (v := .bool false) rfl rfl rfl e_move ?_
 refine qg_val (v := pp S 0) rfl rfl rfl rfl rfl e_move ?_
 refine qg_val (v := pp S 0) rfl rfl rfl rfl rfl (e_nil (a := ⟨S, 0, none⟩) rfl) ?_
 refine qg_val (v := .agg #[sB pH2 k.head cH5, sB pA3 k.a cA6, sB pB4 k.b cB7, Ix (k.power)]) rfl rfl rfl rfl rfl (e_load tf56 rfl (k_pt 9 rfl rfl) rfl) ?_
 refine qg_val (v := .agg #[sB pH14 k.head cH17, sB pA15 k.a cA18, sB pB16 k.b cB19, Ix (k.power)]) rfl rfl rfl rfl rfl (e_load tf56 rfl (k_pt 5 rfl rfl) rfl) ?_
 refine qg_call (v := .bool true) rfl rfl rfl rfl rfl (cl0 (vs := [.agg #[sB pH2 k.head cH5, sB pA3 k.a cA6, sB pB4 k.b cB7, Ix (k.power)], .agg #[sB pH14 k.head cH17, sB pA15 k.a cA18, sB pB16 k.b cB19, Ix (k.power)]]) tf122 rfl rfl) (fun w hw => ?_) ?_
 ·obtain ⟨β1, sb, kn, hw1, back⟩ := St.frame_all hw
  exact (sames_ok β1 w hw1 k _ _ _ (kU kn 10 rfl) (kU kn 11 rfl) (kU kn 12 rfl) _ _ _ (kU kn 6 rfl) (kU kn 7 rfl) (kU kn 8 rfl)).mono (fun e w' ⟨he, hw'⟩ => ⟨he, st_mask [true, true, true, true, true, true, true, true, true, true, true, true, true, true] rfl (back _ _ hw')⟩)
 refine qg_val (v := .bool false) rfl rfl rfl rfl rfl (e_not (a := true) rfl) ?_
 refine q_val (v := .bool false) rfl rfl rfl (e_pick_f rfl) ?_
 refine q_nil ?_
 refine f_then ?_
 refine c_no rfl ?_
 refine csk ?_
 refine c_seq ?_
 refine c_pi [9, 10, 11, 12, 0, 1, 2, 3, 4, 5, 6, 7, 8, 13] 14 rfl (by kernel_rfl) ?_
 refine c_closeStore (S := S) (k := k) (pH := pH2) (pA := pA3) (pB := pB4) (cH := cH5) (cA := cA6) (cB := cB7) (M := (pt b32 (.cells #[Nx (i.epoch), Nx (i.next), sB ps26 i.state cs27, sB pr28 i.recs cr29, Nx (i.size)] 54) :: row (sB pr28 i.recs cr29) 30 1 (i.recs.length) (us30) :: pt b25 (.cells #[Nx (i.epoch), Nx (i.next), sB ps21 i.state cs23, sB pr22 i.recs cr24, Nx (i.size)] 36) :: rB ps21 i.state cs23 :: recsR 30 pr22 cr24 i.recs :: pt b20 (.cells #[sB pH14 k.head cH17, sB pA15 k.a cA18, sB pB16 k.b cB19, Ix (k.power)] 32) :: rB pH14 k.head cH17 :: rB pA15 k.a cA18 :: rB pB16 k.b cB19 :: pt b1 (.cells #[.slice none 0 0, .slice none 0 0, .slice none 0 0, .int .i64 (0), .int .i64 (0), .int .i64 (0), .slice none 0 0, .slice none 0 0, .int .i64 (0), .bool false] 56) :: [])) rfl ?_
 refine c_region ?_
 refine lv e_move ?_
 refine l_call rfl rfl rfl (cl0 (vs := [pp S 0]) tf104 rfl rfl) ?_
 intro w hw
 replace hw := hw.perm (L' := _ :: _ :: _ :: _ :: _ :: _ :: _ :: _ :: _ :: _ :: _ :: []) (by exact (((((((((((perm_front 10 rfl).trans (perm_front 10 rfl)).trans (perm_front 10 rfl)).trans (perm_front 10 rfl)).trans (perm_front 10 rfl)).trans (perm_front 10 rfl)).trans (perm_front 10 rfl)).trans (perm_front 10 rfl)).trans (perm_front 10 rfl)).trans (perm_front 10 rfl)).trans (perm_front 10 rfl)))
 obtain ⟨β1, sb, kn, hw1, back⟩ := St.frame (L := [_]) (M := _ :: _ :: _ :: _ :: _ :: _ :: _ :: _ :: _ :: _ :: []) hw
 refine (open_ok β1 w S k hok hpw i hri hcut hw1).mono ?_
 rintro e w' ⟨J33, rfl, hw'⟩
 refine ⟨_, rfl, _, back _ _ hw', ?_⟩
 clear hw hw1 hw' back kn sb
 refine lv e_move ?_
 refine lv (v := pp J33 0) (e_extract (vs := #[pp J33 0, .int .i64 (0)]) rfl rfl) ?_
 refine lv (v := .int .i64 (0)) (e_extract (vs := #[pp J33 0, .int .i64 (0)]) rfl rfl) ?_
 refine lv e_assign ?_
 refine lv e_assign ?_
 refine lnc ?_
 refine lv (v := .agg #[sB pH14 k.head cH17, sB pA15 k.a cA18, sB pB16 k.b cB19, Ix (k.power)]) (e_load tf56 rfl (k_pt 7 rfl rfl) rfl) ?_
 refine lcf (cl0 (vs := [.agg #[sB pH14 k.head cH17, sB pA15 k.a cA18, sB pB16 k.b cB19, Ix (k.power)]]) tf164 rfl rfl) rfl fun w β1 sb kn hw1 back => (ropen_ok β1 w hw1 k _ _ _ (kU kn 8 rfl) (kU kn 9 rfl) (kU kn 10 rfl) hok hpw i hri hcut).mono ?_
 rintro e w' ⟨pH34, pA35, pB36, cH37, cA38, cB39, ps40, cs41, pr42, cr43, us44, rfl, hx45, hw'⟩
 refine ⟨_, rfl, _, back _ _ hw', ?_⟩
 clear hw1 hw' back kn sb
 refine lv e_move ?_
 refine lv (v := .agg #[sB pH34 ((cutS k i.epoch i.size).head) cH37, sB pA35 ((cutS k i.epoch i.size).a) cA38, sB pB36 ((cutS k i.epoch i.size).b) cB39, Ix ((cutS k i.epoch i.size).power), Nx (i.epoch), Nx (i.next), sB ps40 i.state cs41, sB pr42 i.recs cr43, Nx (i.size), .bool false]) (e_extract (vs := #[.agg #[sB pH34 ((cutS k i.epoch i.size).head) cH37, sB pA35 ((cutS k i.epoch i.size).a) cA38, sB pB36 ((cutS k i.epoch i.size).b) cB39, Ix ((cutS k i.epoch i.size).power), Nx (i.epoch), Nx (i.next), sB ps40 i.state cs41, sB pr42 i.recs cr43, Nx (i.size), .bool false], .int .i64 (0)]) rfl rfl) ?_
 refine lv (v := .int .i64 (0)) (e_extract (vs := #[.agg #[sB pH34 ((cutS k i.epoch i.size).head) cH37, sB pA35 ((cutS k i.epoch i.size).a) cA38, sB pB36 ((cutS k i.epoch i.size).b) cB39, Ix ((cutS k i.epoch i.size).power), Nx (i.epoch), Nx (i.next), sB ps40 i.state cs41, sB pr42 i.recs cr43, Nx (i.size), .bool false], .int .i64 (0)]) rfl rfl) ?_
 refine l_mv rfl rfl rfl (m_alloc tf151) ?_
 rintro _ _ ⟨b46, rfl, rfl⟩
 refine lu (m_store 0 tf154 (cs' := #[sB pH34 ((cutS k i.epoch i.size).head) cH37, sB pA35 ((cutS k i.epoch i.size).a) cA38, sB pB36 ((cutS k i.epoch i.size).b) cB39, Ix ((cutS k i.epoch i.size).power), Nx (i.epoch), Nx (i.next), sB ps40 i.state cs41, sB pr42 i.recs cr43, Nx (i.size), .bool false]) rfl rfl rfl rfl rfl rfl rfl) ?_
 refine lv e_assign ?_
 refine lnf ?_
 refine cs2 ?_
 obtain ⟨K, hK⟩ : ∃ z, z = cutS k i.epoch i.size := ⟨_, rfl⟩
 refine c_re (L' := [pt b46 (.cells #[sB pH34 K.head cH37, sB pA35 K.a cA38, sB pB36 K.b cB39, Ix (K.power), Nx (i.epoch), Nx (i.next), sB ps40 i.state cs41, sB pr42 i.recs cr43, Nx (i.size), .bool false] 56), rB pH34 K.head cH37, rB pA35 K.a cA38, rB pB36 K.b cB39, row (sB pr42 i.recs cr43) 30 1 (i.recs.length) (us44), jourR J33 S i false, storeR S K, pt b32 (.cells #[Nx (i.epoch), Nx (i.next), sB ps26 i.state cs27, sB pr28 i.recs cr29, Nx (i.size)] 54), row (sB pr28 i.recs cr29) 30 1 (i.recs.length) (us30), pt b25 (.cells #[Nx (i.epoch), Nx (i.next), sB ps21 i.state cs23, sB pr22 i.recs cr24, Nx (i.size)] 36), rB ps21 i.state cs23, recsR 30 pr22 cr24 i.recs, pt b20 (.cells #[sB pH14 k.head cH17, sB pA15 k.a cA18, sB pB16 k.b cB19, Ix (k.power)] 32), rB pH14 k.head cH17, rB pA15 k.a cA18, rB pB16 k.b cB19, pt b1 (.cells #[.slice none 0 0, .slice none 0 0, .slice none 0 0, .int .i64 (0), .int .i64 (0), .int .i64 (0), .slice none 0 0, .slice none 0 0, .int .i64 (0), .bool false] 56)]) (by show [pt b46 (.cells #[sB pH34 ((cutS k i.epoch i.size).head) cH37, sB pA35 ((cutS k i.epoch i.size).a) cA38, sB pB36 ((cutS k i.epoch i.size).b) cB39, Ix ((cutS k i.epoch i.size).power), Nx (i.epoch), Nx (i.next), sB ps40 i.state cs41, sB pr42 i.recs cr43, Nx (i.size), .bool false] 56), rB pH34 ((cutS k i.epoch i.size).head) cH37, rB pA35 ((cutS k i.epoch i.size).a) cA38, rB pB36 ((cutS k i.epoch i.size).b) cB39, row (sB pr42 i.recs cr43) 30 1 (i.recs.length) (us44), jourR J33 S i false, storeR S (cutS k i.epoch i.size), pt b32 (.cells #[Nx (i.epoch), Nx (i.next), sB ps26 i.state cs27, sB pr28 i.recs cr29, Nx (i.size)] 54), row (sB pr28 i.recs cr29) 30 1 (i.recs.length) (us30), pt b25 (.cells #[Nx (i.epoch), Nx (i.next), sB ps21 i.state cs23, sB pr22 i.recs cr24, Nx (i.size)] 36), rB ps21 i.state cs23, recsR 30 pr22 cr24 i.recs, pt b20 (.cells #[sB pH14 k.head cH17, sB pA15 k.a cA18, sB pB16 k.b cB19, Ix (k.power)] 32), rB pH14 k.head cH17, rB pA15 k.a cA18, rB pB16 k.b cB19, pt b1 (.cells #[.slice none 0 0, .slice none 0 0, .slice none 0 0, .int .i64 (0), .int .i64 (0), .int .i64 (0), .slice none 0 0, .slice none 0 0, .int .i64 (0), .bool false] 56)] = _; rw [hK]) ?_
 refine c_pi [6, 0, 1, 2, 3, 4, 5, 7, 8, 9, 10, 11, 12, 13, 14, 15, 16] 17 rfl (by kernel_rfl) ?_
 refine c_openStore rfl (fun pH47 pA48 pB49 cH50 cA51 cB52 => ?_)
 refine c_rowcap 1 rfl (fun hcl53 hcm54 => ?_)
 refine c_rowcap 2 rfl (fun hcl55 hcm56 => ?_)
 refine c_rowcap 3 rfl (fun hcl57 hcm58 => ?_)
 refine c_quiet (by kernel_rfl) (by kernel_rfl) ?_
 refine q_val (v := .int .i64 (0)) rfl rfl rfl e_move ?_
 refine q_val (v := .int .i64 (0)) rfl rfl rfl e_move ?_
 refine q_val (v := .bool false) rfl rfl rfl (e_neq (a := (0 : Int)) (b := (0 : Int)) rfl rfl) ?_
 refine q_val (v := .bool false) rfl rfl rfl e_move ?_
 refine qg_val (v := pp J33 0) rfl rfl rfl rfl rfl e_move ?_
 refine qg_val (v := .bool false) rfl rfl rfl rfl rfl (e_eql_pnil (p := some (⟨J33, 0, none⟩)) rfl rfl tf36) ?_
 refine qg_val (v := .int .i64 (0)) rfl rfl rfl rfl rfl e_move ?_
 refine qg_val (v := .bool false) rfl rfl rfl rfl rfl (e_neq (a := (0 : Int)) (b := (0 : Int)) rfl rfl) ?_
 refine qg_val (v := .bool false) rfl rfl rfl rfl rfl (e_neq_b (a := false) (b := false) rfl rfl tf165) ?_
 refine q_val (v := .bool false) rfl rfl rfl (e_pick_f rfl) ?_
 refine q_val (v := .bool false) rfl rfl rfl e_move ?_
 refine qg_val (v := pp S 0) rfl rfl rfl rfl rfl e_move ?_
 refine qg_val (v := pp S 0) rfl rfl rfl rfl rfl (e_nil (a := ⟨S, 0, none⟩) rfl) ?_
 refine qg_val (v := .agg #[sB pH47 K.head cH50, sB pA48 K.a cA51, sB pB49 K.b cB52, Ix (K.power)]) rfl rfl rfl rfl rfl (e_load tf56 rfl (k_pt 0 rfl rfl) rfl) ?_
 refine qg_val (v := pp b46 0) rfl rfl rfl rfl rfl (e_fieldPt rfl tf158) ?_
 refine qg_val (v := .agg #[sB pH34 K.head cH37, sB pA35 K.a cA38, sB pB36 K.b cB39, Ix (K.power)]) rfl rfl rfl rfl rfl (e_load tf56 rfl (k_pt 4 rfl rfl) rfl) ?_
 refine qg_call (v := .bool true) rfl rfl rfl rfl rfl (cl0 (vs := [.agg #[sB pH47 K.head cH50, sB pA48 K.a cA51, sB pB49 K.b cB52, Ix (K.power)], .agg #[sB pH34 K.head cH37, sB pA35 K.a cA38, sB pB36 K.b cB39, Ix (K.power)]]) tf122 rfl rfl) (fun w hw => ?_) ?_
 ·obtain ⟨β1, sb, kn, hw1, back⟩ := St.frame_all hw
  exact (sames_ok β1 w hw1 K _ _ _ (kU kn 1 rfl) (kU kn 2 rfl) (kU kn 3 rfl) _ _ _ (kU kn 5 rfl) (kU kn 6 rfl) (kU kn 7 rfl)).mono (fun e w' ⟨he, hw'⟩ => ⟨he, st_mask [true, true, true, true, true, true, true, true, true, true, true, true, true, true, true, true, true, true, true, true] rfl (back _ _ hw')⟩)
 refine qg_val (v := .bool false) rfl rfl rfl rfl rfl (e_not (a := true) rfl) ?_
 refine q_val (v := .bool false) rfl rfl rfl (e_pick_f rfl) ?_
 refine q_nil ?_
 refine f_then ?_
 refine c_no rfl ?_
 refine csk ?_
 refine c_seq ?_
 refine c_pi [0, 1, 2, 3, 4, 5, 6, 7, 8, 9, 10, 11, 12, 13, 14, 15, 16, 17, 18, 19] 20 rfl (by kernel_rfl) ?_
 refine c_closeStore (S := S) (k := K) (pH := pH47) (pA := pA48) (pB := pB49) (cH := cH50) (cA := cA51) (cB := cB52) (M := (pt b46 (.cells #[sB pH34 K.head cH37, sB pA35 K.a cA38, sB pB36 K.b cB39, Ix (K.power), Nx (i.epoch), Nx (i.next), sB ps40 i.state cs41, sB pr42 i.recs cr43, Nx (i.size), .bool false] 56) :: rB pH34 K.head cH37 :: rB pA35 K.a cA38 :: rB pB36 K.b cB39 :: row (sB pr42 i.recs cr43) 30 1 (i.recs.length) (us44) :: jourR J33 S i false :: pt b32 (.cells #[Nx (i.epoch), Nx (i.next), sB ps26 i.state cs27, sB pr28 i.recs cr29, Nx (i.size)] 54) :: row (sB pr28 i.recs cr29) 30 1 (i.recs.length) (us30) :: pt b25 (.cells #[Nx (i.epoch), Nx (i.next), sB ps21 i.state cs23, sB pr22 i.recs cr24, Nx (i.size)] 36) :: rB ps21 i.state cs23 :: recsR 30 pr22 cr24 i.recs :: pt b20 (.cells #[sB pH14 k.head cH17, sB pA15 k.a cA18, sB pB16 k.b cB19, Ix (k.power)] 32) :: rB pH14 k.head cH17 :: rB pA15 k.a cA18 :: rB pB16 k.b cB19 :: pt b1 (.cells #[.slice none 0 0, .slice none 0 0, .slice none 0 0, .int .i64 (0), .int .i64 (0), .int .i64 (0), .slice none 0 0, .slice none 0 0, .int .i64 (0), .bool false] 56) :: [])) rfl ?_
 refine c_pi [2, 3, 4, 14, 15, 5, 0, 1, 6, 7, 8, 9, 10, 11, 12, 13, 16] 17 rfl (by kernel_rfl) ?_
 refine c_seal (K := [rB pH34 K.head cH37, rB pA35 K.a cA38, rB pB36 K.b cB39, rB pA15 k.a cA18, rB pB16 k.b cB19, row (sB pr42 i.recs cr43) 30 1 (i.recs.length) (us44)]) (F := memR (sB pH34 K.head cH37) (sB pA35 K.a cA38) (sB pB36 K.b cB39) (sB ps40 i.state cs41) (sB pr42 i.recs cr43) K i) rfl (fun _ h => mem_of h hx45) ?_
 refine c_any [⟨[], [], [0], [76], fun f => f 76 = pp J33 0⟩, ⟨[], [], [1], [77], fun f => f 77 = .agg #[sB pH34 K.head cH37, sB pA35 K.a cA38, sB pB36 K.b cB39, Ix (K.power), Nx (i.epoch), Nx (i.next), sB ps40 i.state cs41, sB pr42 i.recs cr43, Nx (i.size), .bool false]⟩, ⟨[], [], [0], [78], fun f => f 78 = pp J33 0⟩, ⟨[2], [2], [], [79], fun f => f 79 = .bool false⟩, ⟨[2, 3], [3], [], [80], fun f => f 80 = .bool false⟩, ⟨[2, 3, 4], [4], [0], [81], fun f => f 81 = pp J33 0⟩, ⟨[2, 3, 4], [4], [1], [82], fun f => f 82 = pp b46 4⟩, ⟨[2, 3, 4, 6], [6, 4], [], [83], fun f => f 83 = .agg #[Nx (i.epoch), Nx (i.next), sB ps40 i.state cs41, sB pr42 i.recs cr43, Nx (i.size)]⟩, ⟨[2, 3, 4, 5, 6, 7], [5, 7, 4], [], [84], fun f => f 84 = .bool true⟩, ⟨[2, 3, 4, 5, 6, 7, 8], [4, 8], [], [85], fun f => f 85 = .bool true⟩, ⟨[0, 2, 3, 4, 5, 6, 7, 8], [0], [], [2], fun f => f 2 = pp J33 0⟩, ⟨[0, 1, 2, 3, 4, 5, 6, 7, 8, 10], [1], [2], [], fun _ => True⟩, ⟨(List.range 12), [9], [], [4], fun f => f 4 = .bool true⟩] [⟨none, none, [8], [], fun _ => memR (sB pH34 K.head cH37) (sB pA35 K.a cA38) (sB pB36 K.b cB39) (sB ps40 i.state cs41) (sB pr42 i.recs cr43) K i⟩, ⟨none, none, [], [], fun _ => storeR S K⟩, ⟨none, none, [1, 7], [], fun _ => pt b46 (.cells #[sB pH34 K.head cH37, sB pA35 K.a cA38, sB pB36 K.b cB39, Ix (K.power), Nx (i.epoch), Nx (i.next), sB ps40 i.state cs41, sB pr42 i.recs cr43, Nx (i.size), .bool false] 56)⟩, ⟨none, none, [8], [], fun _ => jourR J33 S i false⟩, ⟨none, none, [], [], fun _ => pt b32 (.cells #[Nx (i.epoch), Nx (i.next), sB ps26 i.state cs27, sB pr28 i.recs cr29, Nx (i.size)] 54)⟩, ⟨none, none, [], [], fun _ => row (sB pr28 i.recs cr29) 30 1 (i.recs.length) (us30)⟩, ⟨none, none, [], [], fun _ => pt b25 (.cells #[Nx (i.epoch), Nx (i.next), sB ps21 i.state cs23, sB pr22 i.recs cr24, Nx (i.size)] 36)⟩, ⟨none, none, [], [], fun _ => rB ps21 i.state cs23⟩, ⟨none, none, [], [], fun _ => recsR 30 pr22 cr24 i.recs⟩, ⟨none, none, [], [], fun _ => pt b20 (.cells #[sB pH14 k.head cH17, sB pA15 k.a cA18, sB pB16 k.b cB19, Ix (k.power)] 32)⟩, ⟨none, none, [], [], fun _ => rB pH14 k.head cH17⟩, ⟨none, (some 11), [11], [], fun _ => pt b1 (.cells #[.slice none 0 0, .slice none 0 0, .slice none 0 0, .int .i64 (0), .int .i64 (0), .int .i64 (0), .slice none 0 0, .slice none 0 0, .int .i64 (0), .bool false] 56)⟩, ⟨(some 11), none, [], [], fun _ => pt b1 (.cells #[sB pH34 K.head cH37, sB pA35 K.a cA38, sB pB36 K.b cB39, Ix (K.power), Nx (i.epoch), Nx (i.next), sB ps40 i.state cs41, sB pr42 i.recs cr43, Nx (i.size), .bool false] 56)⟩] [(10, pp J33 0), (11, pp b46 0), (3, pp b1 0)] [2] [] (by kernel_rfl) (by kernel_rfl) (by kernel_rfl) (by kernel_rfl) rfl ⟨rfl, rfl, rfl, trivial⟩ ⟨?_, ?_, ?_, ?_, ?_, ?_, ?_, ?_, ?_, ?_, ?_, ?_, ?_, trivial⟩ ?_
 ·rintro f M - ⟨i0, -⟩
  exact ob0 (up_cons (d := 10) rfl i0) rfl e_move (.refl _)
 ·rintro f M - ⟨i0, -⟩
  exact obv (L' := pt b46 (.cells #[sB pH34 K.head cH37, sB pA35 K.a cA38, sB pB36 K.b cB39, Ix (K.power), Nx (i.epoch), Nx (i.next), sB ps40 i.state cs41, sB pr42 i.recs cr43, Nx (i.size), .bool false] 56) :: M) (up_cons (d := 11) rfl i0) rfl (e_load tf154 rfl (k_pt 0 rfl rfl) rfl) (perm_front 0 rfl) (by rfl)
 ·rintro f M - ⟨i0, -⟩
  exact ob0 (up_cons (d := 10) rfl i0) rfl e_move (.refl _)
 ·rintro f M ⟨k0, -⟩ -
  exact ob0 (up_cons (d := 78) rfl k0) rfl (e_eql_pnil (p := some (⟨J33, 0, none⟩)) rfl rfl tf36) (.refl _)
 ·rintro f M ⟨k0, -⟩ -
  exact ob0 (up_cons (d := 79) rfl k0) rfl e_move (.refl _)
 ·rintro f M ⟨k0, -⟩ ⟨i0, -⟩
  exact obg (L' := M) (v := pp J33 0) (up_cons (d := 80) (up_cons (d := 10) rfl i0) k0) e_move rfl rfl rfl rfl (.refl _) (by rfl)
 ·rintro f M ⟨k0, -⟩ ⟨i0, -⟩
  exact obg (L' := M) (v := pp b46 4) (up_cons (d := 80) (up_cons (d := 11) rfl i0) k0) (e_fieldPt rfl tf159) rfl rfl rfl rfl (.refl _) (by rfl)
 ·rintro f M ⟨k0, k1, -⟩ -
  exact obg (L' := pt b46 (.cells #[sB pH34 K.head cH37, sB pA35 K.a cA38, sB pB36 K.b cB39, Ix (K.power), Nx (i.epoch), Nx (i.next), sB ps40 i.state cs41, sB pr42 i.recs cr43, Nx (i.size), .bool false] 56) :: M) (v := .agg #[Nx (i.epoch), Nx (i.next), sB ps40 i.state cs41, sB pr42 i.recs cr43, Nx (i.size)]) (up_cons (d := 80) (up_cons (d := 82) rfl k0) k1) (e_load tf142 rfl (k_pt 0 rfl rfl) rfl) rfl rfl rfl rfl (perm_front 0 rfl) (by rfl)
 ·rintro f M ⟨k0, k1, k2, -⟩ -
  refine ob_start (L' := memR (sB pH34 K.head cH37) (sB pA35 K.a cA38) (sB pB36 K.b cB39) (sB ps40 i.state cs41) (sB pr42 i.recs cr43) K i :: jourR J33 S i false :: M) (by rfl) (up_cons (d := 80) (up_cons (d := 83) (up_cons (d := 81) rfl k0) k1) k2) ?_
  refine g_call rfl rfl rfl rfl rfl (cl0 (vs := [pp J33 0, .agg #[Nx (i.epoch), Nx (i.next), sB ps40 i.state cs41, sB pr42 i.recs cr43, Nx (i.size)]]) tf166 rfl rfl) ?_
  intro w hw
  obtain ⟨β1, sb, kn, hw1, back⟩ := St.frame_all hw
  refine (shows_ok β1 w hw1 J33 S i false (kn _ (Knows.of_res 1 rfl (JF.mono _ _ _ _) fun _ h => jour_jf h)) _ _ hb hn hbs (kn _ (Knows.of_res 0 rfl (Sl.mono U8R _ _) fun _ h => h.2.2.2.1)) (kn _ (Knows.of_res 0 rfl (Sl.mono BsR _ _) fun _ h => h.2.2.2.2))).mono ?_
  rintro e w' ⟨rfl, hw'⟩
  refine ⟨_, rfl, _, back _ _ hw', ?_⟩
  clear hw hw1 hw' back kn sb
  refine l_nil ?_
  exact f_owes_d (up_cons (d := 80) (up_cons (d := 83) (up_cons (d := 81) rfl k0) k1) k2) rfl ((perm_front 1 rfl).trans (perm_front 1 rfl))
 ·rintro f M ⟨k0, k1, -⟩ -
  exact ob0 (up_cons (d := 84) (up_cons (d := 80) rfl k0) k1) rfl (e_pick_f rfl) (.refl _)
 ·rintro f M ⟨k0, -⟩ -
  exact ob0 (up_cons (d := 76) rfl k0) rfl e_assign (.refl _)
 ·rintro f M ⟨k0, -⟩ ⟨i0, -⟩
  refine ob_start (L' := pt b1 (.cells #[.slice none 0 0, .slice none 0 0, .slice none 0 0, .int .i64 (0), .int .i64 (0), .int .i64 (0), .slice none 0 0, .slice none 0 0, .int .i64 (0), .bool false] 56) :: M) (by rfl) (up_cons (d := 77) (up_cons (d := 3) rfl i0) k0) ?_
  refine lu (m_store 0 tf154 (cs' := #[sB pH34 K.head cH37, sB pA35 K.a cA38, sB pB36 K.b cB39, Ix (K.power), Nx (i.epoch), Nx (i.next), sB ps40 i.state cs41, sB pr42 i.recs cr43, Nx (i.size), .bool false]) rfl rfl rfl rfl rfl rfl rfl) ?_
  refine l_nil ?_
  exact f_owes_n (up_cons (d := 77) (up_cons (d := 3) rfl i0) k0) trivial (perm_front 0 rfl)
 ·rintro f M ⟨k0, -⟩ -
  exact ob0 (up_cons (d := 85) rfl k0) rfl e_assign (.refl _)
 rintro fa59 ⟨-, -, -, -, -, -, -, -, -, -, k10, -, k12, -⟩ ⟨j0, -⟩
 refine f_re (L' := [memR (sB pH34 K.head cH37) (sB pA35 K.a cA38) (sB pB36 K.b cB39) (sB ps40 i.state cs41) (sB pr42 i.recs cr43) K i, storeR S K, pt b46 (.cells #[sB pH34 K.head cH37, sB pA35 K.a cA38, sB pB36 K.b cB39, Ix (K.power), Nx (i.epoch), Nx (i.next), sB ps40 i.state cs41, sB pr42 i.recs cr43, Nx (i.size), .bool false] 56), jourR J33 S i false, pt b32 (.cells #[Nx (i.epoch), Nx (i.next), sB ps26 i.state cs27, sB pr28 i.recs cr29, Nx (i.size)] 54), row (sB pr28 i.recs cr29) 30 1 (i.recs.length) (us30), pt b25 (.cells #[Nx (i.epoch), Nx (i.next), sB ps21 i.state cs23, sB pr22 i.recs cr24, Nx (i.size)] 36), rB ps21 i.state cs23, recsR 30 pr22 cr24 i.recs, pt b20 (.cells #[sB pH14 k.head cH17, sB pA15 k.a cA18, sB pB16 k.b cB19, Ix (k.power)] 32), rB pH14 k.head cH17, pt b1 (.cells #[sB pH34 K.head cH37, sB pA35 K.a cA38, sB pB36 K.b cB39, Ix (K.power), Nx (i.epoch), Nx (i.next), sB ps40 i.state cs41, sB pr42 i.recs cr43, Nx (i.size), .bool false] 56)]) (by rfl) ?_
 refine f_rebase (d := 2) k10 ?_
 refine f_rebase (d := 3) j0 ?_
 refine f_rebase (d := 4) k12 ?_
 refine ftr ?_
 refine retG (m := [pp J33 0, .agg #[sB pH34 K.head cH37, sB pA35 K.a cA38, sB pB36 K.b cB39, Ix (K.power), Nx (i.epoch), Nx (i.next), sB ps40 i.state cs41, sB pr42 i.recs cr43, Nx (i.size), .bool false], .bool true]) Try.results22 ⟨rd_tmp (v := pp J33 0) rfl, rd_cell tf154 rfl (k_pt 11 rfl rfl) rfl, rd_tmp (v := .bool true) rfl, trivial⟩ rfl ?_
 intro w hw
 have hw2 := st_mask [true, true, true, false, false, false, false, false, false, false, false, false] rfl (hw.perm (L' := [jourR J33 S i false, storeR S K, memR (sB pH34 K.head cH37) (sB pA35 K.a cA38) (sB pB36 K.b cB39) (sB ps40 i.state cs41) (sB pr42 i.recs cr43) K i, pt b46 (.cells #[sB pH34 K.head cH37, sB pA35 K.a cA38, sB pB36 K.b cB39, Ix (K.power), Nx (i.epoch), Nx (i.next), sB ps40 i.state cs41, sB pr42 i.recs cr43, Nx (i.size), .bool false] 56), pt b32 (.cells #[Nx (i.epoch), Nx (i.next), sB ps26 i.state cs27, sB pr28 i.recs cr29, Nx (i.size)] 54), row (sB pr28 i.recs cr29) 30 1 (i.recs.length) (us30), pt b25 (.cells #[Nx (i.epoch), Nx (i.next), sB ps21 i.state cs23, sB pr22 i.recs cr24, Nx (i.size)] 36), rB ps21 i.state cs23, recsR 30 pr22 cr24 i.recs, pt b20 (.cells #[sB pH14 k.head cH17, sB pA15 k.a cA18, sB pB16 k.b cB19, Ix (k.power)] 32), rB pH14 k.head cH17, pt b1 (.cells #[sB pH34 K.head cH37, sB pA35 K.a cA38, sB pB36 K.b cB39, Ix (K.power), Nx (i.epoch), Nx (i.next), sB ps40 i.state cs41, sB pr42 i.recs cr43, Nx (i.size), .bool false] 56)]) (by exact (perm_ix [3, 1, 0, 2, 4, 5, 6, 7, 8, 9, 10, 11] 12 rfl (by kernel_rfl) (by kernel_rfl))))
 subst hK
 exact ⟨_, _, _, _, _, _, _, _, _, _, _, rfl, hw2⟩
end Go.Proofs
