/-
 JournalWrong, walked. Printed by a program of my own.
-/
import Derived.Test.YtkpdcajddpiknaaJn15
import Derived.Test.YtkpdcajddpiknaaJnFill
import Derived.Test.YtkpdcajddpiknaaSlC
namespace Go.Proofs
open Go Go.Sl Go.Jn
theorem tf119 : cfB Try.prog 67 = true := by kernel_rfl
theorem tf122 : cfB Try.prog 28 = true := by kernel_rfl
set_option maxHeartbeats 4000000 in
theorem sameb_ok (β : Base) (w : World) (hw : St β [] w) (xs ys : Bs) (v u : Value) (hx : Sl U8R β.heap v xs) (hy : Sl U8R β.heap u ys) : Calls Try.prog 67 #[v, u] w fun r w' => r = .returned (.bool (decide (xs = ys))) ∧ St β [] w' := by
 obtain ⟨va, vc, rfl, vl, vm, ve⟩ := hx.get
 obtain ⟨ua, uc, rfl, ul, um, ue⟩ := hy.get
 refine enter (n := 26) Try.func67 rfl Try.ntmps67 rfl ?_ hw
 refine csr ?_
 refine lv (v := .bool false) e_assign ?_
 refine lnf ?_
 refine cs2 ?_
 refine c_region ?_
 refine lv (v := sB va xs (vc)) e_move ?_
 refine lv (v := Nx (xs.length)) (e_len (a := va) (n := xs.length) (c := vc) rfl tf11) ?_
 refine lv (v := sB ua ys (uc)) e_move ?_
 refine lv (v := Nx (ys.length)) (e_len (a := ua) (n := ys.length) (c := uc) rfl tf11) ?_
 refine lv (e_neq (a := ((xs.length : Nat) : Int)) (b := ((ys.length : Nat) : Int)) rfl rfl) ?_
 refine lnf ?_
 refine c_if (((xs.length : Nat) : Int) ≠ ((ys.length : Nat) : Int)) rfl (fun hc1 => ?_) (fun hc1 => ?_)
 ·refine csr ?_
  refine lv (v := .bool false) e_assign ?_
  refine lnf ?_
  refine c_ret ?_
  refine f_then_ret ?_
  refine ret1 Try.results67 (v := .bool false) rfl ?_
  intro w hw
  exact ⟨bool_f (fun h => by subst h; omega), st_mask [] rfl hw⟩
 refine csk ?_
 refine cs2 ?_
 refine c_region ?_
 refine lv (v := .int .i64 (0)) e_assign ?_
 refine lnf ?_
 refine c_block ?_
 refine c_loop (fun (k : Nat) (f : Fm) (L : List Res) => (f 0 = sB va xs (vc) ∧ f 1 = sB ua ys (uc) ∧ f 5 = Nx (k)) ∧ L = [] ∧ (k ≤ xs.length ∧ xs.take k = ys.take k)) (fun (k : Nat) => xs.length - k) 0 ?_ ?_
 ·exact ⟨⟨rfl, rfl, rfl⟩, rfl, ⟨by omega, rfl⟩⟩
 rintro k f0 L0 ⟨⟨hs0, hs1, hs5⟩, hL, ⟨hp1, hp2⟩⟩
 subst L0
 refine rebase (d := 0) hs0 ?_
 refine rebase (d := 1) hs1 ?_
 refine rebase (d := 5) hs5 ?_
 clear hs0 hs1 hs5
 refine cs2 ?_
 refine c_region ?_
 refine lv (v := Nx (k)) e_move ?_
 refine lv (v := sB va xs (vc)) e_move ?_
 refine lv (v := Nx (xs.length)) (e_len (a := va) (n := xs.length) (c := vc) rfl tf11) ?_
 refine lv (e_lss (a := ((k : Nat) : Int)) (b := ((xs.length : Nat) : Int)) rfl rfl) ?_
 refine lnf ?_
 refine c_if (((k : Nat) : Int) < ((xs.length : Nat) : Int)) rfl (fun hc2 => ?_) (fun hc2 => ?_)
 ·refine csk ?_
  refine c_seq ?_
  refine c_block ?_
  refine c_seq ?_
  refine c_quiet (by kernel_rfl) (by kernel_rfl) ?_
  refine q_val (v := sB va xs (vc)) rfl rfl rfl e_move ?_
  refine q_val (v := Nx (k)) rfl rfl rfl e_move ?_
  obtain ⟨x3, hx4⟩ : ∃ x_, (xs)[k]? = some x_ := ⟨_, List.getElem?_eq_getElem (by omega)⟩
  obtain ⟨ha5, cs6, hc7, rfl⟩ := ve _ _ hx4
  refine q_val (v := .pointer (some ((ba va).add (k * 1)))) rfl rfl rfl (e_indexAddr (k := k) (len := xs.length) (cap := vc) (a := va) rfl rfl tf12 (by omega) ha5) ?_
  refine q_val (v := Bx (x3)) rfl rfl rfl (e_load1 tf13 rfl (kB hc7)) ?_
  refine q_val (v := sB ua ys (uc)) rfl rfl rfl e_move ?_
  refine q_val (v := Nx (k)) rfl rfl rfl e_move ?_
  obtain ⟨x9, hx10⟩ : ∃ x_, (ys)[k]? = some x_ := ⟨_, List.getElem?_eq_getElem (by omega)⟩
  obtain ⟨ha11, cs12, hc13, rfl⟩ := ue _ _ hx10
  refine q_val (v := .pointer (some ((ba ua).add (k * 1)))) rfl rfl rfl (e_indexAddr (k := k) (len := ys.length) (cap := uc) (a := ua) rfl rfl tf12 (by omega) ha11) ?_
  refine q_val (v := Bx (x9)) rfl rfl rfl (e_load1 tf13 rfl (kB hc13)) ?_
  refine q_val rfl rfl rfl (e_neq (a := ((x3).toNat : Int)) (b := ((x9).toNat : Int)) rfl rfl) ?_
  refine q_nil ?_
  refine f_then ?_
  refine c_if (((x3).toNat : Int) ≠ ((x9).toNat : Int)) rfl (fun hc15 => ?_) (fun hc15 => ?_)
  ·refine csr ?_
   refine lv (v := .bool false) e_assign ?_
   refine lnf ?_
   refine c_ret ?_
   refine f_block_ret ?_
   refine f_then_ret ?_
   refine f_then_ret ?_
   refine f_block_ret ?_
   refine f_then_ret ?_
   refine ret1 Try.results67 (v := .bool false) rfl ?_
   intro w hw
   exact ⟨bool_f (list_ne hx4 hx10 (fun h => hc15 (by rw [h]))), st_mask [] rfl hw⟩
  refine c_skip ?_
  refine f_block ?_
  refine f_then ?_
  refine c_region ?_
  refine lv (v := Nx (k)) e_move ?_
  refine lv (v := Nx (k + 1)) (e_add (a := ((k : Nat) : Int)) (b := (1 : Int)) rfl rfl (i64n (by omega) (by omega))) ?_
  refine lv (v := Nx (k + 1)) e_assign ?_
  refine l_nil ?_
  exact f_cut ⟨k + 1, ⟨⟨rfl, rfl, rfl⟩, rfl, ⟨by omega, take_next hx4 (by rw [hx10, UInt8.toNat_inj.1 (Int.ofNat.inj (Decidable.not_not.1 hc15))]) hp2⟩⟩, (show xs.length - (k + 1) < xs.length - k from by omega)⟩
 refine c_exit ?_
 refine f_then_exit ?_
 refine f_then_exit ?_
 refine f_exit ?_
 refine ftc ?_
 refine lv (v := .bool true) e_assign ?_
 refine lnf ?_
 refine c_ret ?_
 refine ret1 Try.results67 (v := .bool true) rfl ?_
 intro w hw
 exact ⟨bool_t (take_all hp2 (by omega) (by omega)), st_mask [] rfl hw⟩
theorem sames_ok (β : Base) (w : World) (hw : St β [] w) (k : KS) (vh va vb : Value) (hH : Sl U8R β.heap vh k.head) (hA : Sl U8R β.heap va k.a) (hB : Sl U8R β.heap vb k.b) (uh ua ub : Value) (gH : Sl U8R β.heap uh k.head) (gA : Sl U8R β.heap ua k.a) (gB : Sl U8R β.heap ub k.b) : Calls Try.prog 28 #[.agg #[vh, va, vb, Ix k.power], .agg #[uh, ua, ub, Ix k.power]] w fun r w' => r = .returned (.bool true) ∧ St β [] w' := by
 obtain ⟨vha, vhc, rfl, vhl, vhm, vhe⟩ := hH.get
 obtain ⟨vaa, vac, rfl, val, vam, vae⟩ := hA.get
 obtain ⟨vba, vbc, rfl, vbl, vbm, vbe⟩ := hB.get
 obtain ⟨uha, uhc, rfl, uhl, uhm, uhe⟩ := gH.get
 obtain ⟨uaa, uac, rfl, ual, uam, uae⟩ := gA.get
 obtain ⟨uba, ubc, rfl, ubl, ubm, ube⟩ := gB.get
 refine enter (n := 31) Try.func28 rfl Try.ntmps28 rfl ?_ hw
 refine csr ?_
 refine l_mv rfl rfl rfl (m_box (v := .agg #[sB vha k.head (vhc), sB vaa k.a (vac), sB vba k.b (vbc), Ix (k.power)]) rfl) ?_
 rintro _ _ ⟨b1, rfl, rfl⟩
 refine l_mv rfl rfl rfl (m_box (v := .agg #[sB uha k.head (uhc), sB uaa k.a (uac), sB uba k.b (ubc), Ix (k.power)]) rfl) ?_
 rintro _ _ ⟨b2, rfl, rfl⟩
 refine lv (v := .bool false) e_assign ?_
 refine lnc ?_
 refine lv (v := pp b1 0) (e_fieldPt rfl tf20) ?_
 refine lv (v := sB vha k.head (vhc)) (e_load1 tf21 rfl (k_pt 1 rfl rfl)) ?_
 refine lv (v := pp b2 0) (e_fieldPt rfl tf20) ?_
 refine lv (v := sB uha k.head (uhc)) (e_load1 tf21 rfl (k_pt 0 rfl rfl)) ?_
 refine lcf (cl0 (vs := [sB vha k.head (vhc), sB uha k.head (uhc)]) tf119 rfl rfl) rfl fun w β1 sb kn hw1 back => (sameb_ok β1 w hw1 k.head k.head _ _ (Sl.mono _ _ _ _ _ sb (⟨⟨_, _, rfl, vhl, vhm, vhe⟩⟩ : Sl U8R _ _ k.head)) (Sl.mono _ _ _ _ _ sb (⟨⟨_, _, rfl, uhl, uhm, uhe⟩⟩ : Sl U8R _ _ k.head))).mono ?_
 rintro e w' ⟨rfl, hw'⟩
 refine ⟨_, rfl, _, back _ _ hw', ?_⟩
 clear hw1 hw' back kn sb
 refine lv (v := .bool (decide (k.head = k.head))) e_move ?_
 refine l_split (s := 10) (p := k.head = k.head) rfl (fun h => ?_) (fun h => ?_)
 rotate_left; exact absurd rfl h
 refine g_val (v := pp b1 1) rfl rfl rfl rfl rfl (e_fieldPt rfl tf22) ?_
 refine g_val (v := sB vaa k.a (vac)) rfl rfl rfl rfl rfl (e_load1 tf21 rfl (k_pt 1 rfl rfl)) ?_
 refine g_val (v := pp b2 1) rfl rfl rfl rfl rfl (e_fieldPt rfl tf22) ?_
 refine g_val (v := sB uaa k.a (uac)) rfl rfl rfl rfl rfl (e_load1 tf21 rfl (k_pt 0 rfl rfl)) ?_
 refine g_call rfl rfl rfl rfl rfl (cl0 (vs := [sB vaa k.a (vac), sB uaa k.a (uac)]) tf119 rfl rfl) ?_
 intro w hw
 obtain ⟨β1, sb, kn, hw1, back⟩ := St.frame_all hw
 refine (sameb_ok β1 w hw1 k.a k.a _ _ (Sl.mono _ _ _ _ _ sb (⟨⟨_, _, rfl, val, vam, vae⟩⟩ : Sl U8R _ _ k.a)) (Sl.mono _ _ _ _ _ sb (⟨⟨_, _, rfl, ual, uam, uae⟩⟩ : Sl U8R _ _ k.a))).mono ?_
 rintro e w' ⟨rfl, hw'⟩
 refine ⟨_, rfl, _, back _ _ hw', ?_⟩
 clear hw hw1 hw' back kn sb
 refine lv (v := .bool (decide (k.a = k.a))) (e_pick_t rfl) ?_
 refine lv (v := .bool (decide (k.a = k.a))) e_move ?_
 refine l_split (s := 17) (p := k.a = k.a) rfl (fun h => ?_) (fun h => ?_)
 rotate_left; exact absurd rfl h
 refine g_val (v := pp b1 2) rfl rfl rfl rfl rfl (e_fieldPt rfl tf23) ?_
 refine g_val (v := sB vba k.b (vbc)) rfl rfl rfl rfl rfl (e_load1 tf21 rfl (k_pt 1 rfl rfl)) ?_
 refine g_val (v := pp b2 2) rfl rfl rfl rfl rfl (e_fieldPt rfl tf23) ?_
 refine g_val (v := sB uba k.b (ubc)) rfl rfl rfl rfl rfl (e_load1 tf21 rfl (k_pt 0 rfl rfl)) ?_
 refine g_call rfl rfl rfl rfl rfl (cl0 (vs := [sB vba k.b (vbc), sB uba k.b (ubc)]) tf119 rfl rfl) ?_
 intro w hw
 obtain ⟨β1, sb, kn, hw1, back⟩ := St.frame_all hw
 refine (sameb_ok β1 w hw1 k.b k.b _ _ (Sl.mono _ _ _ _ _ sb (⟨⟨_, _, rfl, vbl, vbm, vbe⟩⟩ : Sl U8R _ _ k.b)) (Sl.mono _ _ _ _ _ sb (⟨⟨_, _, rfl, ubl, ubm, ube⟩⟩ : Sl U8R _ _ k.b))).mono ?_
 rintro e w' ⟨rfl, hw'⟩
 refine ⟨_, rfl, _, back _ _ hw', ?_⟩
 clear hw hw1 hw' back kn sb
 refine lv (v := .bool (decide (k.b = k.b))) (e_pick_t rfl) ?_
 refine lv (v := .bool (decide (k.b = k.b))) e_move ?_
 refine l_split (s := 24) (p := k.b = k.b) rfl (fun h => ?_) (fun h => ?_)
 rotate_left; exact absurd rfl h
 refine g_val (v := pp b1 3) rfl rfl rfl rfl rfl (e_fieldPt rfl tf24) ?_
 refine g_val (v := Ix (k.power)) rfl rfl rfl rfl rfl (e_load1 tf25 rfl (k_pt 1 rfl rfl)) ?_
 refine g_val (v := pp b2 3) rfl rfl rfl rfl rfl (e_fieldPt rfl tf24) ?_
 refine g_val (v := Ix (k.power)) rfl rfl rfl rfl rfl (e_load1 tf25 rfl (k_pt 0 rfl rfl)) ?_
 refine g_val rfl rfl rfl rfl rfl (e_eql (a := (k.power)) (b := (k.power)) rfl rfl) ?_
 refine lv (v := .bool (decide ((k.power) = (k.power)))) (e_pick_t rfl) ?_
 refine lv (v := .bool (decide ((k.power) = (k.power)))) e_assign ?_
 refine lnf ?_
 refine c_ret ?_
 refine ret1 Try.results28 (v := .bool (decide ((k.power) = (k.power)))) rfl ?_
 intro w hw
 exact ⟨by first | rfl | simp, st_mask [false, false] rfl hw⟩
end Go.Proofs
