/-
 Comparing, and what of a row is deleted: walked. Printed by a program of my own.
-/
import Derived.Test.YtoijanalppaplaaGreatBr1
import Derived.Test.YtoijanalppaplaaGreatBrPairs
import Derived.Test.YtoijanalppaplaaGreatSlFn
import Derived.Test.YtoijanalppaplaaGreatSlC
namespace Go.Proofs
open Go Go.Sl Go.Brd
abbrev IntF : Fl Int := ⟨1, fun z => [Ix z], fun _ => rfl, fun _ => rfl, by decide⟩
/-- order's answer -/
def ordP (x y : KP) : Int := orI [cmpI x.a y.a, cmpI x.b y.b]
theorem idxI_nat {α : Type} (p : α → Bool) (xs : List α) : idxI p xs = -1 ∨ ∃ k : Nat, idxI p xs = k := by
 unfold idxI
 cases xs.findIdx? p with
 | none => exact .inl rfl
 | some k => exact .inr ⟨k, rfl⟩
theorem ub14 : cfB Tryz.prog 113 = true := by kernel_rfl
theorem ub15 : Tryz.prog.underlying 28 = some (.slice 3) := by kernel_rfl
theorem ub16 : slB Tryz.prog 28 3 1 = true := by kernel_rfl
theorem ub17 : fldB Tryz.prog 118 1 1 4 true = true := by kernel_rfl
theorem ub18 : cfB Tryz.prog 75 = true := by kernel_rfl
theorem ub19 : fldB Tryz.prog 72 0 0 1 false = true := by kernel_rfl
theorem ub20 : fldB Tryz.prog 72 1 1 1 false = true := by kernel_rfl
theorem ub21 : (Tryz.prog.info? 3).bind (·.zero) = some (.int .i64 (0)) := by kernel_rfl
theorem ub22 : cfB Tryz.prog 112 = true := by kernel_rfl
theorem ub23 : Tryz.prog.underlying 116 = some (.slice 118) := by kernel_rfl
theorem ub24 : slB Tryz.prog 116 118 5 = true := by kernel_rfl
theorem ub25 : tyB Tryz.prog 118 true 5 = true := by kernel_rfl
theorem ub26 : cfB Tryz.prog 150 = true := by kernel_rfl
theorem ub27 : (Tryz.prog.info? 118).bind (·.zero) = some (.agg #[.int .i64 (0), .int .i64 (0), .int .i64 (0), .int .i64 (0), .int .i64 (0)]) := by kernel_rfl
theorem isnan_ok (β : Base) (w : World) (hw : St β [] w) (x : Int) : Calls Tryz.prog 113 #[Ix x] w fun r w' => r = .returned (.bool false) ∧ St β [] w' := by
 refine enter (n := 6) Tryz.func113 rfl Tryz.ntmps113 rfl ?_ hw
 refine csr ?_
 refine l_val (v := .bool false) rfl rfl rfl e_assign ?_
 refine lnc ?_
 refine lv (v := Ix (x)) e_move ?_
 refine lv (v := Ix (x)) e_move ?_
 refine lv (e_neq (a := (x)) (b := (x)) rfl rfl) ?_
 refine lv (v := .bool (decide ((x) ≠ (x)))) e_assign ?_
 refine lnf ?_
 refine c_ret ?_
 refine ret1 Tryz.results113 (v := .bool (decide ((x) ≠ (x)))) rfl ?_
 intro w hw
 exact ⟨congrArg Ending.returned (congrArg Value.bool (decide_eq_false (by simp))), st_mask [] rfl hw⟩
set_option maxHeartbeats 4000000 in
theorem cmp_ok (β : Base) (w : World) (hw : St β [] w) (x y : Int) : Calls Tryz.prog 75 #[Ix x, Ix y] w fun r w' => r = .returned (Ix (cmpI x y)) ∧ St β [] w' := by
 refine enter (n := 20) Tryz.func75 rfl Tryz.ntmps75 rfl ?_ hw
 refine csr ?_
 refine l_val (v := .int .i64 (0)) rfl rfl rfl e_assign ?_
 refine lnc ?_
 refine lv (v := Ix (x)) e_move ?_
 refine lcf (cl0 (vs := [Ix (x)]) ub14 rfl rfl) rfl fun w β1 sb kn hw1 back => (isnan_ok β1 w hw1 (x)).mono ?_
 rintro e w' ⟨rfl, hw'⟩
 refine ⟨_, rfl, _, back _ _ hw', ?_⟩
 clear hw1 hw' back kn sb
 refine lv (v := .bool false) e_assign ?_
 refine lnc ?_
 refine lv (v := Ix (y)) e_move ?_
 refine lcf (cl0 (vs := [Ix (y)]) ub14 rfl rfl) rfl fun w β1 sb kn hw1 back => (isnan_ok β1 w hw1 (y)).mono ?_
 rintro e w' ⟨rfl, hw'⟩
 refine ⟨_, rfl, _, back _ _ hw', ?_⟩
 clear hw1 hw' back kn sb
 refine lv (v := .bool false) e_assign ?_
 refine lnf ?_
 refine cs2 ?_
 refine c_region ?_
 refine lv (v := .bool false) e_move ?_
 refine lnf ?_
 refine c_no rfl ?_
 refine csk ?_
 refine cs2 ?_
 refine c_region ?_
 refine lv (v := .bool false) e_move ?_
 refine lnf ?_
 refine c_no rfl ?_
 refine csk ?_
 refine cs2 ?_
 refine c_region ?_
 refine lv (v := Ix (x)) e_move ?_
 refine lv (v := Ix (y)) e_move ?_
 refine lv (e_lss (a := (x)) (b := (y)) rfl rfl) ?_
 refine lnf ?_
 refine c_if ((x) < (y)) rfl (fun hc1 => ?_) (fun hc1 => ?_)
 ·refine csr ?_
  refine l_val (v := .int .i64 (-1)) rfl rfl rfl e_assign ?_
  refine lnf ?_
  refine c_ret ?_
  refine f_then_ret ?_
  refine ret1 Tryz.results75 (v := .int .i64 (-1)) rfl ?_
  intro w hw
  exact ⟨congrArg Ending.returned (congrArg (Value.int .i64) (show (-1 : Int) = cmpI x y by unfold cmpI; split <;> (try split) <;> omega)), st_mask [] rfl hw⟩
 refine csk ?_
 refine cs2 ?_
 refine c_region ?_
 refine lv (v := Ix (x)) e_move ?_
 refine lv (v := Ix (y)) e_move ?_
 refine lv (e_gtr (a := (x)) (b := (y)) rfl rfl) ?_
 refine lnf ?_
 refine c_if ((y) < (x)) rfl (fun hc2 => ?_) (fun hc2 => ?_)
 ·refine csr ?_
  refine l_val (v := .int .i64 (1)) rfl rfl rfl e_assign ?_
  refine lnf ?_
  refine c_ret ?_
  refine f_then_ret ?_
  refine ret1 Tryz.results75 (v := .int .i64 (1)) rfl ?_
  intro w hw
  exact ⟨congrArg Ending.returned (congrArg (Value.int .i64) (show (1 : Int) = cmpI x y by unfold cmpI; split <;> (try split) <;> omega)), st_mask [] rfl hw⟩
 refine csk ?_
 refine csr ?_
 refine l_val (v := .int .i64 (0)) rfl rfl rfl e_assign ?_
 refine lnf ?_
 refine c_ret ?_
 refine ret1 Tryz.results75 (v := .int .i64 (0)) rfl ?_
 intro w hw
 exact ⟨congrArg Ending.returned (congrArg (Value.int .i64) (show (0 : Int) = cmpI x y by unfold cmpI; split <;> (try split) <;> omega)), st_mask [] rfl hw⟩
set_option maxHeartbeats 4000000 in
theorem or_ok (β : Base) (w : World) (hw : St β [] w) (v : Value) (xs : List Int) (hs : Sl IntF.R β.heap v xs) : Calls Tryz.prog 112 #[v] w fun r w' => r = .returned (Ix (orI xs)) ∧ St β [] w' := by
 obtain ⟨va, vc, rfl, vl, vm, ve⟩ := hs.get
 refine enter (n := 18) Tryz.func112 rfl Tryz.ntmps112 rfl ?_ hw
 refine csr ?_
 refine l_val (v := .int .i64 (0)) rfl rfl rfl e_assign ?_
 refine lnc ?_
 refine lv (v := .int .i64 (0)) e_assign ?_
 refine lnf ?_
 refine cs2 ?_
 refine c_region ?_
 refine lv (v := sB va xs (vc)) e_move ?_
 refine lv (v := Nx (xs.length)) (e_len (a := va) (n := xs.length) (c := vc) rfl ub15) ?_
 refine lv (v := .int .i64 (0)) e_move ?_
 refine lnf ?_
 refine c_block ?_
 refine c_loop (fun (k : Nat) (f : Fm) (L : List Res) => (f 3 = .int .i64 (0) ∧ f 6 = sB va xs (vc) ∧ f 7 = Nx (xs.length) ∧ f 8 = Nx (k)) ∧ L = [] ∧ (k ≤ xs.length ∧ ∀ y ∈ xs.take k, y = 0)) (fun (k : Nat) => xs.length - k) 0 ?_ ?_
 ·exact ⟨⟨rfl, rfl, rfl, rfl⟩, rfl, ⟨by omega, fun y hy => by simp at hy⟩⟩
 rintro k f0 L0 ⟨⟨hs3, hs6, hs7, hs8⟩, hL, ⟨hk, hp⟩⟩
 subst L0
 refine rebase (d := 3) hs3 ?_
 refine rebase (d := 6) hs6 ?_
 refine rebase (d := 7) hs7 ?_
 refine rebase (d := 8) hs8 ?_
 clear hs3 hs6 hs7 hs8
 refine csr ?_
 refine lv (e_lss (a := ((k : Nat) : Int)) (b := ((xs.length : Nat) : Int)) rfl rfl) ?_
 refine lnf ?_
 refine c_seq ?_
 refine c_if (((k : Nat) : Int) < ((xs.length : Nat) : Int)) rfl (fun hc1 => ?_) (fun hc1 => ?_)
 ·refine csk ?_
  refine c_seq ?_
  refine c_block ?_
  refine csr ?_
  obtain ⟨x2, hx2⟩ : ∃ x_, (xs)[k]? = some x_ := ⟨_, List.getElem?_eq_getElem (by omega)⟩
  obtain ⟨ha4, cs5, hc6, rfl⟩ := ve _ _ hx2
  refine lv (v := .pointer (some ((ba va).add (k * 1)))) (e_indexAddr (k := k) (len := xs.length) (cap := vc) (a := va) rfl rfl ub16 (by omega) ha4) ?_
  refine lv (v := Ix (x2)) (e_load1 ub2 rfl (kB hc6)) ?_
  refine lv (v := Ix (x2)) e_assign ?_
  refine lnc ?_
  refine lv (v := Ix (x2)) e_move ?_
  refine lv (v := .int .i64 (0)) e_move ?_
  refine lv (e_neq (a := (x2)) (b := (0 : Int)) rfl rfl) ?_
  refine lnf ?_
  refine c_if ((x2) ≠ (0 : Int)) rfl (fun hc8 => ?_) (fun hc8 => ?_)
  ·refine csr ?_
   refine lv (v := Ix (x2)) e_move ?_
   refine lv (v := Ix (x2)) e_assign ?_
   refine lnf ?_
   refine c_ret ?_
   refine f_block_ret ?_
   refine f_then_ret ?_
   refine f_then_ret ?_
   refine f_block_ret ?_
   refine f_then_ret ?_
   refine ret1 Tryz.results112 (v := Ix (x2)) rfl ?_
   intro w hw
   exact ⟨congrArg (fun z : Int => Ending.returned (Ix z)) (orI_found hx2 hc8 hp).symm, st_mask [] rfl hw⟩
  refine c_skip ?_
  refine f_block ?_
  refine f_then ?_
  refine c_region ?_
  refine lv (v := Nx (k + 1)) (e_add (a := ((k : Nat) : Int)) (b := (1 : Int)) rfl rfl (i64n (by omega) (by omega))) ?_
  refine lv (v := Nx (k + 1)) e_move ?_
  refine l_nil ?_
  exact f_cut ⟨k + 1, ⟨⟨rfl, rfl, rfl, rfl⟩, rfl, ⟨by omega, orI_next hx2 (Decidable.not_not.1 hc8) hp⟩⟩, (show xs.length - (k + 1) < xs.length - k from by omega)⟩
 refine c_exit ?_
 refine f_then_exit ?_
 refine f_then_exit ?_
 refine f_exit ?_
 refine ftc ?_
 refine lv (v := .int .i64 (0)) e_move ?_
 refine lv (v := .int .i64 (0)) e_assign ?_
 refine lnf ?_
 refine c_ret ?_
 refine ret1 Tryz.results112 (v := .int .i64 (0)) rfl ?_
 intro w hw
 exact ⟨congrArg (fun z : Int => Ending.returned (Ix z)) (orI_none (by omega) hp).symm, st_mask [] rfl hw⟩
theorem cmpThing_ok (β : Base) (w : World) (hw : St β [] w) (x y : KT) : Calls Tryz.prog 109 #[.agg #[Ix (x.id), Ix (x.ar.lx), Ix (x.ar.ly), Ix (x.ar.hx), Ix (x.ar.hy)], .agg #[Ix (y.id), Ix (y.ar.lx), Ix (y.ar.ly), Ix (y.ar.hx), Ix (y.ar.hy)]] w fun r w' => r = .returned (Ix (cmpI x.ar.lx y.ar.lx)) ∧ St β [] w' := by
 refine enter (n := 14) Tryz.func109 rfl Tryz.ntmps109 rfl ?_ hw
 refine csr ?_
 refine l_mv rfl rfl rfl (m_box (v := .agg #[Ix (x.id), Ix (x.ar.lx), Ix (x.ar.ly), Ix (x.ar.hx), Ix (x.ar.hy)]) rfl) ?_
 rintro _ _ ⟨b1, rfl, rfl⟩
 refine l_mv rfl rfl rfl (m_box (v := .agg #[Ix (y.id), Ix (y.ar.lx), Ix (y.ar.ly), Ix (y.ar.hx), Ix (y.ar.hy)]) rfl) ?_
 rintro _ _ ⟨b2, rfl, rfl⟩
 refine lv (v := .int .i64 (0)) e_assign ?_
 refine lnc ?_
 refine lv (v := pp b1 1) (e_fieldPt rfl ub17) ?_
 refine lv (v := pp b1 1) (e_fieldPt rfl ub0) ?_
 refine lv (v := pp b1 1) (e_fieldPt rfl ub1) ?_
 refine lv (v := Ix (x.ar.lx)) (e_load1 ub2 rfl (k_pt 1 rfl rfl)) ?_
 refine lv (v := pp b2 1) (e_fieldPt rfl ub17) ?_
 refine lv (v := pp b2 1) (e_fieldPt rfl ub0) ?_
 refine lv (v := pp b2 1) (e_fieldPt rfl ub1) ?_
 refine lv (v := Ix (y.ar.lx)) (e_load1 ub2 rfl (k_pt 0 rfl rfl)) ?_
 refine lcf (cl0 (vs := [Ix (x.ar.lx), Ix (y.ar.lx)]) ub18 rfl rfl) rfl fun w β1 sb kn hw1 back => (cmp_ok β1 w hw1 (x.ar.lx) (y.ar.lx)).mono ?_
 rintro e w' ⟨rfl, hw'⟩
 refine ⟨_, rfl, _, back _ _ hw', ?_⟩
 clear hw1 hw' back kn sb
 refine lv (v := Ix (cmpI (x.ar.lx) (y.ar.lx))) e_assign ?_
 refine lnf ?_
 refine c_ret ?_
 refine ret1 Tryz.results109 (v := Ix (cmpI (x.ar.lx) (y.ar.lx))) rfl ?_
 intro w hw
 exact ⟨rfl, st_mask [false, false] rfl hw⟩
set_option maxHeartbeats 4000000 in
theorem order_ok (β : Base) (w : World) (hw : St β [] w) (x y : KP) : Calls Tryz.prog 72 #[.agg #[Ix (x.a), Ix (x.b)], .agg #[Ix (y.a), Ix (y.b)]] w fun r w' => r = .returned (Ix (ordP x y)) ∧ St β [] w' := by
 refine enter (n := 17) Tryz.func72 rfl Tryz.ntmps72 rfl ?_ hw
 refine csr ?_
 refine l_mv rfl rfl rfl (m_box (v := .agg #[Ix (x.a), Ix (x.b)]) rfl) ?_
 rintro _ _ ⟨b1, rfl, rfl⟩
 refine l_mv rfl rfl rfl (m_box (v := .agg #[Ix (y.a), Ix (y.b)]) rfl) ?_
 rintro _ _ ⟨b2, rfl, rfl⟩
 refine lv (v := .int .i64 (0)) e_assign ?_
 refine lnf ?_
 refine c_seq ?_
 refine c_any [⟨[], [], [0], [5], fun f => f 5 = pp b1 0⟩, ⟨[0], [0], [], [6], fun f => f 6 = Ix (x.a)⟩, ⟨[], [], [1], [7], fun f => f 7 = pp b2 0⟩, ⟨[2], [2], [], [8], fun f => f 8 = Ix (y.a)⟩, ⟨[0, 1, 2, 3], [1, 3], [], [9], fun f => f 9 = Ix (cmpI (x.a) (y.a))⟩, ⟨[], [], [0], [10], fun f => f 10 = pp b1 1⟩, ⟨[5], [5], [], [11], fun f => f 11 = Ix (x.b)⟩, ⟨[], [], [1], [12], fun f => f 12 = pp b2 1⟩, ⟨[7], [7], [], [13], fun f => f 13 = Ix (y.b)⟩, ⟨(List.range 9), [6, 8], [], [14], fun f => f 14 = Ix (cmpI (x.b) (y.b))⟩, ⟨(List.range 10), [4, 9], [], [15], fun f => f 15 = .slice (some ⟨(blk (f 15)), 0, none⟩) 2 2⟩, ⟨(List.range 11), [10], [], [16], fun f => f 16 = Ix (orI [cmpI (x.a) (y.a), cmpI (x.b) (y.b)])⟩, ⟨(List.range 12), [11], [], [4], fun f => f 4 = Ix (orI [cmpI (x.a) (y.a), cmpI (x.b) (y.b)])⟩] [⟨none, none, [3, 8], [], fun _ => pt b2 (.cells #[Ix (y.a), Ix (y.b)] 72)⟩, ⟨none, none, [1, 6], [], fun _ => pt b1 (.cells #[Ix (x.a), Ix (x.b)] 72)⟩, ⟨(some 10), none, [11], [15], fun f => pt (blk (f 15)) (.cells #[Ix (cmpI (x.a) (y.a)), Ix (cmpI (x.b) (y.b))] 3)⟩] [(2, pp b1 0), (3, pp b2 0)] [] [] (by kernel_rfl) (by kernel_rfl) (by kernel_rfl) (by kernel_rfl) rfl ⟨rfl, rfl, trivial⟩ ⟨?_, ?_, ?_, ?_, ?_, ?_, ?_, ?_, ?_, ?_, ?_, ?_, ?_, trivial⟩ ?_
 ·rintro f M - ⟨i0, -⟩
  exact ob0 (up_cons (d := 2) rfl i0) rfl (e_fieldPt rfl ub19) (.refl _)
 ·rintro f M ⟨k0, -⟩ -
  exact obv (L' := pt b1 (.cells #[Ix (x.a), Ix (x.b)] 72) :: M) (up_cons (d := 5) rfl k0) rfl (e_load1 ub2 rfl (k_pt 0 rfl rfl)) (perm_front 0 rfl) (by rfl)
 ·rintro f M - ⟨i0, -⟩
  exact ob0 (up_cons (d := 3) rfl i0) rfl (e_fieldPt rfl ub19) (.refl _)
 ·rintro f M ⟨k0, -⟩ -
  exact obv (L' := pt b2 (.cells #[Ix (y.a), Ix (y.b)] 72) :: M) (up_cons (d := 7) rfl k0) rfl (e_load1 ub2 rfl (k_pt 0 rfl rfl)) (perm_front 0 rfl) (by rfl)
 ·rintro f M ⟨k0, k1, -⟩ -
  refine ob_start (L' := M) (by rfl) (up_cons (d := 8) (up_cons (d := 6) rfl k0) k1) ?_
  refine lcf (cl0 (vs := [Ix (x.a), Ix (y.a)]) ub18 rfl rfl) rfl fun w β1 sb kn hw1 back => (cmp_ok β1 w hw1 (x.a) (y.a)).mono ?_
  rintro e w' ⟨rfl, hw'⟩
  refine ⟨_, rfl, _, back _ _ hw', ?_⟩
  clear hw1 hw' back kn sb
  refine l_nil ?_
  exact f_owes_d (up_cons (d := 8) (up_cons (d := 6) rfl k0) k1) rfl (List.Perm.refl _)
 ·rintro f M - ⟨i0, -⟩
  exact ob0 (up_cons (d := 2) rfl i0) rfl (e_fieldPt rfl ub20) (.refl _)
 ·rintro f M ⟨k0, -⟩ -
  exact obv (L' := pt b1 (.cells #[Ix (x.a), Ix (x.b)] 72) :: M) (up_cons (d := 10) rfl k0) rfl (e_load1 ub2 rfl (k_pt 0 rfl rfl)) (perm_front 0 rfl) (by rfl)
 ·rintro f M - ⟨i0, -⟩
  exact ob0 (up_cons (d := 3) rfl i0) rfl (e_fieldPt rfl ub20) (.refl _)
 ·rintro f M ⟨k0, -⟩ -
  exact obv (L' := pt b2 (.cells #[Ix (y.a), Ix (y.b)] 72) :: M) (up_cons (d := 12) rfl k0) rfl (e_load1 ub2 rfl (k_pt 0 rfl rfl)) (perm_front 0 rfl) (by rfl)
 ·rintro f M ⟨k0, k1, -⟩ -
  refine ob_start (L' := M) (by rfl) (up_cons (d := 13) (up_cons (d := 11) rfl k0) k1) ?_
  refine lcf (cl0 (vs := [Ix (x.b), Ix (y.b)]) ub18 rfl rfl) rfl fun w β1 sb kn hw1 back => (cmp_ok β1 w hw1 (x.b) (y.b)).mono ?_
  rintro e w' ⟨rfl, hw'⟩
  refine ⟨_, rfl, _, back _ _ hw', ?_⟩
  clear hw1 hw' back kn sb
  refine l_nil ?_
  exact f_owes_d (up_cons (d := 13) (up_cons (d := 11) rfl k0) k1) rfl (List.Perm.refl _)
 ·rintro f M ⟨k0, k1, -⟩ -
  refine ob_start (L' := M) (by rfl) (up_cons (d := 14) (up_cons (d := 9) rfl k0) k1) ?_
  refine l_mv rfl rfl rfl (m_slices ub16 ub21 (cells := #[Ix (cmpI (x.a) (y.a)), Ix (cmpI (x.b) (y.b))]) rfl rfl rfl rfl) ?_
  rintro _ _ ⟨b4, rfl, rfl⟩
  refine l_nil ?_
  exact f_owes_d (up_cons (d := 14) (up_cons (d := 9) rfl k0) k1) rfl (perm_front 0 rfl)
 ·rintro f M ⟨k0, -⟩ -
  have hs15 : f 15 = .slice (some ⟨(blk (f 15)), 0, none⟩) 2 2 := k0
  refine ob_start (L' := pt (blk (f 15)) (.cells #[Ix (cmpI (x.a) (y.a)), Ix (cmpI (x.b) (y.b))] 3) :: M) (by rfl) (up_cons rfl hs15) ?_
  refine lcf (cl0 (vs := [.slice (some ⟨(blk (f 15)), 0, none⟩) 2 2]) ub22 rfl rfl) rfl fun w β1 sb kn hw1 back => (or_ok β1 w hw1 _ [cmpI (x.a) (y.a), cmpI (x.b) (y.b)] (kn _ (k_ptFls (F := IntF) 0 (m := 2) (xs := [cmpI (x.a) (y.a), cmpI (x.b) (y.b)]) rfl rfl rfl (by simp)))).mono ?_
  rintro e w' ⟨rfl, hw'⟩
  refine ⟨_, rfl, _, back _ _ hw', ?_⟩
  clear hw1 hw' back kn sb
  refine l_nil ?_
  exact f_owes_d (up_cons rfl hs15) rfl (perm_front 0 rfl)
 ·rintro f M ⟨k0, -⟩ -
  exact ob0 (up_cons (d := 16) rfl k0) rfl e_assign (.refl _)
 rintro fa5 ⟨-, -, -, -, -, -, -, -, -, -, -, -, k12, -⟩ -
 refine f_re (L' := [pt b2 (.cells #[Ix (y.a), Ix (y.b)] 72), pt b1 (.cells #[Ix (x.a), Ix (x.b)] 72), pt (blk (fa5 15)) (.cells #[Ix (cmpI (x.a) (y.a)), Ix (cmpI (x.b) (y.b))] 3)]) (by rfl) ?_
 refine f_rebase (d := 4) k12 ?_
 refine ftr ?_
 refine ret1 Tryz.results72 (v := Ix (orI [cmpI (x.a) (y.a), cmpI (x.b) (y.b)])) rfl ?_
 intro w hw
 exact ⟨rfl, st_mask [false, false, false] rfl hw⟩
theorem left_fn (β : Base) (c : Nat) (x : KT) (hc : Cs β.heap ⟨c, 0, none⟩ [Ix (x.id), Ix (x.ar.lx), Ix (x.ar.ly), Ix (x.ar.hx), Ix (x.ar.hy)]) : FnV Tryz.prog β (.func (.func 111) #[] #[pp c 0]) (fun z : KT => [.agg #[Ix (z.id), Ix (z.ar.lx), Ix (z.ar.ly), Ix (z.ar.hx), Ix (z.ar.hy)]]) (fun _ => True) (fun z => .bool (decide (z.ar.hx < x.ar.lx))) := by
 refine ⟨111, [], [.pointer (some (⟨c, 0, none⟩))], rfl, by kernel_rfl, fun β₁ sb0 z_ hz_ w hw => ?_⟩
 have hc1 := Cs.mono _ _ _ _ sb0 hc
 obtain ⟨y, hy⟩ : ∃ y, y = z_ := ⟨_, rfl⟩
 subst hy
 refine enter (n := 13) Tryz.func111 rfl Tryz.ntmps111 rfl ?_ hw
 refine csr ?_
 refine l_mv rfl rfl rfl (m_box (v := .agg #[Ix (y.id), Ix (y.ar.lx), Ix (y.ar.ly), Ix (y.ar.hx), Ix (y.ar.hy)]) rfl) ?_
 rintro _ _ ⟨b1, rfl, rfl⟩
 refine lv (v := .bool false) e_assign ?_
 refine lnc ?_
 refine lv (v := pp b1 1) (e_fieldPt rfl ub17) ?_
 refine lv (v := pp b1 3) (e_fieldPt rfl ub3) ?_
 refine lv (v := pp b1 3) (e_fieldPt rfl ub1) ?_
 refine lv (v := Ix (y.ar.hx)) (e_load1 ub2 rfl (k_pt 0 rfl rfl)) ?_
 refine lv (v := .pointer (some ((⟨c, 0, none⟩ : Addr).add 1))) (e_fieldAddr (a := ⟨c, 0, none⟩) rfl ub17) ?_
 refine lv (v := .pointer (some (((⟨c, 0, none⟩ : Addr).add 1 : Addr).add 0))) (e_fieldAddr (a := (⟨c, 0, none⟩ : Addr).add 1) rfl ub0) ?_
 refine lv (v := .pointer (some ((((⟨c, 0, none⟩ : Addr).add 1 : Addr).add 0 : Addr).add 0))) (e_fieldAddr (a := ((⟨c, 0, none⟩ : Addr).add 1 : Addr).add 0) rfl ub1) ?_
 refine lv (v := Ix (x.ar.lx)) (e_load1 ub2 rfl (Knows.imp (Knows.imp (Knows.imp (kB hc1) (fun _ h => Cs.sub (vs := (areaE x.ar)) 1 h rfl)) (fun _ h => Cs.sub (vs := [Ix (x.ar.lx), Ix (x.ar.ly)]) 0 h rfl)) (fun _ h => Cs.sub (vs := [Ix (x.ar.lx)]) 0 h rfl))) ?_
 refine lv (e_lss (a := (y.ar.hx)) (b := (x.ar.lx)) rfl rfl) ?_
 refine lv (v := .bool (decide ((y.ar.hx) < (x.ar.lx)))) e_assign ?_
 refine lnf ?_
 refine c_ret ?_
 refine ret1 Tryz.results111 (v := .bool (decide ((y.ar.hx) < (x.ar.lx)))) rfl ?_
 intro w hw
 exact ⟨rfl, st_mask [false] rfl hw⟩
set_option maxHeartbeats 4000000 in
theorem indexT_ok (β : Base) (w : World) (hw : St β [] w) (v : Value) (xs : List KT) (hs : Sl ThingF.R β.heap v xs) (fn : Value) (p : KT → Bool) (hfn : FnV Tryz.prog β fn (fun z : KT => [.agg #[Ix (z.id), Ix (z.ar.lx), Ix (z.ar.ly), Ix (z.ar.hx), Ix (z.ar.hy)]]) (fun _ => True) (fun z => .bool (p z))) : Calls Tryz.prog 150 #[v, fn] w fun r w' => r = .returned (Ix (idxI p xs)) ∧ St β [] w' := by
 obtain ⟨va, vc, rfl, vl, vm, ve⟩ := hs.get
 obtain ⟨gg, fst, cap, rfl, hcf, hf⟩ := hfn
 refine enter (n := 19) Tryz.func150 rfl Tryz.ntmps150 rfl ?_ hw
 refine csr ?_
 refine l_val (v := .int .i64 (0)) rfl rfl rfl e_assign ?_
 refine lnf ?_
 refine cs2 ?_
 refine c_region ?_
 refine lv (v := sB va xs (vc)) e_move ?_
 refine lv (v := Nx (xs.length)) (e_len (a := va) (n := xs.length) (c := vc) rfl ub23) ?_
 refine lv (v := .int .i64 (0)) e_move ?_
 refine lnf ?_
 refine c_block ?_
 refine c_loop (fun (k : Nat) (f : Fm) (L : List Res) => (f 0 = sB va xs (vc) ∧ f 1 = .func (.func gg) fst.toArray cap.toArray ∧ f 7 = Nx (xs.length) ∧ f 8 = Nx (k)) ∧ L = [] ∧ (k ≤ xs.length ∧ ∀ y ∈ xs.take k, p y = false)) (fun (k : Nat) => xs.length - k) 0 ?_ ?_
 ·exact ⟨⟨rfl, rfl, rfl, rfl⟩, rfl, ⟨by omega, fun y hy => by simp at hy⟩⟩
 rintro k f0 L0 ⟨⟨hs0, hs1, hs7, hs8⟩, hL, ⟨hk, hp⟩⟩
 subst L0
 refine rebase (d := 0) hs0 ?_
 refine rebase (d := 1) hs1 ?_
 refine rebase (d := 7) hs7 ?_
 refine rebase (d := 8) hs8 ?_
 clear hs0 hs1 hs7 hs8
 refine csr ?_
 refine lv (e_lss (a := ((k : Nat) : Int)) (b := ((xs.length : Nat) : Int)) rfl rfl) ?_
 refine lnf ?_
 refine c_seq ?_
 refine c_if (((k : Nat) : Int) < ((xs.length : Nat) : Int)) rfl (fun hc1 => ?_) (fun hc1 => ?_)
 ·refine csk ?_
  refine c_seq ?_
  refine c_block ?_
  refine csr ?_
  refine lv (v := Nx (k)) e_move ?_
  refine lv (v := Nx (k)) e_assign ?_
  refine lnc ?_
  refine lv (v := .func (.func gg) fst.toArray cap.toArray) e_move ?_
  refine lv (v := sB va xs (vc)) e_move ?_
  refine lv (v := Nx (k)) e_move ?_
  obtain ⟨x2, hx2⟩ : ∃ x_, (xs)[k]? = some x_ := ⟨_, List.getElem?_eq_getElem (by omega)⟩
  obtain ⟨ha4, cs5, hc6, rfl⟩ := ve _ _ hx2
  refine lv (v := .pointer (some ((ba va).add (k * 5)))) (e_indexAddr (k := k) (len := xs.length) (cap := vc) (a := va) rfl rfl ub24 (by omega) ha4) ?_
  refine lv (v := .agg #[Ix (x2.id), Ix (x2.ar.lx), Ix (x2.ar.ly), Ix (x2.ar.hx), Ix (x2.ar.hy)]) (e_load ub25 rfl (kB hc6) rfl) ?_
  refine l_call rfl rfl rfl (cl_value (fst := fst) (cap := cap) (vs := [.agg #[Ix (x2.id), Ix (x2.ar.lx), Ix (x2.ar.ly), Ix (x2.ar.hx), Ix (x2.ar.hy)]]) (all := fst ++ [.agg #[Ix (x2.id), Ix (x2.ar.lx), Ix (x2.ar.ly), Ix (x2.ar.hx), Ix (x2.ar.hy)]] ++ cap) hcf rfl rfl rfl) ?_
  intro w hw
  obtain ⟨β1, sb, kn, hw1, back⟩ := St.frame_all hw
  refine (hf β1 sb x2 trivial w hw1).mono ?_
  rintro e w' ⟨rfl, hw'⟩
  refine ⟨_, rfl, _, back _ _ hw', ?_⟩
  clear hw hw1 hw' back kn sb
  refine lnf ?_
  refine c_ifb (p x2) rfl (fun hc8 => ?_) (fun hc8 => ?_)
  ·refine csr ?_
   refine lv (v := Nx (k)) e_move ?_
   refine lv (v := Nx (k)) e_assign ?_
   refine lnf ?_
   refine c_ret ?_
   refine f_block_ret ?_
   refine f_then_ret ?_
   refine f_then_ret ?_
   refine f_block_ret ?_
   refine f_then_ret ?_
   refine ret1 Tryz.results150 (v := Nx (k)) rfl ?_
   intro w hw
   exact ⟨congrArg (fun z : Int => Ending.returned (Ix z)) (idx_found hx2 hc8 hp).symm, st_mask [] rfl hw⟩
  refine c_skip ?_
  refine f_block ?_
  refine f_then ?_
  refine c_region ?_
  refine lv (v := Nx (k + 1)) (e_add (a := ((k : Nat) : Int)) (b := (1 : Int)) rfl rfl (i64n (by omega) (by omega))) ?_
  refine lv (v := Nx (k + 1)) e_move ?_
  refine l_nil ?_
  exact f_cut ⟨k + 1, ⟨⟨rfl, rfl, rfl, rfl⟩, rfl, ⟨by omega, idx_next hx2 hc8 hp⟩⟩, (show xs.length - (k + 1) < xs.length - k from by omega)⟩
 refine c_exit ?_
 refine f_then_exit ?_
 refine f_then_exit ?_
 refine f_exit ?_
 refine ftc ?_
 refine lv (v := .int .i64 (-1)) e_assign ?_
 refine lnf ?_
 refine c_ret ?_
 refine ret1 Tryz.results150 (v := .int .i64 (-1)) rfl ?_
 intro w hw
 exact ⟨congrArg (fun z : Int => Ending.returned (Ix z)) (idx_none (by omega) hp).symm, st_mask [] rfl hw⟩
set_option maxHeartbeats 4000000 in
theorem deleteT_ok (β : Base) (w : World) (q : Option Addr) (c : Nat) (xs : List KT) (hw : St β [rowF ThingF 118 q c xs] w) (hn : xs.length ≤ 1048576) (fn : Value) (p : KT → Bool) (hfn : FnV Tryz.prog β fn (fun z : KT => [.agg #[Ix (z.id), Ix (z.ar.lx), Ix (z.ar.ly), Ix (z.ar.hx), Ix (z.ar.hy)]]) (fun _ => True) (fun z => .bool (p z))) : Calls Tryz.prog 110 #[sB q xs c, fn] w fun r w' => r = .returned (sB q (xs.filter fun z => !p z) c) ∧ St β [rowF ThingF 118 q c (xs.filter fun z => !p z)] w' := by
 have hfn0 := hfn
 obtain ⟨gg, fst, cap, rfl, hcf, hf⟩ := hfn
 refine enter (n := 42) Tryz.func110 rfl Tryz.ntmps110 rfl ?_ hw
 refine c_seq ?_
 refine c_rowcap 0 rfl (fun hcl hcm => ?_)
 refine c_region ?_
 refine l_val (v := .slice none 0 0) rfl rfl rfl e_assign ?_
 refine lnc ?_
 refine lv (v := sB q xs c) e_move ?_
 refine lv (v := .func (.func gg) fst.toArray cap.toArray) e_move ?_
 refine lcf (cl0 (vs := [sB q xs c, .func (.func gg) fst.toArray cap.toArray]) ub26 rfl rfl) rfl fun w β1 sb kn hw1 back => (indexT_ok β1 w hw1 _ xs (kn _ (k_flN 0 (F := ThingF) (m := xs.length) rfl rfl)) _ p (hfn0.mono sb)).mono ?_
 rintro e w' ⟨rfl, hw'⟩
 refine ⟨_, rfl, _, back _ _ hw', ?_⟩
 clear hw1 hw' back kn sb
 refine lv (v := Ix (idxI p xs)) e_assign ?_
 refine lnf ?_
 refine cs2 ?_
 refine c_region ?_
 refine lv (v := Ix (idxI p xs)) e_move ?_
 refine lv (e_eql (a := (idxI p xs)) (b := (-1 : Int)) rfl rfl) ?_
 refine lnf ?_
 refine c_if ((idxI p xs) = (-1 : Int)) rfl (fun hc1 => ?_) (fun hc1 => ?_)
 ·refine csr ?_
  refine lv (v := sB q xs c) e_move ?_
  refine lv (v := sB q xs c) e_assign ?_
  refine lnf ?_
  refine c_ret ?_
  refine f_then_ret ?_
  refine ret1 Tryz.results110 (v := sB q xs c) rfl ?_
  intro w hw
  have he := filter_none hc1
  exact ⟨by rw [he], by rw [he]; exact st_mask [true] rfl hw⟩
 refine csk ?_
 refine cs2 ?_
 obtain ⟨kq, hkq⟩ : ∃ k : Nat, idxI p xs = k := (idxI_nat _ _).resolve_left hc1
 have hd0 := DelInv.start hkq
 have hd1 := hd0.lj
 refine rebase (d := 5) (v := Nx kq) (congrArg (fun z : Int => Ix z) hkq) ?_
 refine c_region ?_
 refine lv (v := Nx (kq)) e_move ?_
 refine lv (v := Nx (kq + 1)) (e_add (a := ((kq : Nat) : Int)) (b := (1 : Int)) rfl rfl (i64n (by omega) (by omega))) ?_
 refine lv (v := Nx (kq + 1)) e_assign ?_
 refine lnf ?_
 refine c_block ?_
 refine c_loop (fun (x_ : Nat × Nat × List KT) (f : Fm) (L : List Res) => match x_ with | (i, j, ws) => (f 0 = sB q xs c ∧ f 1 = .func (.func gg) fst.toArray cap.toArray ∧ f 5 = Nx (i) ∧ f 6 = Nx (j)) ∧ L = [rowF ThingF 118 q c ws] ∧ (DelInv p xs ws i j)) (fun (x_ : Nat × Nat × List KT) => match x_ with | (i, j, ws) => xs.length - j) (kq, (kq + 1), xs) ?_ ?_
 ·exact ⟨⟨rfl, rfl, rfl, rfl⟩, rfl, hd0⟩
 rintro ⟨i, j, ws⟩ f0 L0 ⟨⟨hs0, hs1, hs5, hs6⟩, hL, hd⟩
 subst L0
 refine rebase (d := 0) hs0 ?_
 refine rebase (d := 1) hs1 ?_
 refine rebase (d := 5) hs5 ?_
 refine rebase (d := 6) hs6 ?_
 clear hs0 hs1 hs5 hs6
 have hdl := hd.len
 have hde := hd.le
 have hdj := hd.lj
 refine cs2 ?_
 refine c_region ?_
 refine lv (v := Nx (j)) e_move ?_
 refine lv (v := sB q xs c) e_move ?_
 refine lv (v := Nx (xs.length)) (e_len (a := q) (n := xs.length) (c := c) rfl ub23) ?_
 refine lv (e_lss (a := ((j : Nat) : Int)) (b := ((xs.length : Nat) : Int)) rfl rfl) ?_
 refine lnf ?_
 refine c_if (((j : Nat) : Int) < ((xs.length : Nat) : Int)) rfl (fun hc2 => ?_) (fun hc2 => ?_)
 ·refine csk ?_
  refine c_seq ?_
  refine c_block ?_
  refine csr ?_
  refine lv (v := sB q xs c) e_move ?_
  refine lv (v := Nx (j)) e_move ?_
  refine lv (v := .pointer (some ((ba q).add (j * 5)))) (e_indexFlN 0 (F := ThingF) (j := j) (m := xs.length) (xs := ws) rfl (by omega) rfl ub24 (by omega) rfl) ?_
  obtain ⟨x3, hx4⟩ : ∃ x_, ws[j]? = some x_ := ⟨_, List.getElem?_eq_getElem (by omega)⟩
  refine lv (v := .agg #[Ix (x3.id), Ix (x3.ar.lx), Ix (x3.ar.ly), Ix (x3.ar.hx), Ix (x3.ar.hy)]) (e_load ub25 rfl (k_flAt 0 (F := ThingF) rfl hx4) rfl) ?_
  refine l_mv rfl rfl rfl (m_alloc ub27) ?_
  rintro _ _ ⟨b5, rfl, rfl⟩
  refine lu (m_store 0 ub25 (cs' := #[Ix (x3.id), Ix (x3.ar.lx), Ix (x3.ar.ly), Ix (x3.ar.hx), Ix (x3.ar.hy)]) rfl rfl rfl rfl rfl rfl rfl) ?_
  refine lnc ?_
  refine lv (v := .func (.func gg) fst.toArray cap.toArray) e_move ?_
  refine lv (v := .agg #[Ix (x3.id), Ix (x3.ar.lx), Ix (x3.ar.ly), Ix (x3.ar.hx), Ix (x3.ar.hy)]) (e_load ub25 rfl (k_pt 0 rfl rfl) rfl) ?_
  refine l_call rfl rfl rfl (cl_value (fst := fst) (cap := cap) (vs := [.agg #[Ix (x3.id), Ix (x3.ar.lx), Ix (x3.ar.ly), Ix (x3.ar.hx), Ix (x3.ar.hy)]]) (all := fst ++ [.agg #[Ix (x3.id), Ix (x3.ar.lx), Ix (x3.ar.ly), Ix (x3.ar.hx), Ix (x3.ar.hy)]] ++ cap) hcf rfl rfl rfl) ?_
  intro w hw
  obtain ⟨β1, sb, kn, hw1, back⟩ := St.frame_all hw
  refine (hf β1 sb x3 trivial w hw1).mono ?_
  rintro e w' ⟨rfl, hw'⟩
  refine ⟨_, rfl, _, back _ _ hw', ?_⟩
  clear hw hw1 hw' back kn sb
  refine lv (v := .bool (!(p x3))) (e_not rfl) ?_
  refine lnf ?_
  refine c_ifb (!(p x3)) rfl (fun hc6 => ?_) (fun hc6 => ?_)
  ·refine csr ?_
   refine lv (v := sB q xs c) e_move ?_
   refine lv (v := Nx (i)) e_move ?_
   refine lv (v := .agg #[Ix (x3.id), Ix (x3.ar.lx), Ix (x3.ar.ly), Ix (x3.ar.hx), Ix (x3.ar.hy)]) (e_load ub25 rfl (k_pt 0 rfl rfl) rfl) ?_
   refine lv (v := .pointer (some ((ba q).add (i * 5)))) (e_indexFlN 1 (F := ThingF) (j := i) (m := xs.length) (xs := ws) rfl (by omega) rfl ub24 (by omega) rfl) ?_
   refine lu (m_storeFl 1 (F := ThingF) (p := q) (k := i) (xs := ws) (z := x3) ub25 rfl rfl rfl rfl (by omega)) ?_
   refine lnr ?_
   refine lv (v := Nx (i)) e_move ?_
   refine lv (v := Nx (i + 1)) (e_add (a := ((i : Nat) : Int)) (b := (1 : Int)) rfl rfl (i64n (by omega) (by omega))) ?_
   refine lv (v := Nx (i + 1)) e_assign ?_
   refine l_nil ?_
   refine f_block ?_
   refine f_then ?_
   refine c_region ?_
   refine lv (v := Nx (j)) e_move ?_
   refine lv (v := Nx (j + 1)) (e_add (a := ((j : Nat) : Int)) (b := (1 : Int)) rfl rfl (i64n (by omega) (by omega))) ?_
   refine lv (v := Nx (j + 1)) e_assign ?_
   refine l_nil ?_
   refine f_mask (L' := [rowF ThingF 118 q c (ws.set i x3)]) [false, true] rfl ?_
   exact f_cut ⟨(i + 1, j + 1, (ws.set i x3)), ⟨⟨rfl, rfl, rfl, rfl⟩, rfl, hd.keep hx4 (by simpa using hc6)⟩, (show xs.length - (j + 1) < xs.length - j from by omega)⟩
  refine c_skip ?_
  refine f_block ?_
  refine f_then ?_
  refine c_region ?_
  refine lv (v := Nx (j)) e_move ?_
  refine lv (v := Nx (j + 1)) (e_add (a := ((j : Nat) : Int)) (b := (1 : Int)) rfl rfl (i64n (by omega) (by omega))) ?_
  refine lv (v := Nx (j + 1)) e_assign ?_
  refine l_nil ?_
  refine f_mask (L' := [rowF ThingF 118 q c ws]) [false, true] rfl ?_
  exact f_cut ⟨(i, j + 1, ws), ⟨⟨rfl, rfl, rfl, rfl⟩, rfl, hd.skip hx4 (by simpa using hc6)⟩, (show xs.length - (j + 1) < xs.length - j from by omega)⟩
 refine c_exit ?_
 refine f_then_exit ?_
 refine f_then_exit ?_
 refine f_exit ?_
 refine fts ?_
 have hdl := hd.len
 have hde := hd.le
 have hdj := hd.lj
 refine c_region ?_
 refine lv (v := sB q xs c) e_move ?_
 refine lv (v := Nx (i)) e_move ?_
 refine lv (v := .slice (adv q c i 5) (ws.length - i) (c - i)) (ev_eq (by rw [show ws.length = xs.length by omega]) (e_slice_lo (a := q) (len := xs.length) (cap := c) (l := i) ub24 rfl rfl (by omega))) ?_
 refine l_mc rfl rfl (m_clearFl (F := ThingF) (p := q) (c := c) (k := i) (xs := ws) 0 ub24 ub27 rfl rfl rfl rfl (by omega)) ?_
 rintro _ _ ⟨rfl, rfl⟩
 refine lnc ?_
 refine lv (v := sB q xs c) e_move ?_
 refine lv (v := Nx (i)) e_move ?_
 refine lv (v := .slice q (i) c) (e_slice_hi (a := q) (len := xs.length) (cap := c) (h := i) ub24 rfl rfl (by omega)) ?_
 refine lv (v := .slice q (i) c) e_assign ?_
 refine lnf ?_
 refine c_ret ?_
 refine ret1 Tryz.results110 (v := .slice q (i) c) rfl ?_
 intro w hw
 have he := hd.done (by omega)
 have hil : i = (xs.filter fun z => !p z).length := by rw [← he, List.length_take]; omega
 exact ⟨by unfold sB; rw [← hil], by rw [← he]; exact st_mask [true] rfl hw⟩
end Go.Proofs
