/-
  The heap: walked. Printed by a program of my own.
-/
import Derived.Test.YthncdmfogeemcaaGreatBr2
import Derived.Test.YthncdmfogeemcaaGreatPtLib
import Derived.Test.YthncdmfogeemcaaGreatPtDef
import Derived.Test.YthncdmfogeemcaaGreatSlMk
import Derived.Test.YthncdmfogeemcaaGreatSlIfc
namespace Go.Proofs
open Go Go.Sl Go.Brd Go.Pth
theorem tq0 : fldB Tryz.prog 70 1 1 1 false = true := by kernel_rfl
theorem tq1 : tyB Tryz.prog 3 false 1 = true := by kernel_rfl
theorem tq2 : cfB Tryz.prog 55 = true := by kernel_rfl
theorem tq3 : fldB Tryz.prog 70 2 2 1 false = true := by kernel_rfl
theorem tq4 : slB Tryz.prog 36 3 1 = true := by kernel_rfl
theorem tq5 : (Tryz.prog.info? 3).bind (·.zero) = some (.int .i64 (0)) := by kernel_rfl
theorem tq6 : cfB Tryz.prog 58 = true := by kernel_rfl
theorem tq7 : fldB Tryz.prog 98 0 0 1 false = true := by kernel_rfl
theorem tq8 : tyB Tryz.prog 67 false 1 = true := by kernel_rfl
theorem tq9 : Tryz.prog.underlying 67 = some (.slice 70) := by kernel_rfl
theorem tq10 : fldB Tryz.prog 98 1 1 1 false = true := by kernel_rfl
theorem tq11 : tyB Tryz.prog 96 false 1 = true := by kernel_rfl
theorem tq12 : slB Tryz.prog 67 70 3 = true := by kernel_rfl
theorem tq13 : tyB Tryz.prog 70 true 3 = true := by kernel_rfl
theorem tq14 : cfB Tryz.prog 41 = true := by kernel_rfl
theorem tq15 : nifB Tryz.prog 70 = true := by kernel_rfl
theorem tq16 : (Tryz.prog.info? 70).bind (·.zero) = some (.agg #[.int .i64 (0), .int .i64 (0), .int .i64 (0)]) := by kernel_rfl
theorem tq17 : elB Tryz.prog 70 3 24 = true := by kernel_rfl
theorem tq19 : mtB Tryz.prog 95 "Less" 124 = true := by kernel_rfl
theorem tq21 : mtB Tryz.prog 95 "Swap" 127 = true := by kernel_rfl
theorem tq23 : mtB Tryz.prog 95 "Push" 126 = true := by kernel_rfl
theorem tq25 : mtB Tryz.prog 95 "Len" 123 = true := by kernel_rfl
theorem tq26 : cfB Tryz.prog 60 = true := by kernel_rfl
theorem tq27 : cfB Tryz.prog 59 = true := by kernel_rfl
theorem tq29 : mtB Tryz.prog 95 "Pop" 125 = true := by kernel_rfl
set_option maxHeartbeats 4000000 in
theorem before_ok (β : Base) (w : World) (hw : St β [] w) (a b : KM) : Calls Tryz.prog 41 #[.agg #[Nx (a.node), Nx (a.len), Nx (a.pts)], .agg #[Nx (b.node), Nx (b.len), Nx (b.pts)]] w fun r w' => r = .returned (Ix (orI [cmpI (a.len : Int) (b.len : Int), cmpI (a.pts : Int) (b.pts : Int)])) ∧ St β [] w' := by
  refine enter (n := 17) Tryz.func41 rfl Tryz.ntmps41 rfl ?_ hw
  refine c_seq ?_
  refine c_region ?_
  refine l_mv rfl rfl rfl (m_box (v := .agg #[Nx (a.node), Nx (a.len), Nx (a.pts)]) rfl) ?_
  rintro _ _ ⟨b1, rfl, rfl⟩
  refine l_mv rfl rfl rfl (m_box (v := .agg #[Nx (b.node), Nx (b.len), Nx (b.pts)]) rfl) ?_
  rintro _ _ ⟨b2, rfl, rfl⟩
  refine l_val (v := .int .i64 (0)) rfl rfl rfl (e_assign) ?_
  refine l_nil ?_
  refine f_then ?_
  refine c_seq ?_
  refine c_any [⟨[], [], [0], [5], fun f => f 5 = .pointer (some ⟨b1, 1, none⟩)⟩, ⟨[0], [0], [], [6], fun f => f 6 = Nx (a.len)⟩, ⟨[], [], [1], [7], fun f => f 7 = .pointer (some ⟨b2, 1, none⟩)⟩, ⟨[2], [2], [], [8], fun f => f 8 = Nx (b.len)⟩, ⟨[0, 1, 2, 3], [1, 3], [], [9], fun f => f 9 = Ix (cmpI ((a.len : Nat) : Int) ((b.len : Nat) : Int))⟩, ⟨[], [], [0], [10], fun f => f 10 = .pointer (some ⟨b1, 2, none⟩)⟩, ⟨[5], [5], [], [11], fun f => f 11 = Nx (a.pts)⟩, ⟨[], [], [1], [12], fun f => f 12 = .pointer (some ⟨b2, 2, none⟩)⟩, ⟨[7], [7], [], [13], fun f => f 13 = Nx (b.pts)⟩, ⟨[0, 1, 2, 3, 4, 5, 6, 7, 8], [6, 8], [], [14], fun f => f 14 = Ix (cmpI ((a.pts : Nat) : Int) ((b.pts : Nat) : Int))⟩, ⟨[0, 1, 2, 3, 4, 5, 6, 7, 8, 9], [4, 9], [], [15], fun f => f 15 = .slice (some ⟨(blk (f 15)), 0, none⟩) 2 2⟩, ⟨[0, 1, 2, 3, 4, 5, 6, 7, 8, 9, 10], [10], [], [16], fun f => f 16 = Ix (orI [(cmpI ((a.len : Nat) : Int) ((b.len : Nat) : Int)), (cmpI ((a.pts : Nat) : Int) ((b.pts : Nat) : Int))])⟩, ⟨[0, 1, 2, 3, 4, 5, 6, 7, 8, 9, 10, 11], [11], [], [4], fun f => f 4 = Ix (orI [(cmpI ((a.len : Nat) : Int) ((b.len : Nat) : Int)), (cmpI ((a.pts : Nat) : Int) ((b.pts : Nat) : Int))])⟩] [⟨none, none, [3, 8], [], fun _ => pt b2 (.cells #[Nx (b.node), Nx (b.len), Nx (b.pts)] 70)⟩, ⟨none, none, [1, 6], [], fun _ => pt b1 (.cells #[Nx (a.node), Nx (a.len), Nx (a.pts)] 70)⟩, ⟨(some 10), none, [11], [15], fun f => pt (blk (f 15)) (.cells #[Ix (cmpI ((a.len : Nat) : Int) ((b.len : Nat) : Int)), Ix (cmpI ((a.pts : Nat) : Int) ((b.pts : Nat) : Int))] 3)⟩] [(2, .pointer (some ⟨b1, 0, none⟩)), (3, .pointer (some ⟨b2, 0, none⟩))] [] [] (by kernel_rfl) (by kernel_rfl) (by kernel_rfl) (by kernel_rfl) rfl ⟨rfl, rfl, trivial⟩ ⟨?_, ?_, ?_, ?_, ?_, ?_, ?_, ?_, ?_, ?_, ?_, ?_, ?_, trivial⟩ ?_
  · rintro f M - ⟨i0, -⟩
    have hs2 : f 2 = .pointer (some ⟨b1, 0, none⟩) := i0
    refine ob_start (L' := M) (by rfl) (up_cons rfl hs2) ?_
    refine l_val (v := .pointer (some ⟨b1, 1, none⟩)) rfl rfl rfl (e_fieldPt (b := b1) (o := 0) rfl tq0) ?_
    refine l_nil ?_
    exact f_owes_d (up_cons rfl hs2) rfl (List.Perm.refl _)
  · rintro f M ⟨k0, -⟩ -
    have hs5 : f 5 = .pointer (some ⟨b1, 1, none⟩) := k0
    refine ob_start (L' := pt b1 (.cells #[Nx (a.node), Nx (a.len), Nx (a.pts)] 70) :: M) (by rfl) (up_cons rfl hs5) ?_
    refine l_val (v := Nx (a.len)) rfl rfl rfl (e_load1 tq1 (v := Nx (a.len)) rfl (k_pt 0 (cs := #[Nx (a.node), Nx (a.len), Nx (a.pts)]) (vs := [Nx (a.len)]) rfl rfl)) ?_
    refine l_nil ?_
    exact f_owes_d (up_cons rfl hs5) rfl (perm_front 0 rfl)
  · rintro f M - ⟨i0, -⟩
    have hs3 : f 3 = .pointer (some ⟨b2, 0, none⟩) := i0
    refine ob_start (L' := M) (by rfl) (up_cons rfl hs3) ?_
    refine l_val (v := .pointer (some ⟨b2, 1, none⟩)) rfl rfl rfl (e_fieldPt (b := b2) (o := 0) rfl tq0) ?_
    refine l_nil ?_
    exact f_owes_d (up_cons rfl hs3) rfl (List.Perm.refl _)
  · rintro f M ⟨k0, -⟩ -
    have hs7 : f 7 = .pointer (some ⟨b2, 1, none⟩) := k0
    refine ob_start (L' := pt b2 (.cells #[Nx (b.node), Nx (b.len), Nx (b.pts)] 70) :: M) (by rfl) (up_cons rfl hs7) ?_
    refine l_val (v := Nx (b.len)) rfl rfl rfl (e_load1 tq1 (v := Nx (b.len)) rfl (k_pt 0 (cs := #[Nx (b.node), Nx (b.len), Nx (b.pts)]) (vs := [Nx (b.len)]) rfl rfl)) ?_
    refine l_nil ?_
    exact f_owes_d (up_cons rfl hs7) rfl (perm_front 0 rfl)
  · rintro f M ⟨k0, k1, -⟩ -
    have hs6 : f 6 = Nx (a.len) := k0
    have hs8 : f 8 = Nx (b.len) := k1
    refine ob_start (L' := M) (by rfl) (up_cons (up_cons rfl hs6) hs8) ?_
    refine l_call rfl rfl rfl (cl_value (fst := []) (cap := []) (vs := [Nx (a.len), Nx (b.len)]) (all := [Nx (a.len), Nx (b.len)]) tq2 rfl rfl rfl) ?_
    intro w hw
    obtain ⟨β1, sb, kn, hw1, back⟩ := St.frame_all hw
    refine (cmp_ok β1 w hw1 ((a.len : Nat) : Int) ((b.len : Nat) : Int)).mono ?_
    rintro e w' ⟨rfl, hw'⟩
    refine ⟨_, rfl, _, back _ _ hw', ?_⟩
    clear hw hw1 hw' back kn sb
    refine l_nil ?_
    exact f_owes_d (up_cons (up_cons rfl hs6) hs8) rfl (List.Perm.refl _)
  · rintro f M - ⟨i0, -⟩
    have hs2 : f 2 = .pointer (some ⟨b1, 0, none⟩) := i0
    refine ob_start (L' := M) (by rfl) (up_cons rfl hs2) ?_
    refine l_val (v := .pointer (some ⟨b1, 2, none⟩)) rfl rfl rfl (e_fieldPt (b := b1) (o := 0) rfl tq3) ?_
    refine l_nil ?_
    exact f_owes_d (up_cons rfl hs2) rfl (List.Perm.refl _)
  · rintro f M ⟨k0, -⟩ -
    have hs10 : f 10 = .pointer (some ⟨b1, 2, none⟩) := k0
    refine ob_start (L' := pt b1 (.cells #[Nx (a.node), Nx (a.len), Nx (a.pts)] 70) :: M) (by rfl) (up_cons rfl hs10) ?_
    refine l_val (v := Nx (a.pts)) rfl rfl rfl (e_load1 tq1 (v := Nx (a.pts)) rfl (k_pt 0 (cs := #[Nx (a.node), Nx (a.len), Nx (a.pts)]) (vs := [Nx (a.pts)]) rfl rfl)) ?_
    refine l_nil ?_
    exact f_owes_d (up_cons rfl hs10) rfl (perm_front 0 rfl)
  · rintro f M - ⟨i0, -⟩
    have hs3 : f 3 = .pointer (some ⟨b2, 0, none⟩) := i0
    refine ob_start (L' := M) (by rfl) (up_cons rfl hs3) ?_
    refine l_val (v := .pointer (some ⟨b2, 2, none⟩)) rfl rfl rfl (e_fieldPt (b := b2) (o := 0) rfl tq3) ?_
    refine l_nil ?_
    exact f_owes_d (up_cons rfl hs3) rfl (List.Perm.refl _)
  · rintro f M ⟨k0, -⟩ -
    have hs12 : f 12 = .pointer (some ⟨b2, 2, none⟩) := k0
    refine ob_start (L' := pt b2 (.cells #[Nx (b.node), Nx (b.len), Nx (b.pts)] 70) :: M) (by rfl) (up_cons rfl hs12) ?_
    refine l_val (v := Nx (b.pts)) rfl rfl rfl (e_load1 tq1 (v := Nx (b.pts)) rfl (k_pt 0 (cs := #[Nx (b.node), Nx (b.len), Nx (b.pts)]) (vs := [Nx (b.pts)]) rfl rfl)) ?_
    refine l_nil ?_
    exact f_owes_d (up_cons rfl hs12) rfl (perm_front 0 rfl)
  · rintro f M ⟨k0, k1, -⟩ -
    have hs11 : f 11 = Nx (a.pts) := k0
    have hs13 : f 13 = Nx (b.pts) := k1
    refine ob_start (L' := M) (by rfl) (up_cons (up_cons rfl hs11) hs13) ?_
    refine l_call rfl rfl rfl (cl_value (fst := []) (cap := []) (vs := [Nx (a.pts), Nx (b.pts)]) (all := [Nx (a.pts), Nx (b.pts)]) tq2 rfl rfl rfl) ?_
    intro w hw
    obtain ⟨β1, sb, kn, hw1, back⟩ := St.frame_all hw
    refine (cmp_ok β1 w hw1 ((a.pts : Nat) : Int) ((b.pts : Nat) : Int)).mono ?_
    rintro e w' ⟨rfl, hw'⟩
    refine ⟨_, rfl, _, back _ _ hw', ?_⟩
    clear hw hw1 hw' back kn sb
    refine l_nil ?_
    exact f_owes_d (up_cons (up_cons rfl hs11) hs13) rfl (List.Perm.refl _)
  · rintro f M ⟨k0, k1, -⟩ -
    have hs9 : f 9 = Ix (cmpI ((a.len : Nat) : Int) ((b.len : Nat) : Int)) := k0
    have hs14 : f 14 = Ix (cmpI ((a.pts : Nat) : Int) ((b.pts : Nat) : Int)) := k1
    refine ob_start (L' := M) (by rfl) (up_cons (up_cons rfl hs9) hs14) ?_
    refine l_mv rfl rfl rfl (m_slices tq4 tq5 (vs := [(0, Ix (cmpI ((a.len : Nat) : Int) ((b.len : Nat) : Int))), (1, Ix (cmpI ((a.pts : Nat) : Int) ((b.pts : Nat) : Int)))]) (cells := #[Ix (cmpI ((a.len : Nat) : Int) ((b.len : Nat) : Int)), Ix (cmpI ((a.pts : Nat) : Int) ((b.pts : Nat) : Int))]) rfl rfl rfl rfl) ?_
    rintro _ _ ⟨b4, rfl, rfl⟩
    refine l_nil ?_
    exact f_owes_d (up_cons (up_cons rfl hs9) hs14) rfl (perm_front 0 rfl)
  · rintro f M ⟨k0, -⟩ -
    have hs15 : f 15 = .slice (some ⟨(blk (f 15)), 0, none⟩) 2 2 := k0
    refine ob_start (L' := pt (blk (f 15)) (.cells #[Ix (cmpI ((a.len : Nat) : Int) ((b.len : Nat) : Int)), Ix (cmpI ((a.pts : Nat) : Int) ((b.pts : Nat) : Int))] 3) :: M) (by rfl) (up_cons rfl hs15) ?_
    refine l_call rfl rfl rfl (cl_value (fst := []) (cap := []) (vs := [.slice (some ⟨(blk (f 15)), 0, none⟩) 2 2]) (all := [.slice (some ⟨(blk (f 15)), 0, none⟩) 2 2]) tq6 rfl rfl rfl) ?_
    intro w hw
    obtain ⟨β1, sb, kn, hw1, back⟩ := St.frame_all hw
    refine (or_ok β1 w hw1 _ [(cmpI ((a.len : Nat) : Int) ((b.len : Nat) : Int)), (cmpI ((a.pts : Nat) : Int) ((b.pts : Nat) : Int))] (kn _ (k_ptFls (F := IntF) 0 (m := 2) (xs := [(cmpI ((a.len : Nat) : Int) ((b.len : Nat) : Int)), (cmpI ((a.pts : Nat) : Int) ((b.pts : Nat) : Int))]) rfl rfl rfl (Nat.le_of_ble_eq_true rfl)))).mono ?_
    rintro e w' ⟨rfl, hw'⟩
    refine ⟨_, rfl, _, back _ _ hw', ?_⟩
    clear hw hw1 hw' back kn sb
    refine l_nil ?_
    exact f_owes_d (up_cons rfl hs15) rfl (perm_front 0 rfl)
  · rintro f M ⟨k0, -⟩ -
    have hs16 : f 16 = Ix (orI [(cmpI ((a.len : Nat) : Int) ((b.len : Nat) : Int)), (cmpI ((a.pts : Nat) : Int) ((b.pts : Nat) : Int))]) := k0
    refine ob_start (L' := M) (by rfl) (up_cons rfl hs16) ?_
    refine l_val (v := Ix (orI [(cmpI ((a.len : Nat) : Int) ((b.len : Nat) : Int)), (cmpI ((a.pts : Nat) : Int) ((b.pts : Nat) : Int))])) rfl rfl rfl (e_assign) ?_
    refine l_nil ?_
    exact f_owes_d (up_cons rfl hs16) rfl (List.Perm.refl _)
  rintro fa5 ⟨-, -, -, -, -, -, -, -, -, -, -, -, k12, -⟩ -
  refine f_re (L' := [pt b2 (.cells #[Nx (b.node), Nx (b.len), Nx (b.pts)] 70), pt b1 (.cells #[Nx (a.node), Nx (a.len), Nx (a.pts)] 70), pt (blk (fa5 15)) (.cells #[Ix (cmpI ((a.len : Nat) : Int) ((b.len : Nat) : Int)), Ix (cmpI ((a.pts : Nat) : Int) ((b.pts : Nat) : Int))] 3)]) (by rfl) ?_
  refine f_rebase (d := 4) (v := Ix (orI [(cmpI ((a.len : Nat) : Int) ((b.len : Nat) : Int)), (cmpI ((a.pts : Nat) : Int) ((b.pts : Nat) : Int))])) k12 ?_
  refine f_then ?_
  refine c_ret ?_
  refine ret1 Tryz.results41 (v := Ix (orI [(cmpI ((a.len : Nat) : Int) ((b.len : Nat) : Int)), (cmpI ((a.pts : Nat) : Int) ((b.pts : Nat) : Int))])) rfl ?_
  intro w hw
  exact ⟨rfl, st_mask [false, false, false] rfl hw⟩
theorem qlen_ok (β : Base) (w : World) (b n : Nat) (p : Option Addr) (c : Nat) (hw : St β [pt b (.cells #[.slice p (n) c, .func (.func 41) #[] #[]] 98)] w) : Calls Tryz.prog 123 #[.pointer (some ⟨b, 0, none⟩)] w fun r w' => r = .returned (Nx n) ∧ St β [pt b (.cells #[.slice p (n) c, .func (.func 41) #[] #[]] 98)] w' := by
  refine enter (n := 8) Tryz.func123 rfl Tryz.ntmps123 rfl ?_ hw
  refine c_seq ?_
  refine c_region ?_
  refine l_val (v := .int .i64 (0)) rfl rfl rfl (e_assign) ?_
  refine l_nil ?_
  refine f_then ?_
  refine c_seq ?_
  refine c_region ?_
  refine l_val (v := .pointer (some ⟨b, 0, none⟩)) rfl rfl rfl (e_move) ?_
  refine l_val (v := .pointer (some ⟨b, 0, none⟩)) rfl rfl rfl (e_nil (a := ⟨b, 0, none⟩) rfl) ?_
  refine l_val (v := .pointer (some ⟨b, 0, none⟩)) rfl rfl rfl (e_fieldPt (b := b) (o := 0) rfl tq7) ?_
  refine l_val (v := .slice p (n) c) rfl rfl rfl (e_load1 tq8 (v := .slice p (n) c) rfl (k_pt 0 (cs := #[.slice p (n) c, .func (.func 41) #[] #[]]) (vs := [.slice p (n) c]) rfl rfl)) ?_
  refine l_val (v := Nx (n)) rfl rfl rfl (e_len (a := p) (n := n) (c := c) rfl tq9) ?_
  refine l_val (v := Nx (n)) rfl rfl rfl (e_assign) ?_
  refine l_nil ?_
  refine f_then ?_
  refine c_ret ?_
  refine ret1 Tryz.results123 (v := Nx (n)) rfl ?_
  intro w hw
  exact ⟨rfl, hw⟩
set_option maxHeartbeats 4000000 in
theorem qless_ok (β : Base) (w : World) (b n : Nat) (p : Option Addr) (c : Nat) (xs : List KM) (hn : xs.length = n) (i j : Nat) (hi : i < n) (hj : j < n) (hw : St β [pt b (.cells #[.slice p (n) c, .func (.func 41) #[] #[]] 98), rowF MarkF 70 p c xs] w) : Calls Tryz.prog 124 #[.pointer (some ⟨b, 0, none⟩), Nx i, Nx j] w fun r w' => r = .returned (.bool (decide (¬ leM (mAt xs j) (mAt xs i)))) ∧ St β [pt b (.cells #[.slice p (n) c, .func (.func 41) #[] #[]] 98), rowF MarkF 70 p c xs] w' := by
  refine enter (n := 27) Tryz.func124 rfl Tryz.ntmps124 rfl ?_ hw
  refine c_seq ?_
  refine c_region ?_
  refine l_val (v := .bool false) rfl rfl rfl (e_assign) ?_
  refine l_nil ?_
  refine f_then ?_
  refine c_seq ?_
  obtain ⟨x1, hx2⟩ : ∃ x_, xs[i]? = some x_ := ⟨_, List.getElem?_eq_getElem (by omega)⟩
  obtain ⟨x3, hx4⟩ : ∃ x_, xs[j]? = some x_ := ⟨_, List.getElem?_eq_getElem (by omega)⟩
  refine c_any [⟨[], [], [0], [7], fun f => f 7 = .pointer (some ⟨b, 0, none⟩)⟩, ⟨[0], [0], [], [8], fun f => f 8 = .pointer (some ⟨b, 0, none⟩)⟩, ⟨[0, 1], [1], [], [9], fun f => f 9 = .pointer (some ⟨b, 1, none⟩)⟩, ⟨[0, 1, 2], [2], [], [10], fun f => f 10 = .func (.func 41) #[] #[]⟩, ⟨[], [], [0], [11], fun f => f 11 = .pointer (some ⟨b, 0, none⟩)⟩, ⟨[4], [4], [], [12], fun f => f 12 = .pointer (some ⟨b, 0, none⟩)⟩, ⟨[4, 5], [5], [], [13], fun f => f 13 = .pointer (some ⟨b, 0, none⟩)⟩, ⟨[4, 5, 6], [6], [], [14], fun f => f 14 = .slice p (n) c⟩, ⟨[], [], [1], [15], fun f => f 15 = Nx (i)⟩, ⟨[4, 5, 6, 7, 8], [7, 8], [], [16], fun f => f 16 = .pointer (some ((ba p).add (i * 3)))⟩, ⟨[4, 5, 6, 7, 8, 9], [9], [], [17], fun f => f 17 = .agg #[Nx (x1.node), Nx (x1.len), Nx (x1.pts)]⟩, ⟨[], [], [0], [18], fun f => f 18 = .pointer (some ⟨b, 0, none⟩)⟩, ⟨[11], [11], [], [19], fun f => f 19 = .pointer (some ⟨b, 0, none⟩)⟩, ⟨[11, 12], [12], [], [20], fun f => f 20 = .pointer (some ⟨b, 0, none⟩)⟩, ⟨[11, 12, 13], [13], [], [21], fun f => f 21 = .slice p (n) c⟩, ⟨[], [], [2], [22], fun f => f 22 = Nx (j)⟩, ⟨[11, 12, 13, 14, 15], [14, 15], [], [23], fun f => f 23 = .pointer (some ((ba p).add (j * 3)))⟩, ⟨[11, 12, 13, 14, 15, 16], [16], [], [24], fun f => f 24 = .agg #[Nx (x3.node), Nx (x3.len), Nx (x3.pts)]⟩, ⟨[0, 1, 2, 3, 4, 5, 6, 7, 8, 9, 10, 11, 12, 13, 14, 15, 16, 17], [3, 10, 17], [], [25], fun f => f 25 = Ix (orI [cmpI (x1.len : Int) (x3.len : Int), cmpI (x1.pts : Int) (x3.pts : Int)])⟩, ⟨[0, 1, 2, 3, 4, 5, 6, 7, 8, 9, 10, 11, 12, 13, 14, 15, 16, 17, 18], [18], [], [26], fun f => f 26 = .bool (decide ((orI [cmpI (x1.len : Int) (x3.len : Int), cmpI (x1.pts : Int) (x3.pts : Int)]) < (0 : Int)))⟩, ⟨[0, 1, 2, 3, 4, 5, 6, 7, 8, 9, 10, 11, 12, 13, 14, 15, 16, 17, 18, 19], [19], [], [6], fun f => f 6 = .bool (decide ((orI [cmpI (x1.len : Int) (x3.len : Int), cmpI (x1.pts : Int) (x3.pts : Int)]) < (0 : Int)))⟩] [⟨none, none, [3, 7, 14], [], fun _ => pt b (.cells #[.slice p (n) c, .func (.func 41) #[] #[]] 98)⟩, ⟨none, none, [9, 10, 16, 17], [], fun _ => rowF MarkF 70 p c xs⟩] [(0, .pointer (some ⟨b, 0, none⟩)), (1, Nx (i)), (2, Nx (j))] [] [] (by kernel_rfl) (by kernel_rfl) (by kernel_rfl) (by kernel_rfl) rfl ⟨rfl, rfl, rfl, trivial⟩ ⟨?_, ?_, ?_, ?_, ?_, ?_, ?_, ?_, ?_, ?_, ?_, ?_, ?_, ?_, ?_, ?_, ?_, ?_, ?_, ?_, ?_, trivial⟩ ?_
  · rintro f M - ⟨i0, -⟩
    have hs0 : f 0 = .pointer (some ⟨b, 0, none⟩) := i0
    refine ob_start (L' := M) (by rfl) (up_cons rfl hs0) ?_
    refine l_val (v := .pointer (some ⟨b, 0, none⟩)) rfl rfl rfl (e_move) ?_
    refine l_nil ?_
    exact f_owes_d (up_cons rfl hs0) rfl (List.Perm.refl _)
  · rintro f M ⟨k0, -⟩ -
    have hs7 : f 7 = .pointer (some ⟨b, 0, none⟩) := k0
    refine ob_start (L' := M) (by rfl) (up_cons rfl hs7) ?_
    refine l_val (v := .pointer (some ⟨b, 0, none⟩)) rfl rfl rfl (e_nil (a := ⟨b, 0, none⟩) rfl) ?_
    refine l_nil ?_
    exact f_owes_d (up_cons rfl hs7) rfl (List.Perm.refl _)
  · rintro f M ⟨k0, -⟩ -
    have hs8 : f 8 = .pointer (some ⟨b, 0, none⟩) := k0
    refine ob_start (L' := M) (by rfl) (up_cons rfl hs8) ?_
    refine l_val (v := .pointer (some ⟨b, 1, none⟩)) rfl rfl rfl (e_fieldPt (b := b) (o := 0) rfl tq10) ?_
    refine l_nil ?_
    exact f_owes_d (up_cons rfl hs8) rfl (List.Perm.refl _)
  · rintro f M ⟨k0, -⟩ -
    have hs9 : f 9 = .pointer (some ⟨b, 1, none⟩) := k0
    refine ob_start (L' := pt b (.cells #[.slice p (n) c, .func (.func 41) #[] #[]] 98) :: M) (by rfl) (up_cons rfl hs9) ?_
    refine l_val (v := .func (.func 41) #[] #[]) rfl rfl rfl (e_load1 tq11 (v := .func (.func 41) #[] #[]) rfl (k_pt 0 (cs := #[.slice p (n) c, .func (.func 41) #[] #[]]) (vs := [.func (.func 41) #[] #[]]) rfl rfl)) ?_
    refine l_nil ?_
    exact f_owes_d (up_cons rfl hs9) rfl (perm_front 0 rfl)
  · rintro f M - ⟨i0, -⟩
    have hs0 : f 0 = .pointer (some ⟨b, 0, none⟩) := i0
    refine ob_start (L' := M) (by rfl) (up_cons rfl hs0) ?_
    refine l_val (v := .pointer (some ⟨b, 0, none⟩)) rfl rfl rfl (e_move) ?_
    refine l_nil ?_
    exact f_owes_d (up_cons rfl hs0) rfl (List.Perm.refl _)
  · rintro f M ⟨k0, -⟩ -
    have hs11 : f 11 = .pointer (some ⟨b, 0, none⟩) := k0
    refine ob_start (L' := M) (by rfl) (up_cons rfl hs11) ?_
    refine l_val (v := .pointer (some ⟨b, 0, none⟩)) rfl rfl rfl (e_nil (a := ⟨b, 0, none⟩) rfl) ?_
    refine l_nil ?_
    exact f_owes_d (up_cons rfl hs11) rfl (List.Perm.refl _)
  · rintro f M ⟨k0, -⟩ -
    have hs12 : f 12 = .pointer (some ⟨b, 0, none⟩) := k0
    refine ob_start (L' := M) (by rfl) (up_cons rfl hs12) ?_
    refine l_val (v := .pointer (some ⟨b, 0, none⟩)) rfl rfl rfl (e_fieldPt (b := b) (o := 0) rfl tq7) ?_
    refine l_nil ?_
    exact f_owes_d (up_cons rfl hs12) rfl (List.Perm.refl _)
  · rintro f M ⟨k0, -⟩ -
    have hs13 : f 13 = .pointer (some ⟨b, 0, none⟩) := k0
    refine ob_start (L' := pt b (.cells #[.slice p (n) c, .func (.func 41) #[] #[]] 98) :: M) (by rfl) (up_cons rfl hs13) ?_
    refine l_val (v := .slice p (n) c) rfl rfl rfl (e_load1 tq8 (v := .slice p (n) c) rfl (k_pt 0 (cs := #[.slice p (n) c, .func (.func 41) #[] #[]]) (vs := [.slice p (n) c]) rfl rfl)) ?_
    refine l_nil ?_
    exact f_owes_d (up_cons rfl hs13) rfl (perm_front 0 rfl)
  · rintro f M - ⟨i0, -⟩
    have hs1 : f 1 = Nx (i) := i0
    refine ob_start (L' := M) (by rfl) (up_cons rfl hs1) ?_
    refine l_val (v := Nx (i)) rfl rfl rfl (e_move) ?_
    refine l_nil ?_
    exact f_owes_d (up_cons rfl hs1) rfl (List.Perm.refl _)
  · rintro f M ⟨k0, k1, -⟩ -
    have hs14 : f 14 = .slice p (n) c := k0
    have hs15 : f 15 = Nx (i) := k1
    refine ob_start (L' := rowF MarkF 70 p c xs :: M) (by rfl) (up_cons (up_cons rfl hs14) hs15) ?_
    refine l_val (v := .pointer (some ((ba p).add (i * 3)))) rfl rfl rfl (e_indexFlN 0 (F := MarkF) (j := i) (m := n) (xs := xs) rfl (by omega) rfl tq12 (by omega) rfl) ?_
    refine l_nil ?_
    exact f_owes_d (up_cons (up_cons rfl hs14) hs15) rfl (perm_front 0 rfl)
  · rintro f M ⟨k0, -⟩ -
    have hs16 : f 16 = .pointer (some ((ba p).add (i * 3))) := k0
    refine ob_start (L' := rowF MarkF 70 p c xs :: M) (by rfl) (up_cons rfl hs16) ?_
    refine l_val (v := .agg #[Nx (x1.node), Nx (x1.len), Nx (x1.pts)]) rfl rfl rfl (e_load tq13 (cs := [Nx (x1.node), Nx (x1.len), Nx (x1.pts)]) rfl (k_flAt 0 (F := MarkF) rfl hx2) rfl) ?_
    refine l_nil ?_
    exact f_owes_d (up_cons rfl hs16) rfl (perm_front 0 rfl)
  · rintro f M - ⟨i0, -⟩
    have hs0 : f 0 = .pointer (some ⟨b, 0, none⟩) := i0
    refine ob_start (L' := M) (by rfl) (up_cons rfl hs0) ?_
    refine l_val (v := .pointer (some ⟨b, 0, none⟩)) rfl rfl rfl (e_move) ?_
    refine l_nil ?_
    exact f_owes_d (up_cons rfl hs0) rfl (List.Perm.refl _)
  · rintro f M ⟨k0, -⟩ -
    have hs18 : f 18 = .pointer (some ⟨b, 0, none⟩) := k0
    refine ob_start (L' := M) (by rfl) (up_cons rfl hs18) ?_
    refine l_val (v := .pointer (some ⟨b, 0, none⟩)) rfl rfl rfl (e_nil (a := ⟨b, 0, none⟩) rfl) ?_
    refine l_nil ?_
    exact f_owes_d (up_cons rfl hs18) rfl (List.Perm.refl _)
  · rintro f M ⟨k0, -⟩ -
    have hs19 : f 19 = .pointer (some ⟨b, 0, none⟩) := k0
    refine ob_start (L' := M) (by rfl) (up_cons rfl hs19) ?_
    refine l_val (v := .pointer (some ⟨b, 0, none⟩)) rfl rfl rfl (e_fieldPt (b := b) (o := 0) rfl tq7) ?_
    refine l_nil ?_
    exact f_owes_d (up_cons rfl hs19) rfl (List.Perm.refl _)
  · rintro f M ⟨k0, -⟩ -
    have hs20 : f 20 = .pointer (some ⟨b, 0, none⟩) := k0
    refine ob_start (L' := pt b (.cells #[.slice p (n) c, .func (.func 41) #[] #[]] 98) :: M) (by rfl) (up_cons rfl hs20) ?_
    refine l_val (v := .slice p (n) c) rfl rfl rfl (e_load1 tq8 (v := .slice p (n) c) rfl (k_pt 0 (cs := #[.slice p (n) c, .func (.func 41) #[] #[]]) (vs := [.slice p (n) c]) rfl rfl)) ?_
    refine l_nil ?_
    exact f_owes_d (up_cons rfl hs20) rfl (perm_front 0 rfl)
  · rintro f M - ⟨i0, -⟩
    have hs2 : f 2 = Nx (j) := i0
    refine ob_start (L' := M) (by rfl) (up_cons rfl hs2) ?_
    refine l_val (v := Nx (j)) rfl rfl rfl (e_move) ?_
    refine l_nil ?_
    exact f_owes_d (up_cons rfl hs2) rfl (List.Perm.refl _)
  · rintro f M ⟨k0, k1, -⟩ -
    have hs21 : f 21 = .slice p (n) c := k0
    have hs22 : f 22 = Nx (j) := k1
    refine ob_start (L' := rowF MarkF 70 p c xs :: M) (by rfl) (up_cons (up_cons rfl hs21) hs22) ?_
    refine l_val (v := .pointer (some ((ba p).add (j * 3)))) rfl rfl rfl (e_indexFlN 0 (F := MarkF) (j := j) (m := n) (xs := xs) rfl (by omega) rfl tq12 (by omega) rfl) ?_
    refine l_nil ?_
    exact f_owes_d (up_cons (up_cons rfl hs21) hs22) rfl (perm_front 0 rfl)
  · rintro f M ⟨k0, -⟩ -
    have hs23 : f 23 = .pointer (some ((ba p).add (j * 3))) := k0
    refine ob_start (L' := rowF MarkF 70 p c xs :: M) (by rfl) (up_cons rfl hs23) ?_
    refine l_val (v := .agg #[Nx (x3.node), Nx (x3.len), Nx (x3.pts)]) rfl rfl rfl (e_load tq13 (cs := [Nx (x3.node), Nx (x3.len), Nx (x3.pts)]) rfl (k_flAt 0 (F := MarkF) rfl hx4) rfl) ?_
    refine l_nil ?_
    exact f_owes_d (up_cons rfl hs23) rfl (perm_front 0 rfl)
  · rintro f M ⟨k0, k1, k2, -⟩ -
    have hs10 : f 10 = .func (.func 41) #[] #[] := k0
    have hs17 : f 17 = .agg #[Nx (x1.node), Nx (x1.len), Nx (x1.pts)] := k1
    have hs24 : f 24 = .agg #[Nx (x3.node), Nx (x3.len), Nx (x3.pts)] := k2
    refine ob_start (L' := M) (by rfl) (up_cons (up_cons (up_cons rfl hs10) hs17) hs24) ?_
    refine l_call rfl rfl rfl (cl_value (fst := []) (cap := []) (vs := [.agg #[Nx (x1.node), Nx (x1.len), Nx (x1.pts)], .agg #[Nx (x3.node), Nx (x3.len), Nx (x3.pts)]]) (all := [.agg #[Nx (x1.node), Nx (x1.len), Nx (x1.pts)], .agg #[Nx (x3.node), Nx (x3.len), Nx (x3.pts)]]) tq14 rfl rfl rfl) ?_
    intro w hw
    obtain ⟨β1, sb, kn, hw1, back⟩ := St.frame_all hw
    refine (before_ok β1 w hw1 x1 x3).mono ?_
    rintro e w' ⟨rfl, hw'⟩
    refine ⟨_, rfl, _, back _ _ hw', ?_⟩
    clear hw hw1 hw' back kn sb
    refine l_nil ?_
    exact f_owes_d (up_cons (up_cons (up_cons rfl hs10) hs17) hs24) rfl (List.Perm.refl _)
  · rintro f M ⟨k0, -⟩ -
    have hs25 : f 25 = Ix (orI [cmpI (x1.len : Int) (x3.len : Int), cmpI (x1.pts : Int) (x3.pts : Int)]) := k0
    refine ob_start (L' := M) (by rfl) (up_cons rfl hs25) ?_
    refine l_val (v := .bool (decide ((orI [cmpI (x1.len : Int) (x3.len : Int), cmpI (x1.pts : Int) (x3.pts : Int)]) < (0 : Int)))) rfl rfl rfl (e_lss (a := (orI [cmpI (x1.len : Int) (x3.len : Int), cmpI (x1.pts : Int) (x3.pts : Int)])) (b := (0 : Int)) rfl rfl) ?_
    refine l_nil ?_
    exact f_owes_d (up_cons rfl hs25) rfl (List.Perm.refl _)
  · rintro f M ⟨k0, -⟩ -
    have hs26 : f 26 = .bool (decide ((orI [cmpI (x1.len : Int) (x3.len : Int), cmpI (x1.pts : Int) (x3.pts : Int)]) < (0 : Int))) := k0
    refine ob_start (L' := M) (by rfl) (up_cons rfl hs26) ?_
    refine l_val (v := .bool (decide ((orI [cmpI (x1.len : Int) (x3.len : Int), cmpI (x1.pts : Int) (x3.pts : Int)]) < (0 : Int)))) rfl rfl rfl (e_assign) ?_
    refine l_nil ?_
    exact f_owes_d (up_cons rfl hs26) rfl (List.Perm.refl _)
  rintro fa5 ⟨-, -, -, -, -, -, -, -, -, -, -, -, -, -, -, -, -, -, -, -, k20, -⟩ -
  refine f_re (L' := [pt b (.cells #[.slice p (n) c, .func (.func 41) #[] #[]] 98), rowF MarkF 70 p c xs]) (by rfl) ?_
  refine f_rebase (d := 6) (v := .bool (decide ((orI [cmpI (x1.len : Int) (x3.len : Int), cmpI (x1.pts : Int) (x3.pts : Int)]) < (0 : Int)))) k20 ?_
  refine f_then ?_
  refine c_ret ?_
  refine ret1 Tryz.results124 (v := .bool (decide ((orI [cmpI (x1.len : Int) (x3.len : Int), cmpI (x1.pts : Int) (x3.pts : Int)]) < (0 : Int)))) rfl ?_
  intro w hw
  exact ⟨congrArg (fun z : Bool => Ending.returned (.bool z)) (by rw [mAt_of hx2, mAt_of hx4]; exact decide_eq_decide.2 (before_lt x1 x3)), hw⟩
set_option maxHeartbeats 4000000 in
theorem qswap_ok (β : Base) (w : World) (b n : Nat) (p : Option Addr) (c : Nat) (xs : List KM) (hn : xs.length = n) (i j : Nat) (hi : i < n) (hj : j < n) (hw : St β [pt b (.cells #[.slice p (n) c, .func (.func 41) #[] #[]] 98), rowF MarkF 70 p c xs] w) : Calls Tryz.prog 127 #[.pointer (some ⟨b, 0, none⟩), Nx i, Nx j] w fun r w' => r = .returned (.tuple #[]) ∧ St β [pt b (.cells #[.slice p (n) c, .func (.func 41) #[] #[]] 98), rowF MarkF 70 p c (swp xs i j)] w' := by
  refine enter (n := 32) Tryz.func127 rfl Tryz.ntmps127 rfl ?_ hw
  obtain ⟨x1, hx2⟩ : ∃ x_, xs[j]? = some x_ := ⟨_, List.getElem?_eq_getElem (by omega)⟩
  obtain ⟨x3, hx4⟩ : ∃ x_, xs[i]? = some x_ := ⟨_, List.getElem?_eq_getElem (by omega)⟩
  refine c_any [⟨[], [], [0], [6], fun f => f 6 = .pointer (some ⟨b, 0, none⟩)⟩, ⟨[0], [0], [], [7], fun f => f 7 = .pointer (some ⟨b, 0, none⟩)⟩, ⟨[0, 1], [1], [], [8], fun f => f 8 = .pointer (some ⟨b, 0, none⟩)⟩, ⟨[0, 1, 2], [2], [], [9], fun f => f 9 = .slice p (n) c⟩, ⟨[], [], [1], [10], fun f => f 10 = Nx (i)⟩, ⟨[], [], [0], [11], fun f => f 11 = .pointer (some ⟨b, 0, none⟩)⟩, ⟨[5], [5], [], [12], fun f => f 12 = .pointer (some ⟨b, 0, none⟩)⟩, ⟨[5, 6], [6], [], [13], fun f => f 13 = .pointer (some ⟨b, 0, none⟩)⟩, ⟨[5, 6, 7], [7], [], [14], fun f => f 14 = .slice p (n) c⟩, ⟨[], [], [2], [15], fun f => f 15 = Nx (j)⟩, ⟨[], [], [0], [16], fun f => f 16 = .pointer (some ⟨b, 0, none⟩)⟩, ⟨[10], [10], [], [17], fun f => f 17 = .pointer (some ⟨b, 0, none⟩)⟩, ⟨[10, 11], [11], [], [18], fun f => f 18 = .pointer (some ⟨b, 0, none⟩)⟩, ⟨[10, 11, 12], [12], [], [19], fun f => f 19 = .slice p (n) c⟩, ⟨[], [], [2], [20], fun f => f 20 = Nx (j)⟩, ⟨[10, 11, 12, 13, 14], [13, 14], [], [21], fun f => f 21 = .pointer (some ((ba p).add (j * 3)))⟩, ⟨[10, 11, 12, 13, 14, 15], [15], [], [22], fun f => f 22 = .agg #[Nx (x1.node), Nx (x1.len), Nx (x1.pts)]⟩, ⟨[], [], [0], [23], fun f => f 23 = .pointer (some ⟨b, 0, none⟩)⟩, ⟨[17], [17], [], [24], fun f => f 24 = .pointer (some ⟨b, 0, none⟩)⟩, ⟨[17, 18], [18], [], [25], fun f => f 25 = .pointer (some ⟨b, 0, none⟩)⟩, ⟨[17, 18, 19], [19], [], [26], fun f => f 26 = .slice p (n) c⟩, ⟨[], [], [1], [27], fun f => f 27 = Nx (i)⟩, ⟨[17, 18, 19, 20, 21], [20, 21], [], [28], fun f => f 28 = .pointer (some ((ba p).add (i * 3)))⟩, ⟨[17, 18, 19, 20, 21, 22], [22], [], [29], fun f => f 29 = .agg #[Nx (x3.node), Nx (x3.len), Nx (x3.pts)]⟩, ⟨[0, 1, 2, 3, 4, 5, 6, 7, 8, 10, 11, 12, 13, 14, 15, 16, 17, 18, 19, 20, 21, 22, 23], [3, 4], [], [30], fun f => f 30 = .pointer (some ((ba p).add (i * 3)))⟩, ⟨[0, 1, 2, 3, 4, 5, 6, 7, 8, 10, 11, 12, 13, 14, 15, 16, 17, 18, 19, 20, 21, 22, 23, 24], [24, 16], [], [], fun _ => True⟩, ⟨[0, 1, 2, 3, 4, 5, 6, 7, 8, 9, 10, 11, 12, 13, 14, 15, 16, 17, 18, 19, 20, 21, 22, 23, 24, 25], [8, 9], [], [31], fun f => f 31 = .pointer (some ((ba p).add (j * 3)))⟩, ⟨[0, 1, 2, 3, 4, 5, 6, 7, 8, 9, 10, 11, 12, 13, 14, 15, 16, 17, 18, 19, 20, 21, 22, 23, 24, 25, 26], [26, 23], [], [], fun _ => True⟩] [⟨none, none, [3, 8, 13, 20], [], fun _ => pt b (.cells #[.slice p (n) c, .func (.func 41) #[] #[]] 98)⟩, ⟨none, (some 25), [15, 16, 22, 23, 24, 25], [], fun _ => rowF MarkF 70 p c xs⟩, ⟨(some 25), (some 27), [26, 27], [], fun _ => rowF MarkF 70 p c (xs.set i x1)⟩, ⟨(some 27), none, [], [], fun _ => rowF MarkF 70 p c ((xs.set i x1).set j x3)⟩] [(0, .pointer (some ⟨b, 0, none⟩)), (1, Nx (i)), (2, Nx (j))] [] [] (by kernel_rfl) (by kernel_rfl) (by kernel_rfl) (by kernel_rfl) rfl ⟨rfl, rfl, rfl, trivial⟩ ⟨?_, ?_, ?_, ?_, ?_, ?_, ?_, ?_, ?_, ?_, ?_, ?_, ?_, ?_, ?_, ?_, ?_, ?_, ?_, ?_, ?_, ?_, ?_, ?_, ?_, ?_, ?_, ?_, trivial⟩ ?_
  · rintro f M - ⟨i0, -⟩
    have hs0 : f 0 = .pointer (some ⟨b, 0, none⟩) := i0
    refine ob_start (L' := M) (by rfl) (up_cons rfl hs0) ?_
    refine l_val (v := .pointer (some ⟨b, 0, none⟩)) rfl rfl rfl (e_move) ?_
    refine l_nil ?_
    exact f_owes_d (up_cons rfl hs0) rfl (List.Perm.refl _)
  · rintro f M ⟨k0, -⟩ -
    have hs6 : f 6 = .pointer (some ⟨b, 0, none⟩) := k0
    refine ob_start (L' := M) (by rfl) (up_cons rfl hs6) ?_
    refine l_val (v := .pointer (some ⟨b, 0, none⟩)) rfl rfl rfl (e_nil (a := ⟨b, 0, none⟩) rfl) ?_
    refine l_nil ?_
    exact f_owes_d (up_cons rfl hs6) rfl (List.Perm.refl _)
  · rintro f M ⟨k0, -⟩ -
    have hs7 : f 7 = .pointer (some ⟨b, 0, none⟩) := k0
    refine ob_start (L' := M) (by rfl) (up_cons rfl hs7) ?_
    refine l_val (v := .pointer (some ⟨b, 0, none⟩)) rfl rfl rfl (e_fieldPt (b := b) (o := 0) rfl tq7) ?_
    refine l_nil ?_
    exact f_owes_d (up_cons rfl hs7) rfl (List.Perm.refl _)
  · rintro f M ⟨k0, -⟩ -
    have hs8 : f 8 = .pointer (some ⟨b, 0, none⟩) := k0
    refine ob_start (L' := pt b (.cells #[.slice p (n) c, .func (.func 41) #[] #[]] 98) :: M) (by rfl) (up_cons rfl hs8) ?_
    refine l_val (v := .slice p (n) c) rfl rfl rfl (e_load1 tq8 (v := .slice p (n) c) rfl (k_pt 0 (cs := #[.slice p (n) c, .func (.func 41) #[] #[]]) (vs := [.slice p (n) c]) rfl rfl)) ?_
    refine l_nil ?_
    exact f_owes_d (up_cons rfl hs8) rfl (perm_front 0 rfl)
  · rintro f M - ⟨i0, -⟩
    have hs1 : f 1 = Nx (i) := i0
    refine ob_start (L' := M) (by rfl) (up_cons rfl hs1) ?_
    refine l_val (v := Nx (i)) rfl rfl rfl (e_move) ?_
    refine l_nil ?_
    exact f_owes_d (up_cons rfl hs1) rfl (List.Perm.refl _)
  · rintro f M - ⟨i0, -⟩
    have hs0 : f 0 = .pointer (some ⟨b, 0, none⟩) := i0
    refine ob_start (L' := M) (by rfl) (up_cons rfl hs0) ?_
    refine l_val (v := .pointer (some ⟨b, 0, none⟩)) rfl rfl rfl (e_move) ?_
    refine l_nil ?_
    exact f_owes_d (up_cons rfl hs0) rfl (List.Perm.refl _)
  · rintro f M ⟨k0, -⟩ -
    have hs11 : f 11 = .pointer (some ⟨b, 0, none⟩) := k0
    refine ob_start (L' := M) (by rfl) (up_cons rfl hs11) ?_
    refine l_val (v := .pointer (some ⟨b, 0, none⟩)) rfl rfl rfl (e_nil (a := ⟨b, 0, none⟩) rfl) ?_
    refine l_nil ?_
    exact f_owes_d (up_cons rfl hs11) rfl (List.Perm.refl _)
  · rintro f M ⟨k0, -⟩ -
    have hs12 : f 12 = .pointer (some ⟨b, 0, none⟩) := k0
    refine ob_start (L' := M) (by rfl) (up_cons rfl hs12) ?_
    refine l_val (v := .pointer (some ⟨b, 0, none⟩)) rfl rfl rfl (e_fieldPt (b := b) (o := 0) rfl tq7) ?_
    refine l_nil ?_
    exact f_owes_d (up_cons rfl hs12) rfl (List.Perm.refl _)
  · rintro f M ⟨k0, -⟩ -
    have hs13 : f 13 = .pointer (some ⟨b, 0, none⟩) := k0
    refine ob_start (L' := pt b (.cells #[.slice p (n) c, .func (.func 41) #[] #[]] 98) :: M) (by rfl) (up_cons rfl hs13) ?_
    refine l_val (v := .slice p (n) c) rfl rfl rfl (e_load1 tq8 (v := .slice p (n) c) rfl (k_pt 0 (cs := #[.slice p (n) c, .func (.func 41) #[] #[]]) (vs := [.slice p (n) c]) rfl rfl)) ?_
    refine l_nil ?_
    exact f_owes_d (up_cons rfl hs13) rfl (perm_front 0 rfl)
  · rintro f M - ⟨i0, -⟩
    have hs2 : f 2 = Nx (j) := i0
    refine ob_start (L' := M) (by rfl) (up_cons rfl hs2) ?_
    refine l_val (v := Nx (j)) rfl rfl rfl (e_move) ?_
    refine l_nil ?_
    exact f_owes_d (up_cons rfl hs2) rfl (List.Perm.refl _)
  · rintro f M - ⟨i0, -⟩
    have hs0 : f 0 = .pointer (some ⟨b, 0, none⟩) := i0
    refine ob_start (L' := M) (by rfl) (up_cons rfl hs0) ?_
    refine l_val (v := .pointer (some ⟨b, 0, none⟩)) rfl rfl rfl (e_move) ?_
    refine l_nil ?_
    exact f_owes_d (up_cons rfl hs0) rfl (List.Perm.refl _)
  · rintro f M ⟨k0, -⟩ -
    have hs16 : f 16 = .pointer (some ⟨b, 0, none⟩) := k0
    refine ob_start (L' := M) (by rfl) (up_cons rfl hs16) ?_
    refine l_val (v := .pointer (some ⟨b, 0, none⟩)) rfl rfl rfl (e_nil (a := ⟨b, 0, none⟩) rfl) ?_
    refine l_nil ?_
    exact f_owes_d (up_cons rfl hs16) rfl (List.Perm.refl _)
  · rintro f M ⟨k0, -⟩ -
    have hs17 : f 17 = .pointer (some ⟨b, 0, none⟩) := k0
    refine ob_start (L' := M) (by rfl) (up_cons rfl hs17) ?_
    refine l_val (v := .pointer (some ⟨b, 0, none⟩)) rfl rfl rfl (e_fieldPt (b := b) (o := 0) rfl tq7) ?_
    refine l_nil ?_
    exact f_owes_d (up_cons rfl hs17) rfl (List.Perm.refl _)
  · rintro f M ⟨k0, -⟩ -
    have hs18 : f 18 = .pointer (some ⟨b, 0, none⟩) := k0
    refine ob_start (L' := pt b (.cells #[.slice p (n) c, .func (.func 41) #[] #[]] 98) :: M) (by rfl) (up_cons rfl hs18) ?_
    refine l_val (v := .slice p (n) c) rfl rfl rfl (e_load1 tq8 (v := .slice p (n) c) rfl (k_pt 0 (cs := #[.slice p (n) c, .func (.func 41) #[] #[]]) (vs := [.slice p (n) c]) rfl rfl)) ?_
    refine l_nil ?_
    exact f_owes_d (up_cons rfl hs18) rfl (perm_front 0 rfl)
  · rintro f M - ⟨i0, -⟩
    have hs2 : f 2 = Nx (j) := i0
    refine ob_start (L' := M) (by rfl) (up_cons rfl hs2) ?_
    refine l_val (v := Nx (j)) rfl rfl rfl (e_move) ?_
    refine l_nil ?_
    exact f_owes_d (up_cons rfl hs2) rfl (List.Perm.refl _)
  · rintro f M ⟨k0, k1, -⟩ -
    have hs19 : f 19 = .slice p (n) c := k0
    have hs20 : f 20 = Nx (j) := k1
    refine ob_start (L' := rowF MarkF 70 p c xs :: M) (by rfl) (up_cons (up_cons rfl hs19) hs20) ?_
    refine l_val (v := .pointer (some ((ba p).add (j * 3)))) rfl rfl rfl (e_indexFlN 0 (F := MarkF) (j := j) (m := n) (xs := xs) rfl (by omega) rfl tq12 (by omega) rfl) ?_
    refine l_nil ?_
    exact f_owes_d (up_cons (up_cons rfl hs19) hs20) rfl (perm_front 0 rfl)
  · rintro f M ⟨k0, -⟩ -
    have hs21 : f 21 = .pointer (some ((ba p).add (j * 3))) := k0
    refine ob_start (L' := rowF MarkF 70 p c xs :: M) (by rfl) (up_cons rfl hs21) ?_
    refine l_val (v := .agg #[Nx (x1.node), Nx (x1.len), Nx (x1.pts)]) rfl rfl rfl (e_load tq13 (cs := [Nx (x1.node), Nx (x1.len), Nx (x1.pts)]) rfl (k_flAt 0 (F := MarkF) rfl hx2) rfl) ?_
    refine l_nil ?_
    exact f_owes_d (up_cons rfl hs21) rfl (perm_front 0 rfl)
  · rintro f M - ⟨i0, -⟩
    have hs0 : f 0 = .pointer (some ⟨b, 0, none⟩) := i0
    refine ob_start (L' := M) (by rfl) (up_cons rfl hs0) ?_
    refine l_val (v := .pointer (some ⟨b, 0, none⟩)) rfl rfl rfl (e_move) ?_
    refine l_nil ?_
    exact f_owes_d (up_cons rfl hs0) rfl (List.Perm.refl _)
  · rintro f M ⟨k0, -⟩ -
    have hs23 : f 23 = .pointer (some ⟨b, 0, none⟩) := k0
    refine ob_start (L' := M) (by rfl) (up_cons rfl hs23) ?_
    refine l_val (v := .pointer (some ⟨b, 0, none⟩)) rfl rfl rfl (e_nil (a := ⟨b, 0, none⟩) rfl) ?_
    refine l_nil ?_
    exact f_owes_d (up_cons rfl hs23) rfl (List.Perm.refl _)
  · rintro f M ⟨k0, -⟩ -
    have hs24 : f 24 = .pointer (some ⟨b, 0, none⟩) := k0
    refine ob_start (L' := M) (by rfl) (up_cons rfl hs24) ?_
    refine l_val (v := .pointer (some ⟨b, 0, none⟩)) rfl rfl rfl (e_fieldPt (b := b) (o := 0) rfl tq7) ?_
    refine l_nil ?_
    exact f_owes_d (up_cons rfl hs24) rfl (List.Perm.refl _)
  · rintro f M ⟨k0, -⟩ -
    have hs25 : f 25 = .pointer (some ⟨b, 0, none⟩) := k0
    refine ob_start (L' := pt b (.cells #[.slice p (n) c, .func (.func 41) #[] #[]] 98) :: M) (by rfl) (up_cons rfl hs25) ?_
    refine l_val (v := .slice p (n) c) rfl rfl rfl (e_load1 tq8 (v := .slice p (n) c) rfl (k_pt 0 (cs := #[.slice p (n) c, .func (.func 41) #[] #[]]) (vs := [.slice p (n) c]) rfl rfl)) ?_
    refine l_nil ?_
    exact f_owes_d (up_cons rfl hs25) rfl (perm_front 0 rfl)
  · rintro f M - ⟨i0, -⟩
    have hs1 : f 1 = Nx (i) := i0
    refine ob_start (L' := M) (by rfl) (up_cons rfl hs1) ?_
    refine l_val (v := Nx (i)) rfl rfl rfl (e_move) ?_
    refine l_nil ?_
    exact f_owes_d (up_cons rfl hs1) rfl (List.Perm.refl _)
  · rintro f M ⟨k0, k1, -⟩ -
    have hs26 : f 26 = .slice p (n) c := k0
    have hs27 : f 27 = Nx (i) := k1
    refine ob_start (L' := rowF MarkF 70 p c xs :: M) (by rfl) (up_cons (up_cons rfl hs26) hs27) ?_
    refine l_val (v := .pointer (some ((ba p).add (i * 3)))) rfl rfl rfl (e_indexFlN 0 (F := MarkF) (j := i) (m := n) (xs := xs) rfl (by omega) rfl tq12 (by omega) rfl) ?_
    refine l_nil ?_
    exact f_owes_d (up_cons (up_cons rfl hs26) hs27) rfl (perm_front 0 rfl)
  · rintro f M ⟨k0, -⟩ -
    have hs28 : f 28 = .pointer (some ((ba p).add (i * 3))) := k0
    refine ob_start (L' := rowF MarkF 70 p c xs :: M) (by rfl) (up_cons rfl hs28) ?_
    refine l_val (v := .agg #[Nx (x3.node), Nx (x3.len), Nx (x3.pts)]) rfl rfl rfl (e_load tq13 (cs := [Nx (x3.node), Nx (x3.len), Nx (x3.pts)]) rfl (k_flAt 0 (F := MarkF) rfl hx4) rfl) ?_
    refine l_nil ?_
    exact f_owes_d (up_cons rfl hs28) rfl (perm_front 0 rfl)
  · rintro f M ⟨k0, k1, -⟩ -
    have hs9 : f 9 = .slice p (n) c := k0
    have hs10 : f 10 = Nx (i) := k1
    refine ob_start (L' := rowF MarkF 70 p c xs :: M) (by rfl) (up_cons (up_cons rfl hs9) hs10) ?_
    refine l_val (v := .pointer (some ((ba p).add (i * 3)))) rfl rfl rfl (e_indexFlN 0 (F := MarkF) (j := i) (m := n) (xs := xs) rfl (by omega) rfl tq12 (by omega) rfl) ?_
    refine l_nil ?_
    exact f_owes_d (up_cons (up_cons rfl hs9) hs10) rfl (perm_front 0 rfl)
  · rintro f M ⟨k0, k1, -⟩ -
    have hs30 : f 30 = .pointer (some ((ba p).add (i * 3))) := k0
    have hs22 : f 22 = .agg #[Nx (x1.node), Nx (x1.len), Nx (x1.pts)] := k1
    refine ob_start (L' := rowF MarkF 70 p c xs :: M) (by rfl) (up_cons (up_cons rfl hs30) hs22) ?_
    refine l_mu rfl rfl (m_storeFl 0 (F := MarkF) (p := p) (k := i) (xs := xs) (z := x1) tq13 rfl rfl rfl rfl (by omega)) ?_
    refine l_nil ?_
    exact f_owes_n (up_cons (up_cons rfl hs30) hs22) trivial (perm_front 0 rfl)
  · rintro f M ⟨k0, k1, -⟩ -
    have hs14 : f 14 = .slice p (n) c := k0
    have hs15 : f 15 = Nx (j) := k1
    refine ob_start (L' := rowF MarkF 70 p c (xs.set i x1) :: M) (by rfl) (up_cons (up_cons rfl hs14) hs15) ?_
    refine l_val (v := .pointer (some ((ba p).add (j * 3)))) rfl rfl rfl (e_indexFlN 0 (F := MarkF) (j := j) (m := n) (xs := (xs.set i x1)) rfl (by simp only [List.length_set] <;> omega) rfl tq12 (by omega) rfl) ?_
    refine l_nil ?_
    exact f_owes_d (up_cons (up_cons rfl hs14) hs15) rfl (perm_front 0 rfl)
  · rintro f M ⟨k0, k1, -⟩ -
    have hs31 : f 31 = .pointer (some ((ba p).add (j * 3))) := k0
    have hs29 : f 29 = .agg #[Nx (x3.node), Nx (x3.len), Nx (x3.pts)] := k1
    refine ob_start (L' := rowF MarkF 70 p c (xs.set i x1) :: M) (by rfl) (up_cons (up_cons rfl hs31) hs29) ?_
    refine l_mu rfl rfl (m_storeFl 0 (F := MarkF) (p := p) (k := j) (xs := (xs.set i x1)) (z := x3) tq13 rfl rfl rfl rfl (by rw [List.length_set]; omega)) ?_
    refine l_nil ?_
    exact f_owes_n (up_cons (up_cons rfl hs31) hs29) trivial (perm_front 0 rfl)
  rintro fa5 ⟨-, -, -, -, -, -, -, -, -, -, -, -, -, -, -, -, -, -, -, -, -, -, -, -, -, -, -, -, -⟩ -
  refine f_re (L' := [pt b (.cells #[.slice p (n) c, .func (.func 41) #[] #[]] 98), rowF MarkF 70 p c ((xs.set i x1).set j x3)]) (by rfl) ?_
  refine end0 Tryz.results127 ?_
  intro w hw
  exact ⟨rfl, by rw [swp_eq hx4 hx2]; exact hw⟩
set_option maxHeartbeats 4000000 in
theorem qpush_ok (β : Base) (w : World) (b n : Nat) (p : Option Addr) (c : Nat) (xs : List KM) (hn : xs.length = n) (hb : n ≤ 1099511627776) (x : KM) (hw : St β [pt b (.cells #[.slice p (n) c, .func (.func 41) #[] #[]] 98), rowF MarkF 70 p c xs] w) : Calls Tryz.prog 126 #[.pointer (some ⟨b, 0, none⟩), .iface 70 (.agg #[Nx (x.node), Nx (x.len), Nx (x.pts)])] w fun r w' => r = .returned (.tuple #[]) ∧ ∃ p c, St β [pt b (.cells #[.slice p (n + 1) c, .func (.func 41) #[] #[]] 98), rowF MarkF 70 p c (xs ++ [x])] w' := by
  refine enter (n := 15) Tryz.func126 rfl Tryz.ntmps126 rfl ?_ hw
  refine c_any [⟨[], [], [0], [4], fun f => f 4 = .pointer (some ⟨b, 0, none⟩)⟩, ⟨[], [], [0], [5], fun f => f 5 = .pointer (some ⟨b, 0, none⟩)⟩, ⟨[1], [1], [], [6], fun f => f 6 = .pointer (some ⟨b, 0, none⟩)⟩, ⟨[1, 2], [2], [], [7], fun f => f 7 = .pointer (some ⟨b, 0, none⟩)⟩, ⟨[1, 2, 3], [3], [], [8], fun f => f 8 = .slice p (n) c⟩, ⟨[], [], [1], [9], fun f => f 9 = .iface 70 (.agg #[Nx (x.node), Nx (x.len), Nx (x.pts)])⟩, ⟨[5], [5], [], [10], fun f => f 10 = .agg #[Nx (x.node), Nx (x.len), Nx (x.pts)]⟩, ⟨[5, 6], [6], [], [11], fun f => f 11 = .slice (some ⟨(blk (f 11)), 0, none⟩) 1 1⟩, ⟨[1, 2, 3, 4, 5, 6, 7], [4, 7], [], [12], fun f => f 12 = .slice (sla (f 12)) ((xs ++ [x]).length) (slc (f 12))⟩, ⟨[0, 1, 2, 3, 4, 5, 6, 7, 8], [0], [], [13], fun f => f 13 = .pointer (some ⟨b, 0, none⟩)⟩, ⟨[0, 1, 2, 3, 4, 5, 6, 7, 8, 9], [9], [], [14], fun f => f 14 = .pointer (some ⟨b, 0, none⟩)⟩, ⟨[0, 1, 2, 3, 4, 5, 6, 7, 8, 9, 10], [10, 8], [], [], fun _ => True⟩] [⟨none, (some 11), [4, 11], [], fun _ => pt b (.cells #[.slice p (n) c, .func (.func 41) #[] #[]] 98)⟩, ⟨none, (some 8), [8], [], fun _ => rowF MarkF 70 p c xs⟩, ⟨(some 7), none, [8], [11], fun f => pt (blk (f 11)) (.cells #[Nx (x.node), Nx (x.len), Nx (x.pts)] 70)⟩, ⟨(some 8), none, [], [12], fun f => rowF MarkF 70 (sla (f 12)) (slc (f 12)) (xs ++ [x])⟩, ⟨(some 11), none, [], [12], fun f => pt b (.cells #[.slice (sla (f 12)) ((xs ++ [x]).length) (slc (f 12)), .func (.func 41) #[] #[]] 98)⟩] [(0, .pointer (some ⟨b, 0, none⟩)), (1, .iface 70 (.agg #[Nx (x.node), Nx (x.len), Nx (x.pts)]))] [] [] (by kernel_rfl) (by kernel_rfl) (by kernel_rfl) (by kernel_rfl) rfl ⟨rfl, rfl, trivial⟩ ⟨?_, ?_, ?_, ?_, ?_, ?_, ?_, ?_, ?_, ?_, ?_, ?_, trivial⟩ ?_
  · rintro f M - ⟨i0, -⟩
    have hs0 : f 0 = .pointer (some ⟨b, 0, none⟩) := i0
    refine ob_start (L' := M) (by rfl) (up_cons rfl hs0) ?_
    refine l_val (v := .pointer (some ⟨b, 0, none⟩)) rfl rfl rfl (e_move) ?_
    refine l_nil ?_
    exact f_owes_d (up_cons rfl hs0) rfl (List.Perm.refl _)
  · rintro f M - ⟨i0, -⟩
    have hs0 : f 0 = .pointer (some ⟨b, 0, none⟩) := i0
    refine ob_start (L' := M) (by rfl) (up_cons rfl hs0) ?_
    refine l_val (v := .pointer (some ⟨b, 0, none⟩)) rfl rfl rfl (e_move) ?_
    refine l_nil ?_
    exact f_owes_d (up_cons rfl hs0) rfl (List.Perm.refl _)
  · rintro f M ⟨k0, -⟩ -
    have hs5 : f 5 = .pointer (some ⟨b, 0, none⟩) := k0
    refine ob_start (L' := M) (by rfl) (up_cons rfl hs5) ?_
    refine l_val (v := .pointer (some ⟨b, 0, none⟩)) rfl rfl rfl (e_nil (a := ⟨b, 0, none⟩) rfl) ?_
    refine l_nil ?_
    exact f_owes_d (up_cons rfl hs5) rfl (List.Perm.refl _)
  · rintro f M ⟨k0, -⟩ -
    have hs6 : f 6 = .pointer (some ⟨b, 0, none⟩) := k0
    refine ob_start (L' := M) (by rfl) (up_cons rfl hs6) ?_
    refine l_val (v := .pointer (some ⟨b, 0, none⟩)) rfl rfl rfl (e_fieldPt (b := b) (o := 0) rfl tq7) ?_
    refine l_nil ?_
    exact f_owes_d (up_cons rfl hs6) rfl (List.Perm.refl _)
  · rintro f M ⟨k0, -⟩ -
    have hs7 : f 7 = .pointer (some ⟨b, 0, none⟩) := k0
    refine ob_start (L' := pt b (.cells #[.slice p (n) c, .func (.func 41) #[] #[]] 98) :: M) (by rfl) (up_cons rfl hs7) ?_
    refine l_val (v := .slice p (n) c) rfl rfl rfl (e_load1 tq8 (v := .slice p (n) c) rfl (k_pt 0 (cs := #[.slice p (n) c, .func (.func 41) #[] #[]]) (vs := [.slice p (n) c]) rfl rfl)) ?_
    refine l_nil ?_
    exact f_owes_d (up_cons rfl hs7) rfl (perm_front 0 rfl)
  · rintro f M - ⟨i0, -⟩
    have hs1 : f 1 = .iface 70 (.agg #[Nx (x.node), Nx (x.len), Nx (x.pts)]) := i0
    refine ob_start (L' := M) (by rfl) (up_cons rfl hs1) ?_
    refine l_val (v := .iface 70 (.agg #[Nx (x.node), Nx (x.len), Nx (x.pts)])) rfl rfl rfl (e_move) ?_
    refine l_nil ?_
    exact f_owes_d (up_cons rfl hs1) rfl (List.Perm.refl _)
  · rintro f M ⟨k0, -⟩ -
    have hs9 : f 9 = .iface 70 (.agg #[Nx (x.node), Nx (x.len), Nx (x.pts)]) := k0
    refine ob_start (L' := M) (by rfl) (up_cons rfl hs9) ?_
    refine l_val (v := .agg #[Nx (x.node), Nx (x.len), Nx (x.pts)]) rfl rfl rfl (e_asrt (v := .agg #[Nx (x.node), Nx (x.len), Nx (x.pts)]) rfl tq15) ?_
    refine l_nil ?_
    exact f_owes_d (up_cons rfl hs9) rfl (List.Perm.refl _)
  · rintro f M ⟨k0, -⟩ -
    have hs10 : f 10 = .agg #[Nx (x.node), Nx (x.len), Nx (x.pts)] := k0
    refine ob_start (L' := M) (by rfl) (up_cons rfl hs10) ?_
    refine l_mv rfl rfl rfl (m_slices tq12 tq16 (vs := [(0, .agg #[Nx (x.node), Nx (x.len), Nx (x.pts)])]) (cells := #[Nx (x.node), Nx (x.len), Nx (x.pts)]) rfl rfl rfl rfl) ?_
    rintro _ _ ⟨b2, rfl, rfl⟩
    refine l_nil ?_
    exact f_owes_d (up_cons rfl hs10) rfl (perm_front 0 rfl)
  · rintro f M ⟨k0, k1, -⟩ -
    have hs8 : f 8 = .slice p (n) c := k0
    have hs11 : f 11 = .slice (some ⟨(blk (f 11)), 0, none⟩) 1 1 := k1
    refine ob_start (L' := rowF MarkF 70 p c xs :: pt (blk (f 11)) (.cells #[Nx (x.node), Nx (x.len), Nx (x.pts)] 70) :: M) (by rfl) (up_cons (up_cons rfl hs8) hs11) ?_
    refine l_mv rfl rfl rfl (m_appendFlN (F := MarkF) 0 tq12 tq17 (p := p) (m := n) (xs := xs) (ys := [x]) (ao := (some ⟨(blk (f 11)), 0, none⟩)) (k := 1) (c := 1) rfl (by omega) rfl rfl rfl (k_ptFl (z := x) 1 rfl rfl) (by first | omega | simp only [List.length_nil, List.length_cons, List.length_append, List.length_set]; omega) (by first | omega | simp only [List.length_nil, List.length_cons, List.length_append, List.length_set]; omega)) ?_
    rintro _ _ ⟨rp5, rc6, rfl, rfl⟩
    refine l_nil ?_
    exact f_owes_d (up_cons (up_cons rfl hs8) hs11) rfl ((perm_front 0 rfl).trans (perm_front 1 rfl))
  · rintro f M ⟨k0, -⟩ -
    have hs4 : f 4 = .pointer (some ⟨b, 0, none⟩) := k0
    refine ob_start (L' := M) (by rfl) (up_cons rfl hs4) ?_
    refine l_val (v := .pointer (some ⟨b, 0, none⟩)) rfl rfl rfl (e_nil (a := ⟨b, 0, none⟩) rfl) ?_
    refine l_nil ?_
    exact f_owes_d (up_cons rfl hs4) rfl (List.Perm.refl _)
  · rintro f M ⟨k0, -⟩ -
    have hs13 : f 13 = .pointer (some ⟨b, 0, none⟩) := k0
    refine ob_start (L' := M) (by rfl) (up_cons rfl hs13) ?_
    refine l_val (v := .pointer (some ⟨b, 0, none⟩)) rfl rfl rfl (e_fieldPt (b := b) (o := 0) rfl tq7) ?_
    refine l_nil ?_
    exact f_owes_d (up_cons rfl hs13) rfl (List.Perm.refl _)
  · rintro f M ⟨k0, k1, -⟩ -
    have hs14 : f 14 = .pointer (some ⟨b, 0, none⟩) := k0
    have hs12 : f 12 = .slice (sla (f 12)) ((xs ++ [x]).length) (slc (f 12)) := k1
    refine ob_start (L' := pt b (.cells #[.slice p (n) c, .func (.func 41) #[] #[]] 98) :: M) (by rfl) (up_cons (up_cons rfl hs14) hs12) ?_
    refine l_mu rfl rfl (m_store 0 tq8 (b := b) (o := 0) (T := 98) (cs := #[.slice p (n) c, .func (.func 41) #[] #[]]) (cs' := #[.slice (sla (f 12)) ((xs ++ [x]).length) (slc (f 12)), .func (.func 41) #[] #[]]) (v := .slice (sla (f 12)) ((xs ++ [x]).length) (slc (f 12))) rfl rfl rfl rfl rfl rfl rfl) ?_
    refine l_nil ?_
    exact f_owes_n (up_cons (up_cons rfl hs14) hs12) trivial (perm_front 0 rfl)
  rintro fa7 ⟨-, -, -, -, -, -, -, -, -, -, -, -, -⟩ -
  refine f_re (L' := [pt (blk (fa7 11)) (.cells #[Nx (x.node), Nx (x.len), Nx (x.pts)] 70), rowF MarkF 70 (sla (fa7 12)) (slc (fa7 12)) (xs ++ [x]), pt b (.cells #[.slice (sla (fa7 12)) ((xs ++ [x]).length) (slc (fa7 12)), .func (.func 41) #[] #[]] 98)]) (by rfl) ?_
  refine end0 Tryz.results126 ?_
  intro w hw
  replace hw := hw.perm (L' := [pt b (.cells #[.slice (sla (fa7 12)) ((xs ++ [x]).length) (slc (fa7 12)), .func (.func 41) #[] #[]] 98), rowF MarkF 70 (sla (fa7 12)) (slc (fa7 12)) (xs ++ [x]), pt (blk (fa7 11)) (.cells #[Nx (x.node), Nx (x.len), Nx (x.pts)] 70)]) (by exact (perm_ix [2, 1, 0] 3 rfl (by kernel_rfl) (by kernel_rfl)))
  replace hw := st_mask [true, true, false] rfl hw
  rw [show (xs ++ [x]).length = n + 1 by rw [List.length_append, hn]; rfl] at hw
  exact ⟨rfl, _, _, hw⟩
theorem qpop_ok (β : Base) (w : World) (b m : Nat) (p : Option Addr) (c : Nat) (xs : List KM) (hn : xs.length = m + 1) (hb : m ≤ 1099511627776) (hw : St β [pt b (.cells #[.slice p (m + 1) c, .func (.func 41) #[] #[]] 98), rowF MarkF 70 p c xs] w) : Calls Tryz.prog 125 #[.pointer (some ⟨b, 0, none⟩)] w fun r w' => r = .returned (.iface 70 (.agg #[Nx ((mAt xs m).node), Nx ((mAt xs m).len), Nx ((mAt xs m).pts)])) ∧ St β [pt b (.cells #[.slice p (m) c, .func (.func 41) #[] #[]] 98), rowF MarkF 70 p c (xs.take m)] w' := by
  refine enter (n := 29) Tryz.func125 rfl Tryz.ntmps125 rfl ?_ hw
  refine c_seq ?_
  refine c_rowcap (p := p) (m := xs.length) (c := c) (T := 70) (k := 3) (vs := _) 1 rfl (fun hcap hmaxc => ?_)
  refine c_region ?_
  refine l_val (v := .nilIface) rfl rfl rfl (e_assign) ?_
  refine l_nil ?_
  refine f_then ?_
  refine c_seq ?_
  refine c_region ?_
  refine l_val (v := .pointer (some ⟨b, 0, none⟩)) rfl rfl rfl (e_move) ?_
  refine l_val (v := .pointer (some ⟨b, 0, none⟩)) rfl rfl rfl (e_nil (a := ⟨b, 0, none⟩) rfl) ?_
  refine l_val (v := .pointer (some ⟨b, 0, none⟩)) rfl rfl rfl (e_fieldPt (b := b) (o := 0) rfl tq7) ?_
  refine l_val (v := .slice p (m + 1) c) rfl rfl rfl (e_load1 tq8 (v := .slice p (m + 1) c) rfl (k_pt 0 (cs := #[.slice p (m + 1) c, .func (.func 41) #[] #[]]) (vs := [.slice p (m + 1) c]) rfl rfl)) ?_
  refine l_val (v := Nx (m + 1)) rfl rfl rfl (e_len (a := p) (n := m + 1) (c := c) rfl tq9) ?_
  refine l_val (v := Nx (m)) rfl rfl rfl (ev_eq (congrArg (Value.int .i64) (by omega)) (e_sub (a := ((m + 1 : Nat) : Int)) (b := (1 : Int)) rfl rfl (i64w (by omega)))) ?_
  refine l_val (v := Nx (m)) rfl rfl rfl (e_assign) ?_
  refine l_nil ?_
  refine f_then ?_
  refine c_seq ?_
  refine c_region ?_
  refine l_val (v := .pointer (some ⟨b, 0, none⟩)) rfl rfl rfl (e_move) ?_
  refine l_val (v := .pointer (some ⟨b, 0, none⟩)) rfl rfl rfl (e_nil (a := ⟨b, 0, none⟩) rfl) ?_
  refine l_val (v := .pointer (some ⟨b, 0, none⟩)) rfl rfl rfl (e_fieldPt (b := b) (o := 0) rfl tq7) ?_
  refine l_val (v := .slice p (m + 1) c) rfl rfl rfl (e_load1 tq8 (v := .slice p (m + 1) c) rfl (k_pt 0 (cs := #[.slice p (m + 1) c, .func (.func 41) #[] #[]]) (vs := [.slice p (m + 1) c]) rfl rfl)) ?_
  refine l_val (v := Nx (m)) rfl rfl rfl (e_move) ?_
  refine l_val (v := .pointer (some ((ba p).add (m * 3)))) rfl rfl rfl (e_indexFlN 1 (F := MarkF) (j := m) (m := m + 1) (xs := xs) rfl (by omega) rfl tq12 (by omega) rfl) ?_
  obtain ⟨x1, hx2⟩ : ∃ x_, xs[m]? = some x_ := ⟨_, List.getElem?_eq_getElem (by omega)⟩
  refine l_val (v := .agg #[Nx (x1.node), Nx (x1.len), Nx (x1.pts)]) rfl rfl rfl (e_load tq13 (cs := [Nx (x1.node), Nx (x1.len), Nx (x1.pts)]) rfl (k_flAt 1 (F := MarkF) rfl hx2) rfl) ?_
  refine l_mv rfl rfl rfl (m_alloc tq16) ?_
  rintro _ _ ⟨b3, rfl, rfl⟩
  refine l_mu rfl rfl (m_store 0 tq13 (b := b3) (o := 0) (T := 70) (cs := #[.int .i64 (0), .int .i64 (0), .int .i64 (0)]) (cs' := #[Nx (x1.node), Nx (x1.len), Nx (x1.pts)]) (v := .agg #[Nx (x1.node), Nx (x1.len), Nx (x1.pts)]) rfl rfl rfl rfl rfl rfl rfl) ?_
  refine l_nil ?_
  refine f_then ?_
  refine c_seq ?_
  refine c_region ?_
  refine l_val (v := .pointer (some ⟨b, 0, none⟩)) rfl rfl rfl (e_move) ?_
  refine l_val (v := .pointer (some ⟨b, 0, none⟩)) rfl rfl rfl (e_move) ?_
  refine l_val (v := .pointer (some ⟨b, 0, none⟩)) rfl rfl rfl (e_nil (a := ⟨b, 0, none⟩) rfl) ?_
  refine l_val (v := .pointer (some ⟨b, 0, none⟩)) rfl rfl rfl (e_fieldPt (b := b) (o := 0) rfl tq7) ?_
  refine l_val (v := .slice p (m + 1) c) rfl rfl rfl (e_load1 tq8 (v := .slice p (m + 1) c) rfl (k_pt 1 (cs := #[.slice p (m + 1) c, .func (.func 41) #[] #[]]) (vs := [.slice p (m + 1) c]) rfl rfl)) ?_
  refine l_val (v := Nx (m)) rfl rfl rfl (e_move) ?_
  refine l_val (v := .slice p (m) c) rfl rfl rfl (e_slice_hi (a := p) (len := m + 1) (cap := c) (h := m) tq12 rfl rfl (by omega)) ?_
  refine l_val (v := .pointer (some ⟨b, 0, none⟩)) rfl rfl rfl (e_nil (a := ⟨b, 0, none⟩) rfl) ?_
  refine l_val (v := .pointer (some ⟨b, 0, none⟩)) rfl rfl rfl (e_fieldPt (b := b) (o := 0) rfl tq7) ?_
  refine l_mu rfl rfl (m_store 1 tq8 (b := b) (o := 0) (T := 98) (cs := #[.slice p (m + 1) c, .func (.func 41) #[] #[]]) (cs' := #[.slice p (m) c, .func (.func 41) #[] #[]]) (v := .slice p (m) c) rfl rfl rfl rfl rfl rfl rfl) ?_
  refine l_nil ?_
  refine f_then ?_
  refine c_seq ?_
  refine c_region ?_
  refine l_val (v := .agg #[Nx (x1.node), Nx (x1.len), Nx (x1.pts)]) rfl rfl rfl (e_load tq13 (cs := [Nx (x1.node), Nx (x1.len), Nx (x1.pts)]) rfl (k_pt 0 (cs := #[Nx (x1.node), Nx (x1.len), Nx (x1.pts)]) (vs := [Nx (x1.node), Nx (x1.len), Nx (x1.pts)]) rfl rfl) rfl) ?_
  refine l_val (v := .iface 70 (.agg #[Nx (x1.node), Nx (x1.len), Nx (x1.pts)])) rfl rfl rfl (e_mkif (v := .agg #[Nx (x1.node), Nx (x1.len), Nx (x1.pts)]) rfl tq15) ?_
  refine l_val (v := .iface 70 (.agg #[Nx (x1.node), Nx (x1.len), Nx (x1.pts)])) rfl rfl rfl (e_assign) ?_
  refine l_nil ?_
  refine f_then ?_
  refine c_ret ?_
  refine ret1 Tryz.results125 (v := .iface 70 (.agg #[Nx (x1.node), Nx (x1.len), Nx (x1.pts)])) rfl ?_
  intro w hw
  replace hw := hw.perm (L' := [pt b (.cells #[.slice p (m) c, .func (.func 41) #[] #[]] 98), rowF MarkF 70 p c xs, pt b3 (.cells #[Nx (x1.node), Nx (x1.len), Nx (x1.pts)] 70)]) (by exact (perm_ix [1, 2, 0] 3 rfl (by kernel_rfl) (by kernel_rfl)))
  replace hw := st_mask [true, true, false] rfl hw
  exact ⟨by rw [mAt_of hx2], hw.conseq_at 1 rfl fun a h => rowF_take (by omega) h⟩
set_option maxHeartbeats 4000000 in
theorem up_ok (β : Base) (w : World) (b n : Nat) (p : Option Addr) (c : Nat) (xs : List KM) (hn : xs.length = n) (hb : n ≤ 1099511627776) (j : Nat) (hu : UpI xs n j) (hw : St β [pt b (.cells #[.slice p (n) c, .func (.func 41) #[] #[]] 98), rowF MarkF 70 p c xs] w) : Calls Tryz.prog 60 #[.iface 95 (.pointer (some ⟨b, 0, none⟩)), Nx j] w fun r w' => r = .returned (.tuple #[]) ∧ ∃ ys : List KM, ys.length = n ∧ ys.Perm xs ∧ Hp ys n ∧ St β [pt b (.cells #[.slice p (n) c, .func (.func 41) #[] #[]] 98), rowF MarkF 70 p c ys] w' := by
  refine enter (n := 23) Tryz.func60 rfl Tryz.ntmps60 rfl ?_ hw
  refine c_block ?_
  refine c_loop (fun (x_ : Nat × List KM) (f : Fm) (L : List Res) => match x_ with | (i, ys) => (f 0 = .iface 95 (.pointer (some ⟨b, 0, none⟩)) ∧ f 1 = Nx (i)) ∧ L = [pt b (.cells #[.slice p (n) c, .func (.func 41) #[] #[]] 98), rowF MarkF 70 p c ys] ∧ (ys.length = n ∧ ys.Perm xs ∧ UpI ys n i)) (fun (x_ : Nat × List KM) => match x_ with | (i, ys) => i) (j, xs) ?_ ?_
  · exact ⟨⟨rfl, rfl⟩, rfl, ⟨hn, List.Perm.refl _, hu⟩⟩
  rintro ⟨i, ys⟩ f0 L0 ⟨⟨hs0, hs1⟩, hL, ⟨hyl, hyp, hyu⟩⟩
  subst L0
  refine rebase (d := 0) hs0 ?_
  refine rebase (d := 1) hs1 ?_
  clear hs0 hs1
  have hyn := hyu.lt
  refine c_block ?_
  refine c_seq ?_
  refine c_region ?_
  refine l_val (v := Nx (i)) rfl rfl rfl (e_move) ?_
  refine l_val (v := Ix (((i : Nat) : Int) - (1 : Int))) rfl rfl rfl (e_sub (a := ((i : Nat) : Int)) (b := (1 : Int)) rfl rfl (i64w (by omega))) ?_
  refine l_val (v := Nx ((i - 1) / 2)) rfl rfl rfl (e_quo (a := (((i : Nat) : Int) - (1 : Int))) (b := ((2 : Nat) : Int)) rfl rfl (by decide) (i64n (tdiv_half i) (by omega))) ?_
  refine l_val (v := Nx ((i - 1) / 2)) rfl rfl rfl (e_assign) ?_
  refine l_nil ?_
  refine f_then ?_
  refine c_seq ?_
  refine c_seq ?_
  refine c_region ?_
  refine l_val (v := Nx ((i - 1) / 2)) rfl rfl rfl (e_move) ?_
  refine l_val (v := Nx (i)) rfl rfl rfl (e_move) ?_
  refine l_val (v := .bool (decide ((((i - 1) / 2 : Nat) : Int) = ((i : Nat) : Int)))) rfl rfl rfl (e_eql (a := (((i - 1) / 2 : Nat) : Int)) (b := ((i : Nat) : Int)) rfl rfl) ?_
  refine l_val (v := .bool (decide ((((i - 1) / 2 : Nat) : Int) = ((i : Nat) : Int)))) rfl rfl rfl (e_move) ?_
  refine l_split (s := 11) (p := (((i - 1) / 2 : Nat) : Int) = ((i : Nat) : Int)) rfl (fun hg1 => ?_) (fun hg1 => ?_)
  ·
    refine l_skip rfl rfl rfl rfl rfl rfl ?_
    refine l_skip rfl rfl rfl rfl rfl rfl ?_
    refine l_skip rfl rfl rfl rfl rfl rfl ?_
    refine l_skip rfl rfl rfl rfl rfl rfl ?_
    refine l_skip rfl rfl rfl rfl rfl rfl ?_
    refine l_val (v := .bool true) rfl rfl rfl (e_pick_t rfl) ?_
    refine l_nil ?_
    refine f_then ?_
    refine c_yes rfl ?_
    refine c_exit ?_
    refine f_then_exit ?_
    refine f_exit_other rfl ?_
    refine f_then_exit ?_
    refine f_exit ?_
    refine end0 Tryz.results60 ?_
    intro w hw
    exact ⟨rfl, ys, hyl, hyp, hyu.done (.inl (by omega)), hw⟩
  ·
    refine g_val (v := .iface 95 (.pointer (some ⟨b, 0, none⟩))) rfl rfl rfl rfl rfl (e_move) ?_
    refine g_val (v := Nx (i)) rfl rfl rfl rfl rfl (e_move) ?_
    refine g_val (v := Nx ((i - 1) / 2)) rfl rfl rfl rfl rfl (e_move) ?_
    refine g_call rfl rfl rfl rfl rfl (cl_invoke (v := .pointer (some ⟨b, 0, none⟩)) (vs := [Nx (i), Nx ((i - 1) / 2)]) (all := [.pointer (some ⟨b, 0, none⟩), Nx (i), Nx ((i - 1) / 2)]) tq19 rfl rfl rfl) ?_
    intro w hw
    replace hw := hw.perm (L' := _ :: _ :: []) (by exact ((perm_front 1 rfl).trans (perm_front 1 rfl)))
    obtain ⟨β1, sb, kn, hw1, back⟩ := St.frame (L := [_, _]) (M := []) hw
    refine (qless_ok β1 w b n p c ys (by first | assumption | omega | (rw [swp_len]; assumption)) i ((i - 1) / 2) (by omega) (by omega) hw1).mono ?_
    rintro e w' ⟨rfl, hw'⟩
    refine ⟨_, rfl, _, back _ _ hw', ?_⟩
    clear hw hw1 hw' back kn sb
    refine g_val (v := .bool (decide (¬ (¬ leM (mAt ys ((i - 1) / 2)) (mAt ys i))))) rfl rfl rfl rfl rfl (e_not_p (p := ¬ leM (mAt ys ((i - 1) / 2)) (mAt ys i)) rfl) ?_
    refine l_val (v := .bool (decide (¬ (¬ leM (mAt ys ((i - 1) / 2)) (mAt ys i))))) rfl rfl rfl (e_pick_f rfl) ?_
    refine l_nil ?_
    refine f_then ?_
    refine c_if (¬ (¬ leM (mAt ys ((i - 1) / 2)) (mAt ys i))) rfl (fun hc2 => ?_) (fun hc2 => ?_)
    ·
      refine c_exit ?_
      refine f_then_exit ?_
      refine f_exit_other rfl ?_
      refine f_then_exit ?_
      refine f_exit ?_
      refine end0 Tryz.results60 ?_
      intro w hw
      exact ⟨rfl, ys, hyl, hyp, hyu.done (.inr (by have q := hc2; simpa using q)), hw⟩
    ·
      refine c_skip ?_
      refine f_then ?_
      refine c_seq ?_
      refine c_region ?_
      refine l_val (v := .iface 95 (.pointer (some ⟨b, 0, none⟩))) rfl rfl rfl (e_move) ?_
      refine l_val (v := Nx ((i - 1) / 2)) rfl rfl rfl (e_move) ?_
      refine l_val (v := Nx (i)) rfl rfl rfl (e_move) ?_
      refine l_call rfl rfl rfl (cl_invoke (v := .pointer (some ⟨b, 0, none⟩)) (vs := [Nx ((i - 1) / 2), Nx (i)]) (all := [.pointer (some ⟨b, 0, none⟩), Nx ((i - 1) / 2), Nx (i)]) tq21 rfl rfl rfl) ?_
      intro w hw
      replace hw := hw.perm (L' := _ :: _ :: []) (by exact ((perm_front 1 rfl).trans (perm_front 1 rfl)))
      obtain ⟨β1, sb, kn, hw1, back⟩ := St.frame (L := [_, _]) (M := []) hw
      refine (qswap_ok β1 w b n p c ys (by first | assumption | omega | (rw [swp_len]; assumption)) ((i - 1) / 2) i (by omega) (by omega) hw1).mono ?_
      rintro e w' ⟨rfl, hw'⟩
      refine ⟨_, rfl, _, back _ _ hw', ?_⟩
      clear hw hw1 hw' back kn sb
      refine l_nil ?_
      refine f_then ?_
      refine c_region ?_
      refine l_val (v := Nx ((i - 1) / 2)) rfl rfl rfl (e_move) ?_
      refine l_val (v := Nx ((i - 1) / 2)) rfl rfl rfl (e_assign) ?_
      refine l_nil ?_
      refine f_block ?_
      exact f_cut ⟨((i - 1) / 2, (swp ys ((i - 1) / 2) i)), ⟨⟨rfl, rfl⟩, rfl, ⟨by rw [swp_len]; exact hyl, (swp_perm (by omega) (by omega)).trans hyp, hyu.step (by omega) (by have q := hc2; simpa using q)⟩⟩, (show ((i - 1) / 2) < i from by omega)⟩
set_option maxHeartbeats 4000000 in
theorem down_ok (β : Base) (w : World) (b m : Nat) (p : Option Addr) (c : Nat) (xs : List KM) (hn : xs.length = m + 1) (hb : m ≤ 1099511627776) (hu : DnI xs m 0) (hw : St β [pt b (.cells #[.slice p (m + 1) c, .func (.func 41) #[] #[]] 98), rowF MarkF 70 p c xs] w) : Calls Tryz.prog 59 #[.iface 95 (.pointer (some ⟨b, 0, none⟩)), Nx 0, Nx m] w fun r w' => ∃ bb, r = .returned (.bool bb) ∧ ∃ ys : List KM, ys.length = m + 1 ∧ ys.Perm xs ∧ mAt ys m = mAt xs m ∧ Hp ys m ∧ St β [pt b (.cells #[.slice p (m + 1) c, .func (.func 41) #[] #[]] 98), rowF MarkF 70 p c ys] w' := by
  refine enter (n := 48) Tryz.func59 rfl Tryz.ntmps59 rfl ?_ hw
  refine c_seq ?_
  refine c_region ?_
  refine l_val (v := .bool false) rfl rfl rfl (e_assign) ?_
  refine l_nil ?_
  refine f_then ?_
  refine c_seq ?_
  refine c_region ?_
  refine l_val (v := Nx (0)) rfl rfl rfl (e_move) ?_
  refine l_val (v := Nx (0)) rfl rfl rfl (e_assign) ?_
  refine l_nil ?_
  refine f_then ?_
  refine c_seq ?_
  refine c_block ?_
  refine c_loop (fun (x_ : Nat × List KM) (f : Fm) (L : List Res) => match x_ with | (i, ys) => (f 0 = .iface 95 (.pointer (some ⟨b, 0, none⟩)) ∧ f 1 = Nx (0) ∧ f 2 = Nx (m) ∧ f 7 = Nx (i)) ∧ L = [pt b (.cells #[.slice p (m + 1) c, .func (.func 41) #[] #[]] 98), rowF MarkF 70 p c ys] ∧ (i ≤ m ∧ ys.length = m + 1 ∧ ys.Perm xs ∧ mAt ys m = mAt xs m ∧ DnI ys m i)) (fun (x_ : Nat × List KM) => match x_ with | (i, ys) => m - i) (0, xs) ?_ ?_
  · exact ⟨⟨rfl, rfl, rfl, rfl⟩, rfl, ⟨by omega, hn, List.Perm.refl _, rfl, hu⟩⟩
  rintro ⟨i, ys⟩ f0 L0 ⟨⟨hs0, hs1, hs2, hs7⟩, hL, ⟨him, hyl, hyp, hym, hyd⟩⟩
  subst L0
  refine rebase (d := 0) hs0 ?_
  refine rebase (d := 1) hs1 ?_
  refine rebase (d := 2) hs2 ?_
  refine rebase (d := 7) hs7 ?_
  clear hs0 hs1 hs2 hs7
  refine c_block ?_
  refine c_seq ?_
  refine c_region ?_
  refine l_val (v := Nx (i)) rfl rfl rfl (e_move) ?_
  refine l_val (v := Nx (2 * i)) rfl rfl rfl (e_mul (a := (2 : Int)) (b := ((i : Nat) : Int)) rfl rfl (i64n (by omega) (by omega))) ?_
  refine l_val (v := Nx ((2 * i) + 1)) rfl rfl rfl (e_add (a := ((2 * i : Nat) : Int)) (b := (1 : Int)) rfl rfl (i64n (by omega) (by omega))) ?_
  refine l_val (v := Nx ((2 * i) + 1)) rfl rfl rfl (e_assign) ?_
  refine l_nil ?_
  refine f_then ?_
  refine c_seq ?_
  refine c_seq ?_
  refine c_region ?_
  refine l_val (v := Nx ((2 * i) + 1)) rfl rfl rfl (e_move) ?_
  refine l_val (v := Nx (m)) rfl rfl rfl (e_move) ?_
  refine l_val (v := .bool (decide (((m : Nat) : Int) ≤ (((2 * i) + 1 : Nat) : Int)))) rfl rfl rfl (e_geq (a := (((2 * i) + 1 : Nat) : Int)) (b := ((m : Nat) : Int)) rfl rfl) ?_
  refine l_val (v := .bool (decide (((m : Nat) : Int) ≤ (((2 * i) + 1 : Nat) : Int)))) rfl rfl rfl (e_move) ?_
  refine l_split (s := 18) (p := ((m : Nat) : Int) ≤ (((2 * i) + 1 : Nat) : Int)) rfl (fun hg1 => ?_) (fun hg1 => ?_)
  ·
    refine l_skip rfl rfl rfl rfl rfl rfl ?_
    refine l_skip rfl rfl rfl rfl rfl rfl ?_
    refine l_val (v := .bool true) rfl rfl rfl (e_pick_t rfl) ?_
    refine l_nil ?_
    refine f_then ?_
    refine c_yes rfl ?_
    refine c_exit ?_
    refine f_then_exit ?_
    refine f_exit_other rfl ?_
    refine f_then_exit ?_
    refine f_exit ?_
    refine f_then ?_
    refine c_seq ?_
    refine c_region ?_
    refine l_val (v := Nx (i)) rfl rfl rfl (e_move) ?_
    refine l_val (v := Nx (0)) rfl rfl rfl (e_move) ?_
    refine l_val (v := .bool (decide (((0 : Nat) : Int) < ((i : Nat) : Int)))) rfl rfl rfl (e_gtr (a := ((i : Nat) : Int)) (b := ((0 : Nat) : Int)) rfl rfl) ?_
    refine l_val (v := .bool (decide (((0 : Nat) : Int) < ((i : Nat) : Int)))) rfl rfl rfl (e_assign) ?_
    refine l_nil ?_
    refine f_then ?_
    refine c_ret ?_
    refine ret1 Tryz.results59 (v := .bool (decide (((0 : Nat) : Int) < ((i : Nat) : Int)))) rfl ?_
    intro w hw
    exact ⟨_, rfl, ys, hyl, hyp, hym, hyd.done (fun k k0 hk hkp => by omega), hw⟩
  ·
    refine g_val (v := Nx ((2 * i) + 1)) rfl rfl rfl rfl rfl (e_move) ?_
    refine g_val (v := .bool (decide ((((2 * i) + 1 : Nat) : Int) < (0 : Int)))) rfl rfl rfl rfl rfl (e_lss (a := (((2 * i) + 1 : Nat) : Int)) (b := (0 : Int)) rfl rfl) ?_
    refine l_val (v := .bool (decide ((((2 * i) + 1 : Nat) : Int) < (0 : Int)))) rfl rfl rfl (e_pick_f rfl) ?_
    refine l_nil ?_
    refine f_then ?_
    refine c_if ((((2 * i) + 1 : Nat) : Int) < (0 : Int)) rfl (fun hc2 => ?_) (fun hc2 => ?_)
    ·
      refine c_exit ?_
      refine f_then_exit ?_
      refine f_exit_other rfl ?_
      refine f_then_exit ?_
      refine f_exit ?_
      refine f_then ?_
      refine c_seq ?_
      refine c_region ?_
      refine l_val (v := Nx (i)) rfl rfl rfl (e_move) ?_
      refine l_val (v := Nx (0)) rfl rfl rfl (e_move) ?_
      refine l_val (v := .bool (decide (((0 : Nat) : Int) < ((i : Nat) : Int)))) rfl rfl rfl (e_gtr (a := ((i : Nat) : Int)) (b := ((0 : Nat) : Int)) rfl rfl) ?_
      refine l_val (v := .bool (decide (((0 : Nat) : Int) < ((i : Nat) : Int)))) rfl rfl rfl (e_assign) ?_
      refine l_nil ?_
      refine f_then ?_
      refine c_ret ?_
      refine ret1 Tryz.results59 (v := .bool (decide (((0 : Nat) : Int) < ((i : Nat) : Int)))) rfl ?_
      intro w hw
      exact ⟨_, rfl, ys, hyl, hyp, hym, hyd.done (fun k k0 hk hkp => by omega), hw⟩
    ·
      refine c_skip ?_
      refine f_then ?_
      refine c_seq ?_
      refine c_region ?_
      refine l_val (v := Nx ((2 * i) + 1)) rfl rfl rfl (e_move) ?_
      refine l_val (v := Nx ((2 * i) + 1)) rfl rfl rfl (e_assign) ?_
      refine l_nil ?_
      refine f_then ?_
      refine c_seq ?_
      refine c_seq ?_
      refine c_region ?_
      refine l_val (v := Nx ((2 * i) + 1)) rfl rfl rfl (e_move) ?_
      refine l_val (v := Nx (((2 * i) + 1) + 1)) rfl rfl rfl (e_add (a := (((2 * i) + 1 : Nat) : Int)) (b := (1 : Int)) rfl rfl (i64n (by omega) (by omega))) ?_
      refine l_val (v := Nx (((2 * i) + 1) + 1)) rfl rfl rfl (e_assign) ?_
      refine l_nil ?_
      refine f_then ?_
      refine c_seq ?_
      refine c_region ?_
      refine l_val (v := Nx (((2 * i) + 1) + 1)) rfl rfl rfl (e_move) ?_
      refine l_val (v := Nx (m)) rfl rfl rfl (e_move) ?_
      refine l_val (v := .bool (decide (((((2 * i) + 1) + 1 : Nat) : Int) < ((m : Nat) : Int)))) rfl rfl rfl (e_lss (a := ((((2 * i) + 1) + 1 : Nat) : Int)) (b := ((m : Nat) : Int)) rfl rfl) ?_
      refine l_val (v := .bool (decide (((((2 * i) + 1) + 1 : Nat) : Int) < ((m : Nat) : Int)))) rfl rfl rfl (e_move) ?_
      refine l_split (s := 28) (p := ((((2 * i) + 1) + 1 : Nat) : Int) < ((m : Nat) : Int)) rfl (fun hg3 => ?_) (fun hg3 => ?_)
      ·
        refine g_val (v := .iface 95 (.pointer (some ⟨b, 0, none⟩))) rfl rfl rfl rfl rfl (e_move) ?_
        refine g_val (v := Nx (((2 * i) + 1) + 1)) rfl rfl rfl rfl rfl (e_move) ?_
        refine g_val (v := Nx ((2 * i) + 1)) rfl rfl rfl rfl rfl (e_move) ?_
        refine g_call rfl rfl rfl rfl rfl (cl_invoke (v := .pointer (some ⟨b, 0, none⟩)) (vs := [Nx (((2 * i) + 1) + 1), Nx ((2 * i) + 1)]) (all := [.pointer (some ⟨b, 0, none⟩), Nx (((2 * i) + 1) + 1), Nx ((2 * i) + 1)]) tq19 rfl rfl rfl) ?_
        intro w hw
        replace hw := hw.perm (L' := _ :: _ :: []) (by exact ((perm_front 1 rfl).trans (perm_front 1 rfl)))
        obtain ⟨β1, sb, kn, hw1, back⟩ := St.frame (L := [_, _]) (M := []) hw
        refine (qless_ok β1 w b (m + 1) p c ys (by first | assumption | omega | (rw [swp_len]; assumption)) (((2 * i) + 1) + 1) ((2 * i) + 1) (by omega) (by omega) hw1).mono ?_
        rintro e w' ⟨rfl, hw'⟩
        refine ⟨_, rfl, _, back _ _ hw', ?_⟩
        clear hw hw1 hw' back kn sb
        refine l_val (v := .bool (decide (¬ leM (mAt ys ((2 * i) + 1)) (mAt ys (((2 * i) + 1) + 1))))) rfl rfl rfl (e_pick_t rfl) ?_
        refine l_nil ?_
        refine f_then ?_
        refine c_if (¬ leM (mAt ys ((2 * i) + 1)) (mAt ys (((2 * i) + 1) + 1))) rfl (fun hc4 => ?_) (fun hc4 => ?_)
        ·
          refine c_region ?_
          refine l_val (v := Nx (((2 * i) + 1) + 1)) rfl rfl rfl (e_move) ?_
          refine l_val (v := Nx (((2 * i) + 1) + 1)) rfl rfl rfl (e_assign) ?_
          refine l_nil ?_
          refine f_then ?_
          refine c_seq ?_
          refine c_seq ?_
          refine c_region ?_
          refine l_val (v := .iface 95 (.pointer (some ⟨b, 0, none⟩))) rfl rfl rfl (e_move) ?_
          refine l_val (v := Nx (((2 * i) + 1) + 1)) rfl rfl rfl (e_move) ?_
          refine l_val (v := Nx (i)) rfl rfl rfl (e_move) ?_
          refine l_call rfl rfl rfl (cl_invoke (v := .pointer (some ⟨b, 0, none⟩)) (vs := [Nx (((2 * i) + 1) + 1), Nx (i)]) (all := [.pointer (some ⟨b, 0, none⟩), Nx (((2 * i) + 1) + 1), Nx (i)]) tq19 rfl rfl rfl) ?_
          intro w hw
          replace hw := hw.perm (L' := _ :: _ :: []) (by exact ((perm_front 1 rfl).trans (perm_front 1 rfl)))
          obtain ⟨β1, sb, kn, hw1, back⟩ := St.frame (L := [_, _]) (M := []) hw
          refine (qless_ok β1 w b (m + 1) p c ys (by first | assumption | omega | (rw [swp_len]; assumption)) (((2 * i) + 1) + 1) i (by omega) (by omega) hw1).mono ?_
          rintro e w' ⟨rfl, hw'⟩
          refine ⟨_, rfl, _, back _ _ hw', ?_⟩
          clear hw hw1 hw' back kn sb
          refine l_val (v := .bool (decide (¬ (¬ leM (mAt ys i) (mAt ys (((2 * i) + 1) + 1)))))) rfl rfl rfl (e_not_p (p := ¬ leM (mAt ys i) (mAt ys (((2 * i) + 1) + 1))) rfl) ?_
          refine l_nil ?_
          refine f_then ?_
          refine c_if (¬ (¬ leM (mAt ys i) (mAt ys (((2 * i) + 1) + 1)))) rfl (fun hc5 => ?_) (fun hc5 => ?_)
          ·
            refine c_exit ?_
            refine f_then_exit ?_
            refine f_exit_other rfl ?_
            refine f_then_exit ?_
            refine f_exit ?_
            refine f_then ?_
            refine c_seq ?_
            refine c_region ?_
            refine l_val (v := Nx (i)) rfl rfl rfl (e_move) ?_
            refine l_val (v := Nx (0)) rfl rfl rfl (e_move) ?_
            refine l_val (v := .bool (decide (((0 : Nat) : Int) < ((i : Nat) : Int)))) rfl rfl rfl (e_gtr (a := ((i : Nat) : Int)) (b := ((0 : Nat) : Int)) rfl rfl) ?_
            refine l_val (v := .bool (decide (((0 : Nat) : Int) < ((i : Nat) : Int)))) rfl rfl rfl (e_assign) ?_
            refine l_nil ?_
            refine f_then ?_
            refine c_ret ?_
            refine ret1 Tryz.results59 (v := .bool (decide (((0 : Nat) : Int) < ((i : Nat) : Int)))) rfl ?_
            intro w hw
            exact ⟨_, rfl, ys, hyl, hyp, hym, hyd.done (fun k k0 hk hkp => (show leM (mAt ys i) (mAt ys (((2 * i) + 1) + 1)) from by have q := hc5; simpa using q).trans (dn_two (.inr ⟨rfl, leM.tot (by have q := hc4; simpa using q)⟩) k k0 hk hkp)), hw⟩
          ·
            refine c_skip ?_
            refine f_then ?_
            refine c_seq ?_
            refine c_region ?_
            refine l_val (v := .iface 95 (.pointer (some ⟨b, 0, none⟩))) rfl rfl rfl (e_move) ?_
            refine l_val (v := Nx (i)) rfl rfl rfl (e_move) ?_
            refine l_val (v := Nx (((2 * i) + 1) + 1)) rfl rfl rfl (e_move) ?_
            refine l_call rfl rfl rfl (cl_invoke (v := .pointer (some ⟨b, 0, none⟩)) (vs := [Nx (i), Nx (((2 * i) + 1) + 1)]) (all := [.pointer (some ⟨b, 0, none⟩), Nx (i), Nx (((2 * i) + 1) + 1)]) tq21 rfl rfl rfl) ?_
            intro w hw
            replace hw := hw.perm (L' := _ :: _ :: []) (by exact ((perm_front 1 rfl).trans (perm_front 1 rfl)))
            obtain ⟨β1, sb, kn, hw1, back⟩ := St.frame (L := [_, _]) (M := []) hw
            refine (qswap_ok β1 w b (m + 1) p c ys (by first | assumption | omega | (rw [swp_len]; assumption)) i (((2 * i) + 1) + 1) (by omega) (by omega) hw1).mono ?_
            rintro e w' ⟨rfl, hw'⟩
            refine ⟨_, rfl, _, back _ _ hw', ?_⟩
            clear hw hw1 hw' back kn sb
            refine l_nil ?_
            refine f_then ?_
            refine c_region ?_
            refine l_val (v := Nx (((2 * i) + 1) + 1)) rfl rfl rfl (e_move) ?_
            refine l_val (v := Nx (((2 * i) + 1) + 1)) rfl rfl rfl (e_assign) ?_
            refine l_nil ?_
            refine f_block ?_
            exact f_cut ⟨(((2 * i) + 1) + 1, (swp ys i (((2 * i) + 1) + 1))), ⟨⟨rfl, rfl, rfl, rfl⟩, rfl, ⟨by omega, by rw [swp_len]; exact hyl, (swp_perm (by omega) (by omega)).trans hyp, by rw [swp_past (n := m) (by omega) (by omega) (Nat.le_refl _) (by omega)]; exact hym, hyd.step (by omega) (by omega) (by omega) (by have q := hc5; simpa using q) (dn_two (.inr ⟨rfl, leM.tot (by have q := hc4; simpa using q)⟩))⟩⟩, (show m - (((2 * i) + 1) + 1) < m - i from by omega)⟩
        ·
          refine c_skip ?_
          refine f_then ?_
          refine c_seq ?_
          refine c_seq ?_
          refine c_region ?_
          refine l_val (v := .iface 95 (.pointer (some ⟨b, 0, none⟩))) rfl rfl rfl (e_move) ?_
          refine l_val (v := Nx ((2 * i) + 1)) rfl rfl rfl (e_move) ?_
          refine l_val (v := Nx (i)) rfl rfl rfl (e_move) ?_
          refine l_call rfl rfl rfl (cl_invoke (v := .pointer (some ⟨b, 0, none⟩)) (vs := [Nx ((2 * i) + 1), Nx (i)]) (all := [.pointer (some ⟨b, 0, none⟩), Nx ((2 * i) + 1), Nx (i)]) tq19 rfl rfl rfl) ?_
          intro w hw
          replace hw := hw.perm (L' := _ :: _ :: []) (by exact ((perm_front 1 rfl).trans (perm_front 1 rfl)))
          obtain ⟨β1, sb, kn, hw1, back⟩ := St.frame (L := [_, _]) (M := []) hw
          refine (qless_ok β1 w b (m + 1) p c ys (by first | assumption | omega | (rw [swp_len]; assumption)) ((2 * i) + 1) i (by omega) (by omega) hw1).mono ?_
          rintro e w' ⟨rfl, hw'⟩
          refine ⟨_, rfl, _, back _ _ hw', ?_⟩
          clear hw hw1 hw' back kn sb
          refine l_val (v := .bool (decide (¬ (¬ leM (mAt ys i) (mAt ys ((2 * i) + 1)))))) rfl rfl rfl (e_not_p (p := ¬ leM (mAt ys i) (mAt ys ((2 * i) + 1))) rfl) ?_
          refine l_nil ?_
          refine f_then ?_
          refine c_if (¬ (¬ leM (mAt ys i) (mAt ys ((2 * i) + 1)))) rfl (fun hc6 => ?_) (fun hc6 => ?_)
          ·
            refine c_exit ?_
            refine f_then_exit ?_
            refine f_exit_other rfl ?_
            refine f_then_exit ?_
            refine f_exit ?_
            refine f_then ?_
            refine c_seq ?_
            refine c_region ?_
            refine l_val (v := Nx (i)) rfl rfl rfl (e_move) ?_
            refine l_val (v := Nx (0)) rfl rfl rfl (e_move) ?_
            refine l_val (v := .bool (decide (((0 : Nat) : Int) < ((i : Nat) : Int)))) rfl rfl rfl (e_gtr (a := ((i : Nat) : Int)) (b := ((0 : Nat) : Int)) rfl rfl) ?_
            refine l_val (v := .bool (decide (((0 : Nat) : Int) < ((i : Nat) : Int)))) rfl rfl rfl (e_assign) ?_
            refine l_nil ?_
            refine f_then ?_
            refine c_ret ?_
            refine ret1 Tryz.results59 (v := .bool (decide (((0 : Nat) : Int) < ((i : Nat) : Int)))) rfl ?_
            intro w hw
            exact ⟨_, rfl, ys, hyl, hyp, hym, hyd.done (fun k k0 hk hkp => (show leM (mAt ys i) (mAt ys ((2 * i) + 1)) from by have q := hc6; simpa using q).trans (dn_two (.inl ⟨rfl, fun _ => by have q := hc4; simpa using q⟩) k k0 hk hkp)), hw⟩
          ·
            refine c_skip ?_
            refine f_then ?_
            refine c_seq ?_
            refine c_region ?_
            refine l_val (v := .iface 95 (.pointer (some ⟨b, 0, none⟩))) rfl rfl rfl (e_move) ?_
            refine l_val (v := Nx (i)) rfl rfl rfl (e_move) ?_
            refine l_val (v := Nx ((2 * i) + 1)) rfl rfl rfl (e_move) ?_
            refine l_call rfl rfl rfl (cl_invoke (v := .pointer (some ⟨b, 0, none⟩)) (vs := [Nx (i), Nx ((2 * i) + 1)]) (all := [.pointer (some ⟨b, 0, none⟩), Nx (i), Nx ((2 * i) + 1)]) tq21 rfl rfl rfl) ?_
            intro w hw
            replace hw := hw.perm (L' := _ :: _ :: []) (by exact ((perm_front 1 rfl).trans (perm_front 1 rfl)))
            obtain ⟨β1, sb, kn, hw1, back⟩ := St.frame (L := [_, _]) (M := []) hw
            refine (qswap_ok β1 w b (m + 1) p c ys (by first | assumption | omega | (rw [swp_len]; assumption)) i ((2 * i) + 1) (by omega) (by omega) hw1).mono ?_
            rintro e w' ⟨rfl, hw'⟩
            refine ⟨_, rfl, _, back _ _ hw', ?_⟩
            clear hw hw1 hw' back kn sb
            refine l_nil ?_
            refine f_then ?_
            refine c_region ?_
            refine l_val (v := Nx ((2 * i) + 1)) rfl rfl rfl (e_move) ?_
            refine l_val (v := Nx ((2 * i) + 1)) rfl rfl rfl (e_assign) ?_
            refine l_nil ?_
            refine f_block ?_
            exact f_cut ⟨((2 * i) + 1, (swp ys i ((2 * i) + 1))), ⟨⟨rfl, rfl, rfl, rfl⟩, rfl, ⟨by omega, by rw [swp_len]; exact hyl, (swp_perm (by omega) (by omega)).trans hyp, by rw [swp_past (n := m) (by omega) (by omega) (Nat.le_refl _) (by omega)]; exact hym, hyd.step (by omega) (by omega) (by omega) (by have q := hc6; simpa using q) (dn_two (.inl ⟨rfl, fun _ => by have q := hc4; simpa using q⟩))⟩⟩, (show m - ((2 * i) + 1) < m - i from by omega)⟩
      ·
        refine l_skip rfl rfl rfl rfl rfl rfl ?_
        refine l_skip rfl rfl rfl rfl rfl rfl ?_
        refine l_skip rfl rfl rfl rfl rfl rfl ?_
        refine l_skip rfl rfl rfl rfl rfl rfl ?_
        refine l_val (v := .bool false) rfl rfl rfl (e_pick_f rfl) ?_
        refine l_nil ?_
        refine f_then ?_
        refine c_no rfl ?_
        refine c_skip ?_
        refine f_then ?_
        refine c_seq ?_
        refine c_seq ?_
        refine c_region ?_
        refine l_val (v := .iface 95 (.pointer (some ⟨b, 0, none⟩))) rfl rfl rfl (e_move) ?_
        refine l_val (v := Nx ((2 * i) + 1)) rfl rfl rfl (e_move) ?_
        refine l_val (v := Nx (i)) rfl rfl rfl (e_move) ?_
        refine l_call rfl rfl rfl (cl_invoke (v := .pointer (some ⟨b, 0, none⟩)) (vs := [Nx ((2 * i) + 1), Nx (i)]) (all := [.pointer (some ⟨b, 0, none⟩), Nx ((2 * i) + 1), Nx (i)]) tq19 rfl rfl rfl) ?_
        intro w hw
        replace hw := hw.perm (L' := _ :: _ :: []) (by exact ((perm_front 1 rfl).trans (perm_front 1 rfl)))
        obtain ⟨β1, sb, kn, hw1, back⟩ := St.frame (L := [_, _]) (M := []) hw
        refine (qless_ok β1 w b (m + 1) p c ys (by first | assumption | omega | (rw [swp_len]; assumption)) ((2 * i) + 1) i (by omega) (by omega) hw1).mono ?_
        rintro e w' ⟨rfl, hw'⟩
        refine ⟨_, rfl, _, back _ _ hw', ?_⟩
        clear hw hw1 hw' back kn sb
        refine l_val (v := .bool (decide (¬ (¬ leM (mAt ys i) (mAt ys ((2 * i) + 1)))))) rfl rfl rfl (e_not_p (p := ¬ leM (mAt ys i) (mAt ys ((2 * i) + 1))) rfl) ?_
        refine l_nil ?_
        refine f_then ?_
        refine c_if (¬ (¬ leM (mAt ys i) (mAt ys ((2 * i) + 1)))) rfl (fun hc7 => ?_) (fun hc7 => ?_)
        ·
          refine c_exit ?_
          refine f_then_exit ?_
          refine f_exit_other rfl ?_
          refine f_then_exit ?_
          refine f_exit ?_
          refine f_then ?_
          refine c_seq ?_
          refine c_region ?_
          refine l_val (v := Nx (i)) rfl rfl rfl (e_move) ?_
          refine l_val (v := Nx (0)) rfl rfl rfl (e_move) ?_
          refine l_val (v := .bool (decide (((0 : Nat) : Int) < ((i : Nat) : Int)))) rfl rfl rfl (e_gtr (a := ((i : Nat) : Int)) (b := ((0 : Nat) : Int)) rfl rfl) ?_
          refine l_val (v := .bool (decide (((0 : Nat) : Int) < ((i : Nat) : Int)))) rfl rfl rfl (e_assign) ?_
          refine l_nil ?_
          refine f_then ?_
          refine c_ret ?_
          refine ret1 Tryz.results59 (v := .bool (decide (((0 : Nat) : Int) < ((i : Nat) : Int)))) rfl ?_
          intro w hw
          exact ⟨_, rfl, ys, hyl, hyp, hym, hyd.done (fun k k0 hk hkp => (show leM (mAt ys i) (mAt ys ((2 * i) + 1)) from by have q := hc7; simpa using q).trans (dn_two (.inl ⟨rfl, fun _ => by omega⟩) k k0 hk hkp)), hw⟩
        ·
          refine c_skip ?_
          refine f_then ?_
          refine c_seq ?_
          refine c_region ?_
          refine l_val (v := .iface 95 (.pointer (some ⟨b, 0, none⟩))) rfl rfl rfl (e_move) ?_
          refine l_val (v := Nx (i)) rfl rfl rfl (e_move) ?_
          refine l_val (v := Nx ((2 * i) + 1)) rfl rfl rfl (e_move) ?_
          refine l_call rfl rfl rfl (cl_invoke (v := .pointer (some ⟨b, 0, none⟩)) (vs := [Nx (i), Nx ((2 * i) + 1)]) (all := [.pointer (some ⟨b, 0, none⟩), Nx (i), Nx ((2 * i) + 1)]) tq21 rfl rfl rfl) ?_
          intro w hw
          replace hw := hw.perm (L' := _ :: _ :: []) (by exact ((perm_front 1 rfl).trans (perm_front 1 rfl)))
          obtain ⟨β1, sb, kn, hw1, back⟩ := St.frame (L := [_, _]) (M := []) hw
          refine (qswap_ok β1 w b (m + 1) p c ys (by first | assumption | omega | (rw [swp_len]; assumption)) i ((2 * i) + 1) (by omega) (by omega) hw1).mono ?_
          rintro e w' ⟨rfl, hw'⟩
          refine ⟨_, rfl, _, back _ _ hw', ?_⟩
          clear hw hw1 hw' back kn sb
          refine l_nil ?_
          refine f_then ?_
          refine c_region ?_
          refine l_val (v := Nx ((2 * i) + 1)) rfl rfl rfl (e_move) ?_
          refine l_val (v := Nx ((2 * i) + 1)) rfl rfl rfl (e_assign) ?_
          refine l_nil ?_
          refine f_block ?_
          exact f_cut ⟨((2 * i) + 1, (swp ys i ((2 * i) + 1))), ⟨⟨rfl, rfl, rfl, rfl⟩, rfl, ⟨by omega, by rw [swp_len]; exact hyl, (swp_perm (by omega) (by omega)).trans hyp, by rw [swp_past (n := m) (by omega) (by omega) (Nat.le_refl _) (by omega)]; exact hym, hyd.step (by omega) (by omega) (by omega) (by have q := hc7; simpa using q) (dn_two (.inl ⟨rfl, fun _ => by omega⟩))⟩⟩, (show m - ((2 * i) + 1) < m - i from by omega)⟩
theorem push_ok (β : Base) (w : World) (b n : Nat) (p : Option Addr) (c : Nat) (xs : List KM) (hn : xs.length = n) (hb : n < 1099511627776) (hh : Hp xs n) (x : KM) (hw : St β [pt b (.cells #[.slice p (n) c, .func (.func 41) #[] #[]] 98), rowF MarkF 70 p c xs] w) : Calls Tryz.prog 43 #[.iface 95 (.pointer (some ⟨b, 0, none⟩)), .iface 70 (.agg #[Nx (x.node), Nx (x.len), Nx (x.pts)])] w fun r w' => r = .returned (.tuple #[]) ∧ ∃ p c, ∃ ys : List KM, ys.length = n + 1 ∧ ys.Perm (xs ++ [x]) ∧ Hp ys (n + 1) ∧ St β [pt b (.cells #[.slice p (n + 1) c, .func (.func 41) #[] #[]] 98), rowF MarkF 70 p c ys] w' := by
  have hxl : (xs ++ [x]).length = n + 1 := by rw [List.length_append, hn]; rfl
  have hxu : UpI (xs ++ [x]) (n + 1) n := by subst hn; exact UpI.start hh
  refine enter (n := 12) Tryz.func43 rfl Tryz.ntmps43 rfl ?_ hw
  refine c_seq ?_
  refine c_region ?_
  refine l_val (v := .iface 95 (.pointer (some ⟨b, 0, none⟩))) rfl rfl rfl (e_move) ?_
  refine l_val (v := .iface 70 (.agg #[Nx (x.node), Nx (x.len), Nx (x.pts)])) rfl rfl rfl (e_move) ?_
  refine l_call rfl rfl rfl (cl_invoke (v := .pointer (some ⟨b, 0, none⟩)) (vs := [.iface 70 (.agg #[Nx (x.node), Nx (x.len), Nx (x.pts)])]) (all := [.pointer (some ⟨b, 0, none⟩), .iface 70 (.agg #[Nx (x.node), Nx (x.len), Nx (x.pts)])]) tq23 rfl rfl rfl) ?_
  intro w hw
  replace hw := hw.perm (L' := _ :: _ :: []) (by exact ((perm_front 1 rfl).trans (perm_front 1 rfl)))
  obtain ⟨β1, sb, kn, hw1, back⟩ := St.frame (L := [_, _]) (M := []) hw
  refine (qpush_ok β1 w b n p c xs (by first | assumption | omega | (rw [swp_len]; assumption)) (by omega) x hw1).mono ?_
  rintro e w' ⟨rfl, p1, c2, hw'⟩
  refine ⟨_, rfl, _, back _ _ hw', ?_⟩
  clear hw hw1 hw' back kn sb
  refine l_nil ?_
  refine f_then ?_
  refine c_region ?_
  refine l_val (v := .iface 95 (.pointer (some ⟨b, 0, none⟩))) rfl rfl rfl (e_move) ?_
  refine l_val (v := .iface 95 (.pointer (some ⟨b, 0, none⟩))) rfl rfl rfl (e_move) ?_
  refine l_call rfl rfl rfl (cl_invoke (v := .pointer (some ⟨b, 0, none⟩)) (vs := []) (all := [.pointer (some ⟨b, 0, none⟩)]) tq25 rfl rfl rfl) ?_
  intro w hw
  replace hw := hw.perm (L' := _ :: _ :: []) (by exact ((perm_front 1 rfl).trans (perm_front 1 rfl)))
  obtain ⟨β1, sb, kn, hw1, back⟩ := St.frame (L := [_]) (M := _ :: []) hw
  refine (qlen_ok β1 w b (n + 1) p1 c2 hw1).mono ?_
  rintro e w' ⟨rfl, hw'⟩
  refine ⟨_, rfl, _, back _ _ hw', ?_⟩
  clear hw hw1 hw' back kn sb
  refine l_val (v := Nx (n)) rfl rfl rfl (ev_eq (congrArg (Value.int .i64) (by omega)) (e_sub (a := ((n + 1 : Nat) : Int)) (b := (1 : Int)) rfl rfl (i64w (by omega)))) ?_
  refine l_call rfl rfl rfl (cl_value (fst := []) (cap := []) (vs := [.iface 95 (.pointer (some ⟨b, 0, none⟩)), Nx (n)]) (all := [.iface 95 (.pointer (some ⟨b, 0, none⟩)), Nx (n)]) tq26 rfl rfl rfl) ?_
  intro w hw
  replace hw := hw.perm (L' := _ :: _ :: []) (by exact ((perm_front 1 rfl).trans (perm_front 1 rfl)))
  obtain ⟨β1, sb, kn, hw1, back⟩ := St.frame (L := [_, _]) (M := []) hw
  refine (up_ok β1 w b (n + 1) p1 c2 (xs ++ [x]) hxl (by omega) n hxu hw1).mono ?_
  rintro e w' ⟨rfl, ys3, hyl4, hyp5, hyh6, hw'⟩
  refine ⟨_, rfl, _, back _ _ hw', ?_⟩
  clear hw hw1 hw' back kn sb
  refine l_nil ?_
  refine end0 Tryz.results43 ?_
  intro w hw
  exact ⟨rfl, _, _, ys3, hyl4, hyp5, hyh6, hw⟩
theorem pop_ok (β : Base) (w : World) (b m : Nat) (p : Option Addr) (c : Nat) (xs : List KM) (hn : xs.length = m + 1) (hb : m < 1099511627776) (hh : Hp xs (m + 1)) (hw : St β [pt b (.cells #[.slice p (m + 1) c, .func (.func 41) #[] #[]] 98), rowF MarkF 70 p c xs] w) : Calls Tryz.prog 42 #[.iface 95 (.pointer (some ⟨b, 0, none⟩))] w fun r w' => ∃ (x : KM) (ys : List KM), r = .returned (.iface 70 (.agg #[Nx (x.node), Nx (x.len), Nx (x.pts)])) ∧ ys.length = m ∧ xs.Perm (x :: ys) ∧ (∀ y ∈ xs, leM x y) ∧ Hp ys m ∧ St β [pt b (.cells #[.slice p (m) c, .func (.func 41) #[] #[]] 98), rowF MarkF 70 p c ys] w' := by
  have hxl : (swp xs 0 m).length = m + 1 := by rw [swp_len]; exact hn
  have hxd : DnI (swp xs 0 m) m 0 := DnI.start hn hh
  refine enter (n := 15) Tryz.func42 rfl Tryz.ntmps42 rfl ?_ hw
  refine c_seq ?_
  refine c_region ?_
  refine l_val (v := .nilIface) rfl rfl rfl (e_assign) ?_
  refine l_nil ?_
  refine f_then ?_
  refine c_seq ?_
  refine c_region ?_
  refine l_val (v := .iface 95 (.pointer (some ⟨b, 0, none⟩))) rfl rfl rfl (e_move) ?_
  refine l_call rfl rfl rfl (cl_invoke (v := .pointer (some ⟨b, 0, none⟩)) (vs := []) (all := [.pointer (some ⟨b, 0, none⟩)]) tq25 rfl rfl rfl) ?_
  intro w hw
  replace hw := hw.perm (L' := _ :: _ :: []) (by exact ((perm_front 1 rfl).trans (perm_front 1 rfl)))
  obtain ⟨β1, sb, kn, hw1, back⟩ := St.frame (L := [_]) (M := _ :: []) hw
  refine (qlen_ok β1 w b (m + 1) p c hw1).mono ?_
  rintro e w' ⟨rfl, hw'⟩
  refine ⟨_, rfl, _, back _ _ hw', ?_⟩
  clear hw hw1 hw' back kn sb
  refine l_val (v := Nx (m)) rfl rfl rfl (ev_eq (congrArg (Value.int .i64) (by omega)) (e_sub (a := ((m + 1 : Nat) : Int)) (b := (1 : Int)) rfl rfl (i64w (by omega)))) ?_
  refine l_val (v := Nx (m)) rfl rfl rfl (e_assign) ?_
  refine l_nil ?_
  refine f_then ?_
  refine c_seq ?_
  refine c_region ?_
  refine l_val (v := .iface 95 (.pointer (some ⟨b, 0, none⟩))) rfl rfl rfl (e_move) ?_
  refine l_val (v := Nx (m)) rfl rfl rfl (e_move) ?_
  refine l_call rfl rfl rfl (cl_invoke (v := .pointer (some ⟨b, 0, none⟩)) (vs := [.int .i64 (0), Nx (m)]) (all := [.pointer (some ⟨b, 0, none⟩), .int .i64 (0), Nx (m)]) tq21 rfl rfl rfl) ?_
  intro w hw
  replace hw := hw.perm (L' := _ :: _ :: []) (by exact ((perm_front 1 rfl).trans (perm_front 1 rfl)))
  obtain ⟨β1, sb, kn, hw1, back⟩ := St.frame (L := [_, _]) (M := []) hw
  refine (qswap_ok β1 w b (m + 1) p c xs (by first | assumption | omega | (rw [swp_len]; assumption)) 0 m (by omega) (by omega) hw1).mono ?_
  rintro e w' ⟨rfl, hw'⟩
  refine ⟨_, rfl, _, back _ _ hw', ?_⟩
  clear hw hw1 hw' back kn sb
  refine l_nil ?_
  refine f_then ?_
  refine c_seq ?_
  refine c_region ?_
  refine l_val (v := .iface 95 (.pointer (some ⟨b, 0, none⟩))) rfl rfl rfl (e_move) ?_
  refine l_val (v := Nx (m)) rfl rfl rfl (e_move) ?_
  refine l_call rfl rfl rfl (cl_value (fst := []) (cap := []) (vs := [.iface 95 (.pointer (some ⟨b, 0, none⟩)), .int .i64 (0), Nx (m)]) (all := [.iface 95 (.pointer (some ⟨b, 0, none⟩)), .int .i64 (0), Nx (m)]) tq27 rfl rfl rfl) ?_
  intro w hw
  replace hw := hw.perm (L' := _ :: _ :: []) (by exact ((perm_front 1 rfl).trans (perm_front 1 rfl)))
  obtain ⟨β1, sb, kn, hw1, back⟩ := St.frame (L := [_, _]) (M := []) hw
  refine (down_ok β1 w b m p c (swp xs 0 m) hxl (by omega) hxd hw1).mono ?_
  rintro e w' ⟨bb6, rfl, ys1, hyl2, hyp3, hym4, hyh5, hw'⟩
  refine ⟨_, rfl, _, back _ _ hw', ?_⟩
  clear hw hw1 hw' back kn sb
  refine l_nil ?_
  refine f_then ?_
  refine c_seq ?_
  refine c_region ?_
  refine l_val (v := .iface 95 (.pointer (some ⟨b, 0, none⟩))) rfl rfl rfl (e_move) ?_
  refine l_call rfl rfl rfl (cl_invoke (v := .pointer (some ⟨b, 0, none⟩)) (vs := []) (all := [.pointer (some ⟨b, 0, none⟩)]) tq29 rfl rfl rfl) ?_
  intro w hw
  replace hw := hw.perm (L' := _ :: _ :: []) (by exact ((perm_front 1 rfl).trans (perm_front 1 rfl)))
  obtain ⟨β1, sb, kn, hw1, back⟩ := St.frame (L := [_, _]) (M := []) hw
  refine (qpop_ok β1 w b m p c ys1 (by first | assumption | omega | (rw [swp_len]; assumption)) (by omega) hw1).mono ?_
  rintro e w' ⟨rfl, hw'⟩
  refine ⟨_, rfl, _, back _ _ hw', ?_⟩
  clear hw hw1 hw' back kn sb
  refine l_val (v := .iface 70 (.agg #[Nx ((mAt ys1 m).node), Nx ((mAt ys1 m).len), Nx ((mAt ys1 m).pts)])) rfl rfl rfl (e_assign) ?_
  refine l_nil ?_
  refine f_then ?_
  refine c_ret ?_
  refine ret1 Tryz.results42 (v := .iface 70 (.agg #[Nx ((mAt ys1 m).node), Nx ((mAt ys1 m).len), Nx ((mAt ys1 m).pts)])) rfl ?_
  intro w hw
  obtain ⟨q1, q2, q3, q4⟩ := pop_law hn hh hyp3 hyh5 hym4
  exact ⟨_, _, rfl, q4, q1, q2, q3, hw⟩
end Go.Proofs
