/-
 Bounds, Reach, cleared, apart; StepApart, walked. Printed by a program of my own.
-/
import Derived.Test.YtbhkgodiencdlaaDoorSt11
import Derived.Test.YtbhkgodiencdlaaDoorStApart
namespace Go.Proofs
open Go Go.Sl Go.Stp
theorem tf132 : (Tryd.prog.info? 62).bind (·.zero) = some (.agg #[.int .i64 (0), .int .i64 (0), .int .i64 (0), .int .i64 (0)]) := by kernel_rfl
theorem tf133 : cfB Tryd.prog 28 = true := by kernel_rfl
theorem tf134 : stB Tryd.prog 62 [(0, 2), (2, 2)] = true := by kernel_rfl
theorem tf135 : tyB Tryd.prog 62 true 4 = true := by kernel_rfl
theorem tf136 : cfB Tryd.prog 22 = true := by kernel_rfl
theorem tf137 : cfB Tryd.prog 14 = true := by kernel_rfl
theorem tf138 : cfB Tryd.prog 21 = true := by kernel_rfl
theorem tf139 : cfB Tryd.prog 25 = true := by kernel_rfl
theorem tf140 : cfB Tryd.prog 26 = true := by kernel_rfl
theorem tf141 : cfB Tryd.prog 29 = true := by kernel_rfl
theorem tf142 : lay Tryd.prog 10000 31 = some [.int .i64, .int .i64, .int .i64, .int .i64, .int .i64, .int .i64, .int .i64, .bool, .bool] := by kernel_rfl
theorem tf143 : isAggT Tryd.prog 31 = true := by kernel_rfl
theorem tf144 : Tryd.prog.eqGuardType Tryd.prog.depth 31 = false := by kernel_rfl
theorem tf145 : fldB Tryd.prog 62 0 0 2 true = true := by kernel_rfl
theorem tf146 : fldB Tryd.prog 62 1 2 2 true = true := by kernel_rfl
set_option maxHeartbeats 4000000 in
theorem bounds_ok (β : Base) (w : World) (hw : St β [] w) (b : KB) (ok_b : okB b) : Calls Tryd.prog 28 #[.agg (bC b)] w fun r w' => r = .returned (.tuple #[.agg #[Ix (b.x - b.w), Ix (b.y - b.h)], .agg #[Ix (b.x + b.w), Ix (b.y + b.h)]]) ∧ St β [] w' := by
 have kp1 := ok_b.2.1
 have kp2 := ok_b.2.2.1
 have kp3 := ok_b.2.2.2.2.2.1
 have kp4 := ok_b.2.2.2.2.2.2.1
 refine enter (n := 35) Tryd.func28 rfl Tryd.ntmps28 rfl ?_ hw
 refine c_seq ?_
 refine c_region ?_
 refine l_mv rfl rfl rfl (m_box (v := .agg (bC b)) rfl) ?_
 rintro _ _ ⟨b1, rfl, rfl⟩
 refine l_mv rfl rfl rfl (m_alloc tf17) ?_
 rintro _ _ ⟨b2, rfl, rfl⟩
 refine l_mv rfl rfl rfl (m_alloc tf17) ?_
 rintro _ _ ⟨b3, rfl, rfl⟩
 refine l_nil ?_
 refine f_then ?_
 refine c_seq ?_
 refine c_seq ?_
 refine c_region ?_
 refine l_val (v := .agg (bC b)) rfl rfl rfl (e_load tf22 (cs := (bodyE b)) rfl (k_pt 2 (cs := (bC b)) (vs := (bodyE b)) rfl rfl) rfl) ?_
 refine l_call rfl rfl rfl (cl_value (fst := []) (cap := []) (vs := [.agg (bC b)]) (all := [.agg (bC b)]) tf24 rfl rfl rfl) ?_
 intro w hw
 obtain ⟨β1, sb, kn, hw1, back⟩ := St.frame_all hw
 refine (valid_ok β1 w hw1 b).mono ?_
 rintro e w' ⟨rfl, hw'⟩
 refine ⟨_, rfl, _, back _ _ hw', ?_⟩
 clear hw hw1 hw' back kn sb
 refine l_val (v := .bool (decide (¬ (okB b)))) rfl rfl rfl (e_not_p (p := okB b) rfl) ?_
 refine l_nil ?_
 refine f_then ?_
 refine c_if (¬ (okB b)) rfl (fun hc4 => ?_) (fun hc4 => ?_)
 ·
  exact absurd hc4 (fun h => h ok_b)
 ·
  refine c_skip ?_
  refine f_then ?_
  refine c_seq ?_
  refine c_any [⟨[], [], [0], [9], fun f => f 9 = .pointer (some ⟨b1, 1, none⟩)⟩, ⟨[0], [0], [], [10], fun f => f 10 = .pointer (some ⟨b1, 1, none⟩)⟩, ⟨[0, 1], [1], [], [11], fun f => f 11 = Ix (b.x)⟩, ⟨[], [], [0], [12], fun f => f 12 = .pointer (some ⟨b1, 5, none⟩)⟩, ⟨[3], [3], [], [13], fun f => f 13 = Ix (b.w)⟩, ⟨[0, 1, 2, 3, 4], [2, 4], [], [14], fun f => f 14 = Ix ((b.x) - (b.w))⟩, ⟨[], [], [0], [15], fun f => f 15 = .pointer (some ⟨b1, 1, none⟩)⟩, ⟨[6], [6], [], [16], fun f => f 16 = .pointer (some ⟨b1, 2, none⟩)⟩, ⟨[6, 7], [7], [], [17], fun f => f 17 = Ix (b.y)⟩, ⟨[], [], [0], [18], fun f => f 18 = .pointer (some ⟨b1, 6, none⟩)⟩, ⟨[9], [9], [], [19], fun f => f 19 = Ix (b.h)⟩, ⟨[6, 7, 8, 9, 10], [8, 10], [], [20], fun f => f 20 = Ix ((b.y) - (b.h))⟩, ⟨[0, 1, 2, 3, 4, 5, 6, 7, 8, 9, 10, 11], [5, 11], [], [21], fun f => f 21 = .agg #[Ix ((b.x) - (b.w)), Ix ((b.y) - (b.h))]⟩, ⟨[], [], [0], [22], fun f => f 22 = .pointer (some ⟨b1, 1, none⟩)⟩, ⟨[13], [13], [], [23], fun f => f 23 = .pointer (some ⟨b1, 1, none⟩)⟩, ⟨[13, 14], [14], [], [24], fun f => f 24 = Ix (b.x)⟩, ⟨[], [], [0], [25], fun f => f 25 = .pointer (some ⟨b1, 5, none⟩)⟩, ⟨[16], [16], [], [26], fun f => f 26 = Ix (b.w)⟩, ⟨[13, 14, 15, 16, 17], [15, 17], [], [27], fun f => f 27 = Ix ((b.x) + (b.w))⟩, ⟨[], [], [0], [28], fun f => f 28 = .pointer (some ⟨b1, 1, none⟩)⟩, ⟨[19], [19], [], [29], fun f => f 29 = .pointer (some ⟨b1, 2, none⟩)⟩, ⟨[19, 20], [20], [], [30], fun f => f 30 = Ix (b.y)⟩, ⟨[], [], [0], [31], fun f => f 31 = .pointer (some ⟨b1, 6, none⟩)⟩, ⟨[22], [22], [], [32], fun f => f 32 = Ix (b.h)⟩, ⟨[19, 20, 21, 22, 23], [21, 23], [], [33], fun f => f 33 = Ix ((b.y) + (b.h))⟩, ⟨[13, 14, 15, 16, 17, 18, 19, 20, 21, 22, 23, 24], [18, 24], [], [34], fun f => f 34 = .agg #[Ix ((b.x) + (b.w)), Ix ((b.y) + (b.h))]⟩, ⟨[0, 1, 2, 3, 4, 5, 6, 7, 8, 9, 10, 11, 12], [12], [1], [], fun _ => True⟩, ⟨[0, 1, 2, 3, 4, 5, 6, 7, 8, 9, 10, 11, 12, 13, 14, 15, 16, 17, 18, 19, 20, 21, 22, 23, 24, 25, 26], [25], [2], [], fun _ => True⟩] [⟨none, (some 27), [27], [], fun _ => pt b3 (.cells #[.int .i64 (0), .int .i64 (0)] 25)⟩, ⟨none, (some 26), [26], [], fun _ => pt b2 (.cells #[.int .i64 (0), .int .i64 (0)] 25)⟩, ⟨none, none, [2, 4, 8, 10, 15, 17, 21, 23], [], fun _ => pt b1 (.cells (bC b) 31)⟩, ⟨(some 26), none, [], [], fun _ => pt b2 (.cells #[Ix ((b.x) - (b.w)), Ix ((b.y) - (b.h))] 25)⟩, ⟨(some 27), none, [], [], fun _ => pt b3 (.cells #[Ix ((b.x) + (b.w)), Ix ((b.y) + (b.h))] 25)⟩] [(1, .pointer (some ⟨b1, 0, none⟩)), (2, .pointer (some ⟨b2, 0, none⟩)), (3, .pointer (some ⟨b3, 0, none⟩))] [1, 2] [] (by kernel_rfl) (by kernel_rfl) (by kernel_rfl) (by kernel_rfl) rfl ⟨rfl, rfl, rfl, trivial⟩ ⟨?_, ?_, ?_, ?_, ?_, ?_, ?_, ?_, ?_, ?_, ?_, ?_, ?_, ?_, ?_, ?_, ?_, ?_, ?_, ?_, ?_, ?_, ?_, ?_, ?_, ?_, ?_, ?_, trivial⟩ ?_
  ·rintro f M - ⟨i0, -⟩
   have hs1 : f 1 = .pointer (some ⟨b1, 0, none⟩) := i0
   refine ob_start (L' := M) (by rfl) (up_cons rfl hs1) ?_
   refine l_val (v := .pointer (some ⟨b1, 1, none⟩)) rfl rfl rfl (e_fieldPt (b := b1) (o := 0) rfl tf6) ?_
   refine l_nil ?_
   exact f_owes_d (up_cons rfl hs1) rfl (List.Perm.refl _)
  ·rintro f M ⟨k0, -⟩ -
   have hs9 : f 9 = .pointer (some ⟨b1, 1, none⟩) := k0
   refine ob_start (L' := M) (by rfl) (up_cons rfl hs9) ?_
   refine l_val (v := .pointer (some ⟨b1, 1, none⟩)) rfl rfl rfl (e_fieldPt (b := b1) (o := 1) rfl tf7) ?_
   refine l_nil ?_
   exact f_owes_d (up_cons rfl hs9) rfl (List.Perm.refl _)
  ·rintro f M ⟨k0, -⟩ -
   have hs10 : f 10 = .pointer (some ⟨b1, 1, none⟩) := k0
   refine ob_start (L' := pt b1 (.cells (bC b) 31) :: M) (by rfl) (up_cons rfl hs10) ?_
   refine l_val (v := Ix (b.x)) rfl rfl rfl (e_load1 tf2 (v := Ix (b.x)) rfl (k_pt 0 (cs := (bC b)) (vs := [Ix (b.x)]) rfl rfl)) ?_
   refine l_nil ?_
   exact f_owes_d (up_cons rfl hs10) rfl (perm_front 0 rfl)
  ·rintro f M - ⟨i0, -⟩
   have hs1 : f 1 = .pointer (some ⟨b1, 0, none⟩) := i0
   refine ob_start (L' := M) (by rfl) (up_cons rfl hs1) ?_
   refine l_val (v := .pointer (some ⟨b1, 5, none⟩)) rfl rfl rfl (e_fieldPt (b := b1) (o := 0) rfl tf10) ?_
   refine l_nil ?_
   exact f_owes_d (up_cons rfl hs1) rfl (List.Perm.refl _)
  ·rintro f M ⟨k0, -⟩ -
   have hs12 : f 12 = .pointer (some ⟨b1, 5, none⟩) := k0
   refine ob_start (L' := pt b1 (.cells (bC b) 31) :: M) (by rfl) (up_cons rfl hs12) ?_
   refine l_val (v := Ix (b.w)) rfl rfl rfl (e_load1 tf2 (v := Ix (b.w)) rfl (k_pt 0 (cs := (bC b)) (vs := [Ix (b.w)]) rfl rfl)) ?_
   refine l_nil ?_
   exact f_owes_d (up_cons rfl hs12) rfl (perm_front 0 rfl)
  ·rintro f M ⟨k0, k1, -⟩ -
   have hs11 : f 11 = Ix (b.x) := k0
   have hs13 : f 13 = Ix (b.w) := k1
   refine ob_start (L' := M) (by rfl) (up_cons (up_cons rfl hs11) hs13) ?_
   refine l_val (v := Ix ((b.x) - (b.w))) rfl rfl rfl (e_sub (a := (b.x)) (b := (b.w)) rfl rfl (i64w (by omega))) ?_
   refine l_nil ?_
   exact f_owes_d (up_cons (up_cons rfl hs11) hs13) rfl (List.Perm.refl _)
  ·rintro f M - ⟨i0, -⟩
   have hs1 : f 1 = .pointer (some ⟨b1, 0, none⟩) := i0
   refine ob_start (L' := M) (by rfl) (up_cons rfl hs1) ?_
   refine l_val (v := .pointer (some ⟨b1, 1, none⟩)) rfl rfl rfl (e_fieldPt (b := b1) (o := 0) rfl tf6) ?_
   refine l_nil ?_
   exact f_owes_d (up_cons rfl hs1) rfl (List.Perm.refl _)
  ·rintro f M ⟨k0, -⟩ -
   have hs15 : f 15 = .pointer (some ⟨b1, 1, none⟩) := k0
   refine ob_start (L' := M) (by rfl) (up_cons rfl hs15) ?_
   refine l_val (v := .pointer (some ⟨b1, 2, none⟩)) rfl rfl rfl (e_fieldPt (b := b1) (o := 1) rfl tf8) ?_
   refine l_nil ?_
   exact f_owes_d (up_cons rfl hs15) rfl (List.Perm.refl _)
  ·rintro f M ⟨k0, -⟩ -
   have hs16 : f 16 = .pointer (some ⟨b1, 2, none⟩) := k0
   refine ob_start (L' := pt b1 (.cells (bC b) 31) :: M) (by rfl) (up_cons rfl hs16) ?_
   refine l_val (v := Ix (b.y)) rfl rfl rfl (e_load1 tf2 (v := Ix (b.y)) rfl (k_pt 0 (cs := (bC b)) (vs := [Ix (b.y)]) rfl rfl)) ?_
   refine l_nil ?_
   exact f_owes_d (up_cons rfl hs16) rfl (perm_front 0 rfl)
  ·rintro f M - ⟨i0, -⟩
   have hs1 : f 1 = .pointer (some ⟨b1, 0, none⟩) := i0
   refine ob_start (L' := M) (by rfl) (up_cons rfl hs1) ?_
   refine l_val (v := .pointer (some ⟨b1, 6, none⟩)) rfl rfl rfl (e_fieldPt (b := b1) (o := 0) rfl tf11) ?_
   refine l_nil ?_
   exact f_owes_d (up_cons rfl hs1) rfl (List.Perm.refl _)
  ·rintro f M ⟨k0, -⟩ -
   have hs18 : f 18 = .pointer (some ⟨b1, 6, none⟩) := k0
   refine ob_start (L' := pt b1 (.cells (bC b) 31) :: M) (by rfl) (up_cons rfl hs18) ?_
   refine l_val (v := Ix (b.h)) rfl rfl rfl (e_load1 tf2 (v := Ix (b.h)) rfl (k_pt 0 (cs := (bC b)) (vs := [Ix (b.h)]) rfl rfl)) ?_
   refine l_nil ?_
   exact f_owes_d (up_cons rfl hs18) rfl (perm_front 0 rfl)
  ·rintro f M ⟨k0, k1, -⟩ -
   have hs17 : f 17 = Ix (b.y) := k0
   have hs19 : f 19 = Ix (b.h) := k1
   refine ob_start (L' := M) (by rfl) (up_cons (up_cons rfl hs17) hs19) ?_
   refine l_val (v := Ix ((b.y) - (b.h))) rfl rfl rfl (e_sub (a := (b.y)) (b := (b.h)) rfl rfl (i64w (by omega))) ?_
   refine l_nil ?_
   exact f_owes_d (up_cons (up_cons rfl hs17) hs19) rfl (List.Perm.refl _)
  ·rintro f M ⟨k0, k1, -⟩ -
   have hs14 : f 14 = Ix ((b.x) - (b.w)) := k0
   have hs20 : f 20 = Ix ((b.y) - (b.h)) := k1
   refine ob_start (L' := M) (by rfl) (up_cons (up_cons rfl hs14) hs20) ?_
   refine l_val (v := .agg #[Ix ((b.x) - (b.w)), Ix ((b.y) - (b.h))]) rfl rfl rfl (e_build tf17 tf16 (vs := [(0, Ix ((b.x) - (b.w))), (1, Ix ((b.y) - (b.h)))]) (cells := #[Ix ((b.x) - (b.w)), Ix ((b.y) - (b.h))]) rfl rfl) ?_
   refine l_nil ?_
   exact f_owes_d (up_cons (up_cons rfl hs14) hs20) rfl (List.Perm.refl _)
  ·rintro f M - ⟨i0, -⟩
   have hs1 : f 1 = .pointer (some ⟨b1, 0, none⟩) := i0
   refine ob_start (L' := M) (by rfl) (up_cons rfl hs1) ?_
   refine l_val (v := .pointer (some ⟨b1, 1, none⟩)) rfl rfl rfl (e_fieldPt (b := b1) (o := 0) rfl tf6) ?_
   refine l_nil ?_
   exact f_owes_d (up_cons rfl hs1) rfl (List.Perm.refl _)
  ·rintro f M ⟨k0, -⟩ -
   have hs22 : f 22 = .pointer (some ⟨b1, 1, none⟩) := k0
   refine ob_start (L' := M) (by rfl) (up_cons rfl hs22) ?_
   refine l_val (v := .pointer (some ⟨b1, 1, none⟩)) rfl rfl rfl (e_fieldPt (b := b1) (o := 1) rfl tf7) ?_
   refine l_nil ?_
   exact f_owes_d (up_cons rfl hs22) rfl (List.Perm.refl _)
  ·rintro f M ⟨k0, -⟩ -
   have hs23 : f 23 = .pointer (some ⟨b1, 1, none⟩) := k0
   refine ob_start (L' := pt b1 (.cells (bC b) 31) :: M) (by rfl) (up_cons rfl hs23) ?_
   refine l_val (v := Ix (b.x)) rfl rfl rfl (e_load1 tf2 (v := Ix (b.x)) rfl (k_pt 0 (cs := (bC b)) (vs := [Ix (b.x)]) rfl rfl)) ?_
   refine l_nil ?_
   exact f_owes_d (up_cons rfl hs23) rfl (perm_front 0 rfl)
  ·rintro f M - ⟨i0, -⟩
   have hs1 : f 1 = .pointer (some ⟨b1, 0, none⟩) := i0
   refine ob_start (L' := M) (by rfl) (up_cons rfl hs1) ?_
   refine l_val (v := .pointer (some ⟨b1, 5, none⟩)) rfl rfl rfl (e_fieldPt (b := b1) (o := 0) rfl tf10) ?_
   refine l_nil ?_
   exact f_owes_d (up_cons rfl hs1) rfl (List.Perm.refl _)
  ·rintro f M ⟨k0, -⟩ -
   have hs25 : f 25 = .pointer (some ⟨b1, 5, none⟩) := k0
   refine ob_start (L' := pt b1 (.cells (bC b) 31) :: M) (by rfl) (up_cons rfl hs25) ?_
   refine l_val (v := Ix (b.w)) rfl rfl rfl (e_load1 tf2 (v := Ix (b.w)) rfl (k_pt 0 (cs := (bC b)) (vs := [Ix (b.w)]) rfl rfl)) ?_
   refine l_nil ?_
   exact f_owes_d (up_cons rfl hs25) rfl (perm_front 0 rfl)
  ·rintro f M ⟨k0, k1, -⟩ -
   have hs24 : f 24 = Ix (b.x) := k0
   have hs26 : f 26 = Ix (b.w) := k1
   refine ob_start (L' := M) (by rfl) (up_cons (up_cons rfl hs24) hs26) ?_
   refine l_val (v := Ix ((b.x) + (b.w))) rfl rfl rfl (e_add (a := (b.x)) (b := (b.w)) rfl rfl (i64w (by omega))) ?_
   refine l_nil ?_
   exact f_owes_d (up_cons (up_cons rfl hs24) hs26) rfl (List.Perm.refl _)
  ·rintro f M - ⟨i0, -⟩
   have hs1 : f 1 = .pointer (some ⟨b1, 0, none⟩) := i0
   refine ob_start (L' := M) (by rfl) (up_cons rfl hs1) ?_
   refine l_val (v := .pointer (some ⟨b1, 1, none⟩)) rfl rfl rfl (e_fieldPt (b := b1) (o := 0) rfl tf6) ?_
   refine l_nil ?_
   exact f_owes_d (up_cons rfl hs1) rfl (List.Perm.refl _)
  ·rintro f M ⟨k0, -⟩ -
   have hs28 : f 28 = .pointer (some ⟨b1, 1, none⟩) := k0
   refine ob_start (L' := M) (by rfl) (up_cons rfl hs28) ?_
   refine l_val (v := .pointer (some ⟨b1, 2, none⟩)) rfl rfl rfl (e_fieldPt (b := b1) (o := 1) rfl tf8) ?_
   refine l_nil ?_
   exact f_owes_d (up_cons rfl hs28) rfl (List.Perm.refl _)
  ·rintro f M ⟨k0, -⟩ -
   have hs29 : f 29 = .pointer (some ⟨b1, 2, none⟩) := k0
   refine ob_start (L' := pt b1 (.cells (bC b) 31) :: M) (by rfl) (up_cons rfl hs29) ?_
   refine l_val (v := Ix (b.y)) rfl rfl rfl (e_load1 tf2 (v := Ix (b.y)) rfl (k_pt 0 (cs := (bC b)) (vs := [Ix (b.y)]) rfl rfl)) ?_
   refine l_nil ?_
   exact f_owes_d (up_cons rfl hs29) rfl (perm_front 0 rfl)
  ·rintro f M - ⟨i0, -⟩
   have hs1 : f 1 = .pointer (some ⟨b1, 0, none⟩) := i0
   refine ob_start (L' := M) (by rfl) (up_cons rfl hs1) ?_
   refine l_val (v := .pointer (some ⟨b1, 6, none⟩)) rfl rfl rfl (e_fieldPt (b := b1) (o := 0) rfl tf11) ?_
   refine l_nil ?_
   exact f_owes_d (up_cons rfl hs1) rfl (List.Perm.refl _)
  ·rintro f M ⟨k0, -⟩ -
   have hs31 : f 31 = .pointer (some ⟨b1, 6, none⟩) := k0
   refine ob_start (L' := pt b1 (.cells (bC b) 31) :: M) (by rfl) (up_cons rfl hs31) ?_
   refine l_val (v := Ix (b.h)) rfl rfl rfl (e_load1 tf2 (v := Ix (b.h)) rfl (k_pt 0 (cs := (bC b)) (vs := [Ix (b.h)]) rfl rfl)) ?_
   refine l_nil ?_
   exact f_owes_d (up_cons rfl hs31) rfl (perm_front 0 rfl)
  ·rintro f M ⟨k0, k1, -⟩ -
   have hs30 : f 30 = Ix (b.y) := k0
   have hs32 : f 32 = Ix (b.h) := k1
   refine ob_start (L' := M) (by rfl) (up_cons (up_cons rfl hs30) hs32) ?_
   refine l_val (v := Ix ((b.y) + (b.h))) rfl rfl rfl (e_add (a := (b.y)) (b := (b.h)) rfl rfl (i64w (by omega))) ?_
   refine l_nil ?_
   exact f_owes_d (up_cons (up_cons rfl hs30) hs32) rfl (List.Perm.refl _)
  ·rintro f M ⟨k0, k1, -⟩ -
   have hs27 : f 27 = Ix ((b.x) + (b.w)) := k0
   have hs33 : f 33 = Ix ((b.y) + (b.h)) := k1
   refine ob_start (L' := M) (by rfl) (up_cons (up_cons rfl hs27) hs33) ?_
   refine l_val (v := .agg #[Ix ((b.x) + (b.w)), Ix ((b.y) + (b.h))]) rfl rfl rfl (e_build tf17 tf16 (vs := [(0, Ix ((b.x) + (b.w))), (1, Ix ((b.y) + (b.h)))]) (cells := #[Ix ((b.x) + (b.w)), Ix ((b.y) + (b.h))]) rfl rfl) ?_
   refine l_nil ?_
   exact f_owes_d (up_cons (up_cons rfl hs27) hs33) rfl (List.Perm.refl _)
  ·rintro f M ⟨k0, -⟩ ⟨i0, -⟩
   have hs2 : f 2 = .pointer (some ⟨b2, 0, none⟩) := i0
   have hs21 : f 21 = .agg #[Ix ((b.x) - (b.w)), Ix ((b.y) - (b.h))] := k0
   refine ob_start (L' := pt b2 (.cells #[.int .i64 (0), .int .i64 (0)] 25) :: M) (by rfl) (up_cons (up_cons rfl hs2) hs21) ?_
   refine l_mu rfl rfl (m_store 0 tf15 (b := b2) (o := 0) (T := 25) (cs := #[.int .i64 (0), .int .i64 (0)]) (cs' := #[Ix ((b.x) - (b.w)), Ix ((b.y) - (b.h))]) (v := .agg #[Ix ((b.x) - (b.w)), Ix ((b.y) - (b.h))]) rfl rfl rfl rfl rfl rfl rfl) ?_
   refine l_nil ?_
   exact f_owes_n (up_cons (up_cons rfl hs2) hs21) trivial (perm_front 0 rfl)
  ·rintro f M ⟨k0, -⟩ ⟨i0, -⟩
   have hs3 : f 3 = .pointer (some ⟨b3, 0, none⟩) := i0
   have hs34 : f 34 = .agg #[Ix ((b.x) + (b.w)), Ix ((b.y) + (b.h))] := k0
   refine ob_start (L' := pt b3 (.cells #[.int .i64 (0), .int .i64 (0)] 25) :: M) (by rfl) (up_cons (up_cons rfl hs3) hs34) ?_
   refine l_mu rfl rfl (m_store 0 tf15 (b := b3) (o := 0) (T := 25) (cs := #[.int .i64 (0), .int .i64 (0)]) (cs' := #[Ix ((b.x) + (b.w)), Ix ((b.y) + (b.h))]) (v := .agg #[Ix ((b.x) + (b.w)), Ix ((b.y) + (b.h))]) rfl rfl rfl rfl rfl rfl rfl) ?_
   refine l_nil ?_
   exact f_owes_n (up_cons (up_cons rfl hs3) hs34) trivial (perm_front 0 rfl)
  rintro fa5 ⟨-, -, -, -, -, -, -, -, -, -, -, -, -, -, -, -, -, -, -, -, -, -, -, -, -, -, -, -, -⟩ ⟨j0, j1, -⟩
  refine f_re (L' := [pt b1 (.cells (bC b) 31), pt b2 (.cells #[Ix ((b.x) - (b.w)), Ix ((b.y) - (b.h))] 25), pt b3 (.cells #[Ix ((b.x) + (b.w)), Ix ((b.y) + (b.h))] 25)]) (by rfl) ?_
  refine f_rebase (d := 2) (v := .pointer (some ⟨b2, 0, none⟩)) j0 ?_
  refine f_rebase (d := 3) (v := .pointer (some ⟨b3, 0, none⟩)) j1 ?_
  refine f_then ?_
  refine c_ret ?_
  refine retG (l := [.cell 2 25, .cell 3 25]) (m := [.agg #[Ix ((b.x) - (b.w)), Ix ((b.y) - (b.h))], .agg #[Ix ((b.x) + (b.w)), Ix ((b.y) + (b.h))]]) (v := .tuple #[.agg #[Ix ((b.x) - (b.w)), Ix ((b.y) - (b.h))], .agg #[Ix ((b.x) + (b.w)), Ix ((b.y) + (b.h))]]) Tryd.results28 ⟨rd_cell tf15 (cs := [Ix ((b.x) - (b.w)), Ix ((b.y) - (b.h))]) rfl (k_pt 1 (cs := #[Ix ((b.x) - (b.w)), Ix ((b.y) - (b.h))]) (vs := [Ix ((b.x) - (b.w)), Ix ((b.y) - (b.h))]) rfl rfl) rfl, rd_cell tf15 (cs := [Ix ((b.x) + (b.w)), Ix ((b.y) + (b.h))]) rfl (k_pt 2 (cs := #[Ix ((b.x) + (b.w)), Ix ((b.y) + (b.h))]) (vs := [Ix ((b.x) + (b.w)), Ix ((b.y) + (b.h))]) rfl rfl) rfl, trivial⟩ rfl ?_
  intro w hw
  exact ⟨rfl, st_mask [false, false, false] rfl hw⟩
set_option maxHeartbeats 4000000 in
theorem reach_ok (β : Base) (w : World) (hw : St β [] w) (b : KB) (gx gy : Int) (ok_b : okB b) (hov : okV gx gy) : Calls Tryd.prog 29 #[.agg (bC b), .agg #[Ix gx, Ix gy]] w fun r w' => r = .returned (.agg #[Ix (b.x - b.w + min (speedX b gx gy) 0), Ix (b.y - b.h + min (speedY b gx gy) 0), Ix (b.x + b.w + max (speedX b gx gy) 0), Ix (b.y + b.h + max (speedY b gx gy) 0)]) ∧ St β [] w' := by
 have kp1 := ok_b.2.1
 have kp2 := ok_b.2.2.1
 have kp3 := ok_b.2.2.2.2.2.1
 have kp4 := ok_b.2.2.2.2.2.2.1
 have hgx := hov.1
 have hgx2 := hov.2.1
 have hgy := hov.2.2.1
 have hgy2 := hov.2.2.2
 have hsp := speed_bd b gx gy
 refine enter (n := 52) Tryd.func29 rfl Tryd.ntmps29 rfl ?_ hw
 refine c_seq ?_
 refine c_region ?_
 refine l_mv rfl rfl rfl (m_box (v := .agg (bC b)) rfl) ?_
 rintro _ _ ⟨b1, rfl, rfl⟩
 refine l_mv rfl rfl rfl (m_box (v := .agg #[Ix (gx), Ix (gy)]) rfl) ?_
 rintro _ _ ⟨b2, rfl, rfl⟩
 refine l_mv rfl rfl rfl (m_alloc tf132) ?_
 rintro _ _ ⟨b3, rfl, rfl⟩
 refine l_nil ?_
 refine f_then ?_
 refine c_seq ?_
 refine c_seq ?_
 refine c_region ?_
 refine l_val (v := .agg (bC b)) rfl rfl rfl (e_load tf22 (cs := (bodyE b)) rfl (k_pt 2 (cs := (bC b)) (vs := (bodyE b)) rfl rfl) rfl) ?_
 refine l_call rfl rfl rfl (cl_value (fst := []) (cap := []) (vs := [.agg (bC b)]) (all := [.agg (bC b)]) tf24 rfl rfl rfl) ?_
 intro w hw
 obtain ⟨β1, sb, kn, hw1, back⟩ := St.frame_all hw
 refine (valid_ok β1 w hw1 b).mono ?_
 rintro e w' ⟨rfl, hw'⟩
 refine ⟨_, rfl, _, back _ _ hw', ?_⟩
 clear hw hw1 hw' back kn sb
 refine l_val (v := .bool (decide (¬ (okB b)))) rfl rfl rfl (e_not_p (p := okB b) rfl) ?_
 refine l_val (v := .bool (decide (¬ (okB b)))) rfl rfl rfl (e_move) ?_
 refine l_split (s := 11) (p := ¬ (okB b)) rfl (fun h => ?_) (fun h => ?_)
 exact absurd h (fun h => h ok_b)
 refine g_val (v := .agg #[Ix (gx), Ix (gy)]) rfl rfl rfl rfl rfl (e_load tf15 (cs := [Ix (gx), Ix (gy)]) rfl (k_pt 1 (cs := #[Ix (gx), Ix (gy)]) (vs := [Ix (gx), Ix (gy)]) rfl rfl) rfl) ?_
 refine g_call rfl rfl rfl rfl rfl (cl_value (fst := []) (cap := []) (vs := [.agg #[Ix (gx), Ix (gy)]]) (all := [.agg #[Ix (gx), Ix (gy)]]) tf34 rfl rfl rfl) ?_
 intro w hw
 obtain ⟨β1, sb, kn, hw1, back⟩ := St.frame_all hw
 refine (pull_ok β1 w hw1 (gx) (gy) (by omega) (by omega)).mono ?_
 rintro e w' ⟨rfl, hw'⟩
 refine ⟨_, rfl, _, back _ _ hw', ?_⟩
 clear hw hw1 hw' back kn sb
 refine g_val (v := .bool (decide (¬ (okV (gx) (gy))))) rfl rfl rfl rfl rfl (e_not_p (p := okV (gx) (gy)) rfl) ?_
 refine l_val (v := .bool (decide (¬ (okV (gx) (gy))))) rfl rfl rfl (e_pick_f rfl) ?_
 refine l_nil ?_
 refine f_then ?_
 refine c_if (¬ (okV (gx) (gy))) rfl (fun hc4 => ?_) (fun hc4 => ?_)
 ·
  exact absurd hc4 (fun h => h hov)
 ·
  refine c_skip ?_
  refine f_then ?_
  refine c_seq ?_
  refine c_region ?_
  refine l_val (v := .agg (bC b)) rfl rfl rfl (e_load tf22 (cs := (bodyE b)) rfl (k_pt 2 (cs := (bC b)) (vs := (bodyE b)) rfl rfl) rfl) ?_
  refine l_call rfl rfl rfl (cl_value (fst := []) (cap := []) (vs := [.agg (bC b)]) (all := [.agg (bC b)]) tf133 rfl rfl rfl) ?_
  intro w hw
  obtain ⟨β1, sb, kn, hw1, back⟩ := St.frame_all hw
  refine (bounds_ok β1 w hw1 b ok_b).mono ?_
  rintro e w' ⟨rfl, hw'⟩
  refine ⟨_, rfl, _, back _ _ hw', ?_⟩
  clear hw hw1 hw' back kn sb
  refine l_val (v := .tuple #[.agg #[Ix (b.x - b.w), Ix (b.y - b.h)], .agg #[Ix (b.x + b.w), Ix (b.y + b.h)]]) rfl rfl rfl (e_move) ?_
  refine l_val (v := .agg #[Ix (b.x - b.w), Ix (b.y - b.h)]) rfl rfl rfl (e_extract (vs := #[.agg #[Ix (b.x - b.w), Ix (b.y - b.h)], .agg #[Ix (b.x + b.w), Ix (b.y + b.h)]]) rfl rfl) ?_
  refine l_val (v := .agg #[Ix (b.x + b.w), Ix (b.y + b.h)]) rfl rfl rfl (e_extract (vs := #[.agg #[Ix (b.x - b.w), Ix (b.y - b.h)], .agg #[Ix (b.x + b.w), Ix (b.y + b.h)]]) rfl rfl) ?_
  refine l_mv rfl rfl rfl (m_alloc tf17) ?_
  rintro _ _ ⟨b5, rfl, rfl⟩
  refine l_mv rfl rfl rfl (m_alloc tf17) ?_
  rintro _ _ ⟨b6, rfl, rfl⟩
  refine l_mu rfl rfl (m_store 1 tf15 (b := b5) (o := 0) (T := 25) (cs := #[.int .i64 (0), .int .i64 (0)]) (cs' := #[Ix (b.x - b.w), Ix (b.y - b.h)]) (v := .agg #[Ix (b.x - b.w), Ix (b.y - b.h)]) rfl rfl rfl rfl rfl rfl rfl) ?_
  refine l_mu rfl rfl (m_store 0 tf15 (b := b6) (o := 0) (T := 25) (cs := #[.int .i64 (0), .int .i64 (0)]) (cs' := #[Ix (b.x + b.w), Ix (b.y + b.h)]) (v := .agg #[Ix (b.x + b.w), Ix (b.y + b.h)]) rfl rfl rfl rfl rfl rfl rfl) ?_
  refine l_nil ?_
  refine f_then ?_
  refine c_seq ?_
  refine c_region ?_
  refine l_val (v := .agg (bC b)) rfl rfl rfl (e_load tf22 (cs := (bodyE b)) rfl (k_pt 4 (cs := (bC b)) (vs := (bodyE b)) rfl rfl) rfl) ?_
  refine l_val (v := .agg #[Ix (gx), Ix (gy)]) rfl rfl rfl (e_load tf15 (cs := [Ix (gx), Ix (gy)]) rfl (k_pt 3 (cs := #[Ix (gx), Ix (gy)]) (vs := [Ix (gx), Ix (gy)]) rfl rfl) rfl) ?_
  refine l_call rfl rfl rfl (cl_value (fst := []) (cap := []) (vs := [.agg (bC b), .agg #[Ix (gx), Ix (gy)]]) (all := [.agg (bC b), .agg #[Ix (gx), Ix (gy)]]) tf91 rfl rfl rfl) ?_
  intro w hw
  obtain ⟨β1, sb, kn, hw1, back⟩ := St.frame_all hw
  refine (speed_ok β1 w hw1 b (gx) (gy) (by omega) (by omega)).mono ?_
  rintro e w' ⟨rfl, hw'⟩
  refine ⟨_, rfl, _, back _ _ hw', ?_⟩
  clear hw hw1 hw' back kn sb
  refine l_mv rfl rfl rfl (m_alloc tf17) ?_
  rintro _ _ ⟨b7, rfl, rfl⟩
  refine l_mu rfl rfl (m_store 0 tf15 (b := b7) (o := 0) (T := 25) (cs := #[.int .i64 (0), .int .i64 (0)]) (cs' := #[Ix (speedX b (gx) (gy)), Ix (speedY b (gx) (gy))]) (v := .agg #[Ix (speedX b (gx) (gy)), Ix (speedY b (gx) (gy))]) rfl rfl rfl rfl rfl rfl rfl) ?_
  refine l_nil ?_
  refine f_then ?_
  refine c_seq ?_
  refine c_region ?_
  refine l_val (v := .pointer (some ⟨b5, 0, none⟩)) rfl rfl rfl (e_fieldPt (b := b5) (o := 0) rfl tf7) ?_
  refine l_val (v := Ix (b.x - b.w)) rfl rfl rfl (e_load1 tf2 (v := Ix (b.x - b.w)) rfl (k_pt 2 (cs := #[Ix (b.x - b.w), Ix (b.y - b.h)]) (vs := [Ix (b.x - b.w)]) rfl rfl)) ?_
  refine l_val (v := .pointer (some ⟨b7, 0, none⟩)) rfl rfl rfl (e_fieldPt (b := b7) (o := 0) rfl tf7) ?_
  refine l_val (v := Ix (speedX b (gx) (gy))) rfl rfl rfl (e_load1 tf2 (v := Ix (speedX b (gx) (gy))) rfl (k_pt 0 (cs := #[Ix (speedX b (gx) (gy)), Ix (speedY b (gx) (gy))]) (vs := [Ix (speedX b (gx) (gy))]) rfl rfl)) ?_
  refine l_val (v := Ix (min (speedX b (gx) (gy)) (0 : Int))) rfl rfl rfl (e_min (a := (speedX b (gx) (gy))) (b := (0 : Int)) rfl rfl) ?_
  refine l_val (v := Ix ((b.x - b.w) + (min (speedX b (gx) (gy)) (0 : Int)))) rfl rfl rfl (e_add (a := (b.x - b.w)) (b := (min (speedX b (gx) (gy)) (0 : Int))) rfl rfl (i64w (by omega))) ?_
  refine l_val (v := .pointer (some ⟨b5, 1, none⟩)) rfl rfl rfl (e_fieldPt (b := b5) (o := 0) rfl tf8) ?_
  refine l_val (v := Ix (b.y - b.h)) rfl rfl rfl (e_load1 tf2 (v := Ix (b.y - b.h)) rfl (k_pt 2 (cs := #[Ix (b.x - b.w), Ix (b.y - b.h)]) (vs := [Ix (b.y - b.h)]) rfl rfl)) ?_
  refine l_val (v := .pointer (some ⟨b7, 1, none⟩)) rfl rfl rfl (e_fieldPt (b := b7) (o := 0) rfl tf8) ?_
  refine l_val (v := Ix (speedY b (gx) (gy))) rfl rfl rfl (e_load1 tf2 (v := Ix (speedY b (gx) (gy))) rfl (k_pt 0 (cs := #[Ix (speedX b (gx) (gy)), Ix (speedY b (gx) (gy))]) (vs := [Ix (speedY b (gx) (gy))]) rfl rfl)) ?_
  refine l_val (v := Ix (min (speedY b (gx) (gy)) (0 : Int))) rfl rfl rfl (e_min (a := (speedY b (gx) (gy))) (b := (0 : Int)) rfl rfl) ?_
  refine l_val (v := Ix ((b.y - b.h) + (min (speedY b (gx) (gy)) (0 : Int)))) rfl rfl rfl (e_add (a := (b.y - b.h)) (b := (min (speedY b (gx) (gy)) (0 : Int))) rfl rfl (i64w (by omega))) ?_
  refine l_val (v := .agg #[Ix ((b.x - b.w) + (min (speedX b (gx) (gy)) (0 : Int))), Ix ((b.y - b.h) + (min (speedY b (gx) (gy)) (0 : Int)))]) rfl rfl rfl (e_build tf17 tf16 (vs := [(0, Ix ((b.x - b.w) + (min (speedX b (gx) (gy)) (0 : Int)))), (1, Ix ((b.y - b.h) + (min (speedY b (gx) (gy)) (0 : Int))))]) (cells := #[Ix ((b.x - b.w) + (min (speedX b (gx) (gy)) (0 : Int))), Ix ((b.y - b.h) + (min (speedY b (gx) (gy)) (0 : Int)))]) rfl rfl) ?_
  refine l_val (v := .pointer (some ⟨b6, 0, none⟩)) rfl rfl rfl (e_fieldPt (b := b6) (o := 0) rfl tf7) ?_
  refine l_val (v := Ix (b.x + b.w)) rfl rfl rfl (e_load1 tf2 (v := Ix (b.x + b.w)) rfl (k_pt 1 (cs := #[Ix (b.x + b.w), Ix (b.y + b.h)]) (vs := [Ix (b.x + b.w)]) rfl rfl)) ?_
  refine l_val (v := .pointer (some ⟨b7, 0, none⟩)) rfl rfl rfl (e_fieldPt (b := b7) (o := 0) rfl tf7) ?_
  refine l_val (v := Ix (speedX b (gx) (gy))) rfl rfl rfl (e_load1 tf2 (v := Ix (speedX b (gx) (gy))) rfl (k_pt 0 (cs := #[Ix (speedX b (gx) (gy)), Ix (speedY b (gx) (gy))]) (vs := [Ix (speedX b (gx) (gy))]) rfl rfl)) ?_
  refine l_val (v := Ix (max (speedX b (gx) (gy)) (0 : Int))) rfl rfl rfl (e_max (a := (speedX b (gx) (gy))) (b := (0 : Int)) rfl rfl) ?_
  refine l_val (v := Ix ((b.x + b.w) + (max (speedX b (gx) (gy)) (0 : Int)))) rfl rfl rfl (e_add (a := (b.x + b.w)) (b := (max (speedX b (gx) (gy)) (0 : Int))) rfl rfl (i64w (by omega))) ?_
  refine l_val (v := .pointer (some ⟨b6, 1, none⟩)) rfl rfl rfl (e_fieldPt (b := b6) (o := 0) rfl tf8) ?_
  refine l_val (v := Ix (b.y + b.h)) rfl rfl rfl (e_load1 tf2 (v := Ix (b.y + b.h)) rfl (k_pt 1 (cs := #[Ix (b.x + b.w), Ix (b.y + b.h)]) (vs := [Ix (b.y + b.h)]) rfl rfl)) ?_
  refine l_val (v := .pointer (some ⟨b7, 1, none⟩)) rfl rfl rfl (e_fieldPt (b := b7) (o := 0) rfl tf8) ?_
  refine l_val (v := Ix (speedY b (gx) (gy))) rfl rfl rfl (e_load1 tf2 (v := Ix (speedY b (gx) (gy))) rfl (k_pt 0 (cs := #[Ix (speedX b (gx) (gy)), Ix (speedY b (gx) (gy))]) (vs := [Ix (speedY b (gx) (gy))]) rfl rfl)) ?_
  refine l_val (v := Ix (max (speedY b (gx) (gy)) (0 : Int))) rfl rfl rfl (e_max (a := (speedY b (gx) (gy))) (b := (0 : Int)) rfl rfl) ?_
  refine l_val (v := Ix ((b.y + b.h) + (max (speedY b (gx) (gy)) (0 : Int)))) rfl rfl rfl (e_add (a := (b.y + b.h)) (b := (max (speedY b (gx) (gy)) (0 : Int))) rfl rfl (i64w (by omega))) ?_
  refine l_val (v := .agg #[Ix ((b.x + b.w) + (max (speedX b (gx) (gy)) (0 : Int))), Ix ((b.y + b.h) + (max (speedY b (gx) (gy)) (0 : Int)))]) rfl rfl rfl (e_build tf17 tf16 (vs := [(0, Ix ((b.x + b.w) + (max (speedX b (gx) (gy)) (0 : Int)))), (1, Ix ((b.y + b.h) + (max (speedY b (gx) (gy)) (0 : Int))))]) (cells := #[Ix ((b.x + b.w) + (max (speedX b (gx) (gy)) (0 : Int))), Ix ((b.y + b.h) + (max (speedY b (gx) (gy)) (0 : Int)))]) rfl rfl) ?_
  refine l_val (v := .agg #[Ix ((b.x - b.w) + (min (speedX b (gx) (gy)) (0 : Int))), Ix ((b.y - b.h) + (min (speedY b (gx) (gy)) (0 : Int))), Ix ((b.x + b.w) + (max (speedX b (gx) (gy)) (0 : Int))), Ix ((b.y + b.h) + (max (speedY b (gx) (gy)) (0 : Int)))]) rfl rfl rfl (e_build tf132 tf134 (vs := [(0, .agg #[Ix ((b.x - b.w) + (min (speedX b (gx) (gy)) (0 : Int))), Ix ((b.y - b.h) + (min (speedY b (gx) (gy)) (0 : Int)))]), (1, .agg #[Ix ((b.x + b.w) + (max (speedX b (gx) (gy)) (0 : Int))), Ix ((b.y + b.h) + (max (speedY b (gx) (gy)) (0 : Int)))])]) (cells := #[Ix ((b.x - b.w) + (min (speedX b (gx) (gy)) (0 : Int))), Ix ((b.y - b.h) + (min (speedY b (gx) (gy)) (0 : Int))), Ix ((b.x + b.w) + (max (speedX b (gx) (gy)) (0 : Int))), Ix ((b.y + b.h) + (max (speedY b (gx) (gy)) (0 : Int)))]) rfl rfl) ?_
  refine l_mu rfl rfl (m_store 3 tf135 (b := b3) (o := 0) (T := 62) (cs := #[.int .i64 (0), .int .i64 (0), .int .i64 (0), .int .i64 (0)]) (cs' := #[Ix ((b.x - b.w) + (min (speedX b (gx) (gy)) (0 : Int))), Ix ((b.y - b.h) + (min (speedY b (gx) (gy)) (0 : Int))), Ix ((b.x + b.w) + (max (speedX b (gx) (gy)) (0 : Int))), Ix ((b.y + b.h) + (max (speedY b (gx) (gy)) (0 : Int)))]) (v := .agg #[Ix ((b.x - b.w) + (min (speedX b (gx) (gy)) (0 : Int))), Ix ((b.y - b.h) + (min (speedY b (gx) (gy)) (0 : Int))), Ix ((b.x + b.w) + (max (speedX b (gx) (gy)) (0 : Int))), Ix ((b.y + b.h) + (max (speedY b (gx) (gy)) (0 : Int)))]) rfl rfl rfl rfl rfl rfl rfl) ?_
  refine l_nil ?_
  refine f_then ?_
  refine c_ret ?_
  refine retG (l := [.cell 4 62]) (m := [.agg #[Ix ((b.x - b.w) + (min (speedX b (gx) (gy)) (0 : Int))), Ix ((b.y - b.h) + (min (speedY b (gx) (gy)) (0 : Int))), Ix ((b.x + b.w) + (max (speedX b (gx) (gy)) (0 : Int))), Ix ((b.y + b.h) + (max (speedY b (gx) (gy)) (0 : Int)))]]) (v := .agg #[Ix ((b.x - b.w) + (min (speedX b (gx) (gy)) (0 : Int))), Ix ((b.y - b.h) + (min (speedY b (gx) (gy)) (0 : Int))), Ix ((b.x + b.w) + (max (speedX b (gx) (gy)) (0 : Int))), Ix ((b.y + b.h) + (max (speedY b (gx) (gy)) (0 : Int)))]) Tryd.results29 ⟨rd_cell tf135 (cs := [Ix ((b.x - b.w) + (min (speedX b (gx) (gy)) (0 : Int))), Ix ((b.y - b.h) + (min (speedY b (gx) (gy)) (0 : Int))), Ix ((b.x + b.w) + (max (speedX b (gx) (gy)) (0 : Int))), Ix ((b.y + b.h) + (max (speedY b (gx) (gy)) (0 : Int)))]) rfl (k_pt 3 (cs := #[Ix ((b.x - b.w) + (min (speedX b (gx) (gy)) (0 : Int))), Ix ((b.y - b.h) + (min (speedY b (gx) (gy)) (0 : Int))), Ix ((b.x + b.w) + (max (speedX b (gx) (gy)) (0 : Int))), Ix ((b.y + b.h) + (max (speedY b (gx) (gy)) (0 : Int)))]) (vs := [Ix ((b.x - b.w) + (min (speedX b (gx) (gy)) (0 : Int))), Ix ((b.y - b.h) + (min (speedY b (gx) (gy)) (0 : Int))), Ix ((b.x + b.w) + (max (speedX b (gx) (gy)) (0 : Int))), Ix ((b.y + b.h) + (max (speedY b (gx) (gy)) (0 : Int)))]) rfl rfl) rfl, trivial⟩ rfl ?_
  intro w hw
  exact ⟨rfl, st_mask [false, false, false, false, false, false] rfl hw⟩
set_option maxHeartbeats 4000000 in
theorem cleared_ok (β : Base) (w : World) (hw : St β [] w) (v rv : Value) (gx gy : Int) (bs : List KB) (rs : List KR) (hs : Sl KBR β.heap v bs) (hr : Sl KRR β.heap rv rs) (hG : GR β) (hok : okS bs rs gx gy) : Calls Tryd.prog 25 #[.agg #[v, rv, Ix gx, Ix gy]] w fun r w' => ∃ B R p c p2 c2, r = .returned (.agg #[.slice p B.length c, .slice p2 R.length c2, Ix gx, Ix gy]) ∧ okS B R gx gy ∧ apartP B ∧ St β [rowF BodyF 31 p c B, rowF RopeF 35 p2 c2 R] w' := by
 obtain ⟨va, vc, rfl, vl, vm, ve⟩ := hs.get
 obtain ⟨rva, rvc, rfl, rvl, rvm, rve⟩ := hr.get
 obtain ⟨o1, o2, o3, o4, o5, o6⟩ := id hok
 refine enter (n := 71) Tryd.func25 rfl Tryd.ntmps25 rfl ?_ hw
 refine c_seq ?_
 refine c_region ?_
 refine l_mv rfl rfl rfl (m_box (v := .agg #[.slice va (bs.length) (vc), .slice rva (rs.length) (rvc), Ix (gx), Ix (gy)]) rfl) ?_
 rintro _ _ ⟨b1, rfl, rfl⟩
 refine l_mv rfl rfl rfl (m_alloc tf85) ?_
 rintro _ _ ⟨b2, rfl, rfl⟩
 refine l_nil ?_
 refine f_then ?_
 refine c_seq ?_
 refine c_region ?_
 refine l_val (v := .pointer (some ⟨b1, 2, none⟩)) rfl rfl rfl (e_fieldPt (b := b1) (o := 0) rfl tf57) ?_
 refine l_val (v := .agg #[Ix (gx), Ix (gy)]) rfl rfl rfl (e_load tf15 (cs := [Ix (gx), Ix (gy)]) rfl (k_pt 1 (cs := #[.slice va (bs.length) (vc), .slice rva (rs.length) (rvc), Ix (gx), Ix (gy)]) (vs := [Ix (gx), Ix (gy)]) rfl rfl) rfl) ?_
 refine l_val (v := .agg #[.slice none 0 0, .slice none 0 0, Ix (gx), Ix (gy)]) rfl rfl rfl (e_build tf85 tf88 (vs := [(2, .agg #[Ix (gx), Ix (gy)])]) (cells := #[.slice none 0 0, .slice none 0 0, Ix (gx), Ix (gy)]) rfl rfl) ?_
 refine l_mv rfl rfl rfl (m_alloc tf85) ?_
 rintro _ _ ⟨b3, rfl, rfl⟩
 refine l_mu rfl rfl (m_store 0 tf86 (b := b3) (o := 0) (T := 27) (cs := #[.slice none 0 0, .slice none 0 0, .int .i64 (0), .int .i64 (0)]) (cs' := #[.slice none 0 0, .slice none 0 0, Ix (gx), Ix (gy)]) (v := .agg #[.slice none 0 0, .slice none 0 0, Ix (gx), Ix (gy)]) rfl rfl rfl rfl rfl rfl rfl) ?_
 refine l_nil ?_
 refine f_then ?_
 refine c_seq ?_
 refine c_seq ?_
 refine c_emp (r := rowF BodyF 31 none 0 []) (row_nil _ _ _) ?_
 refine c_region ?_
 refine l_val (v := .pointer (some ⟨b1, 0, none⟩)) rfl rfl rfl (e_fieldPt (b := b1) (o := 0) rfl tf49) ?_
 refine l_val (v := .slice va (bs.length) (vc)) rfl rfl rfl (e_load1 tf50 (v := .slice va (bs.length) (vc)) rfl (k_pt 3 (cs := #[.slice va (bs.length) (vc), .slice rva (rs.length) (rvc), Ix (gx), Ix (gy)]) (vs := [.slice va (bs.length) (vc)]) rfl rfl)) ?_
 refine l_val (v := Nx (bs.length)) rfl rfl rfl (e_len (a := va) (n := bs.length) (c := vc) rfl tf40) ?_
 refine l_val (v := .int .i64 (0)) rfl rfl rfl (e_move) ?_
 refine l_nil ?_
 refine f_then ?_
 refine c_block ?_
 refine c_mask [true, true, true, true] rfl ?_
 refine c_loop (fun (x_ : Nat × List KB × Option Addr × Nat) (f : Fm) (L : List Res) => match x_ with | (k, out, p, c) => (f 1 = .pointer (some ⟨b1, 0, none⟩) ∧ f 2 = .pointer (some ⟨b2, 0, none⟩) ∧ f 3 = .pointer (some ⟨b3, 0, none⟩) ∧ f 15 = .slice va (bs.length) (vc) ∧ f 16 = Nx (bs.length) ∧ f 17 = Nx (k)) ∧ L = [rowF BodyF 31 p c out, pt b3 (.cells #[.slice p (out.length) c, .slice none 0 0, Ix (gx), Ix (gy)] 27), pt b2 (.cells #[.slice none 0 0, .slice none 0 0, .int .i64 (0), .int .i64 (0)] 27), pt b1 (.cells #[.slice va (bs.length) (vc), .slice rva (rs.length) (rvc), Ix (gx), Ix (gy)] 27)] ∧ (k ≤ bs.length ∧ ClearP bs k out)) (fun (x_ : Nat × List KB × Option Addr × Nat) => match x_ with | (k, out, p, c) => bs.length - k) (0, [], none, 0) ?_ ?_
 ·exact ⟨⟨rfl, rfl, rfl, rfl, rfl, rfl⟩, rfl, ⟨by omega, clear_nil bs⟩⟩
 rintro ⟨k, out, p, c⟩ f0 L0 ⟨⟨hs1, hs2, hs3, hs15, hs16, hs17⟩, hL, ⟨hk, hC⟩⟩
 subst L0
 refine rebase (d := 1) hs1 ?_
 refine rebase (d := 2) hs2 ?_
 refine rebase (d := 3) hs3 ?_
 refine rebase (d := 15) hs15 ?_
 refine rebase (d := 16) hs16 ?_
 refine rebase (d := 17) hs17 ?_
 clear hs1 hs2 hs3 hs15 hs16 hs17
 have hCl := hC.len
 refine c_seq ?_
 refine c_region ?_
 refine l_val (v := .bool (decide (((k : Nat) : Int) < ((bs.length : Nat) : Int)))) rfl rfl rfl (e_lss (a := ((k : Nat) : Int)) (b := ((bs.length : Nat) : Int)) rfl rfl) ?_
 refine l_nil ?_
 refine f_then ?_
 refine c_seq ?_
 refine c_if (((k : Nat) : Int) < ((bs.length : Nat) : Int)) rfl (fun hc4 => ?_) (fun hc4 => ?_)
 ·
  refine c_skip ?_
  refine f_then ?_
  refine c_seq ?_
  refine c_block ?_
  refine c_seq ?_
  refine c_region ?_
  obtain ⟨x5, hx6⟩ : ∃ x_, (bs)[k]? = some x_ := ⟨_, List.getElem?_eq_getElem (by omega)⟩
  obtain ⟨ha7, cs8, hc9, rfl⟩ := ve _ _ hx6
  refine l_val (v := .pointer (some ((ba va).add (k * 9)))) rfl rfl rfl (e_indexAddr (k := k) (len := bs.length) (cap := vc) (a := va) rfl rfl tf43 (by omega) ha7) ?_
  refine l_val (v := .agg (bC x5)) rfl rfl rfl (e_load tf22 (cs := (bodyE x5)) rfl (Knows.of_base (Cs.mono _ _) hc9) rfl) ?_
  refine l_mv rfl rfl rfl (m_alloc tf58) ?_
  rintro _ _ ⟨b11, rfl, rfl⟩
  refine l_mu rfl rfl (m_store 0 tf22 (b := b11) (o := 0) (T := 31) (cs := #[.int .i64 (0), .int .i64 (0), .int .i64 (0), .int .i64 (0), .int .i64 (0), .int .i64 (0), .int .i64 (0), .bool false, .bool false]) (cs' := (bC x5)) (v := .agg (bC x5)) rfl rfl rfl rfl rfl rfl rfl) ?_
  refine l_nil ?_
  refine f_then ?_
  refine c_seq ?_
  refine c_region ?_
  refine l_val (v := .bool true) rfl rfl rfl (e_assign) ?_
  refine l_nil ?_
  refine f_then ?_
  refine c_seq ?_
  refine c_seq ?_
  refine c_region ?_
  refine l_val (v := .pointer (some ⟨b3, 0, none⟩)) rfl rfl rfl (e_fieldPt (b := b3) (o := 0) rfl tf49) ?_
  refine l_val (v := .slice p (out.length) c) rfl rfl rfl (e_load1 tf50 (v := .slice p (out.length) c) rfl (k_pt 2 (cs := #[.slice p (out.length) c, .slice none 0 0, Ix (gx), Ix (gy)]) (vs := [.slice p (out.length) c]) rfl rfl)) ?_
  refine l_val (v := Nx (out.length)) rfl rfl rfl (e_len (a := p) (n := out.length) (c := c) rfl tf40) ?_
  refine l_val (v := .int .i64 (0)) rfl rfl rfl (e_move) ?_
  refine l_nil ?_
  refine f_then ?_
  refine c_block ?_
  refine c_loop (fun (x_ : Nat × Bool) (f : Fm) (L : List Res) => match x_ with | (j, okv) => (f 1 = .pointer (some ⟨b1, 0, none⟩) ∧ f 2 = .pointer (some ⟨b2, 0, none⟩) ∧ f 3 = .pointer (some ⟨b3, 0, none⟩) ∧ f 5 = .pointer (some ⟨b11, 0, none⟩) ∧ f 6 = .bool (okv) ∧ f 15 = .slice va (bs.length) (vc) ∧ f 16 = Nx (bs.length) ∧ f 17 = Nx (k) ∧ f 22 = .slice p (out.length) c ∧ f 23 = Nx (out.length) ∧ f 24 = Nx (j)) ∧ L = [pt b11 (.cells (bC x5) 31), rowF BodyF 31 p c out, pt b3 (.cells #[.slice p (out.length) c, .slice none 0 0, Ix (gx), Ix (gy)] 27), pt b2 (.cells #[.slice none 0 0, .slice none 0 0, .int .i64 (0), .int .i64 (0)] 27), pt b1 (.cells #[.slice va (bs.length) (vc), .slice rva (rs.length) (rvc), Ix (gx), Ix (gy)] 27)] ∧ (j ≤ out.length ∧ (okv = true ↔ ∀ o ∈ out.take j, ¬ over x5 o))) (fun (x_ : Nat × Bool) => match x_ with | (j, okv) => out.length - j) (0, true) ?_ ?_
  ·exact ⟨⟨rfl, rfl, rfl, rfl, rfl, rfl, rfl, rfl, rfl, rfl, rfl⟩, rfl, ⟨by omega, fun _ o ho => by simp at ho, fun _ => rfl⟩⟩
  rintro ⟨j, okv⟩ f0 L0 ⟨⟨hs1, hs2, hs3, hs5, hs6, hs15, hs16, hs17, hs22, hs23, hs24⟩, hL, ⟨hj, hokv⟩⟩
  subst L0
  refine rebase (d := 1) hs1 ?_
  refine rebase (d := 2) hs2 ?_
  refine rebase (d := 3) hs3 ?_
  refine rebase (d := 5) hs5 ?_
  refine rebase (d := 6) hs6 ?_
  refine rebase (d := 15) hs15 ?_
  refine rebase (d := 16) hs16 ?_
  refine rebase (d := 17) hs17 ?_
  refine rebase (d := 22) hs22 ?_
  refine rebase (d := 23) hs23 ?_
  refine rebase (d := 24) hs24 ?_
  clear hs1 hs2 hs3 hs5 hs6 hs15 hs16 hs17 hs22 hs23 hs24
  refine c_seq ?_
  refine c_region ?_
  refine l_val (v := .bool (decide (((j : Nat) : Int) < ((out.length : Nat) : Int)))) rfl rfl rfl (e_lss (a := ((j : Nat) : Int)) (b := ((out.length : Nat) : Int)) rfl rfl) ?_
  refine l_nil ?_
  refine f_then ?_
  refine c_seq ?_
  refine c_if (((j : Nat) : Int) < ((out.length : Nat) : Int)) rfl (fun hc12 => ?_) (fun hc12 => ?_)
  ·
   refine c_skip ?_
   refine f_then ?_
   refine c_seq ?_
   refine c_block ?_
   refine c_seq ?_
   refine c_region ?_
   refine l_val (v := .pointer (some ((ba p).add (j * 9)))) rfl rfl rfl (e_indexFlN 1 (F := BodyF) (j := j) (m := out.length) (xs := out) rfl rfl rfl tf43 (by omega) rfl) ?_
   obtain ⟨x13, hx14⟩ : ∃ x_, out[j]? = some x_ := ⟨_, List.getElem?_eq_getElem (by omega)⟩
   refine l_val (v := .agg (bC x13)) rfl rfl rfl (e_load tf22 (cs := (bodyE x13)) rfl (k_flAt 1 (F := BodyF) rfl hx14) rfl) ?_
   refine l_mv rfl rfl rfl (m_alloc tf58) ?_
   rintro _ _ ⟨b15, rfl, rfl⟩
   refine l_mu rfl rfl (m_store 0 tf22 (b := b15) (o := 0) (T := 31) (cs := #[.int .i64 (0), .int .i64 (0), .int .i64 (0), .int .i64 (0), .int .i64 (0), .int .i64 (0), .int .i64 (0), .bool false, .bool false]) (cs' := (bC x13)) (v := .agg (bC x13)) rfl rfl rfl rfl rfl rfl rfl) ?_
   refine l_nil ?_
   refine f_then ?_
   refine c_region ?_
   refine l_val (v := .bool (okv)) rfl rfl rfl (e_move) ?_
   refine l_val (v := .bool (okv)) rfl rfl rfl (e_move) ?_
   refine l_splitb (s := 29) (b := okv) rfl (fun hg16 => ?_) (fun hg16 => ?_)
   ·
    refine g_val (v := .agg (bC x5)) rfl rfl rfl rfl rfl (e_load tf22 (cs := (bodyE x5)) rfl (k_pt 1 (cs := (bC x5)) (vs := (bodyE x5)) rfl rfl) rfl) ?_
    refine g_val (v := .agg (bC x13)) rfl rfl rfl rfl rfl (e_load tf22 (cs := (bodyE x13)) rfl (k_pt 0 (cs := (bC x13)) (vs := (bodyE x13)) rfl rfl) rfl) ?_
    refine g_call rfl rfl rfl rfl rfl (cl_value (fst := []) (cap := []) (vs := [.agg (bC x5), .agg (bC x13)]) (all := [.agg (bC x5), .agg (bC x13)]) tf74 rfl rfl rfl) ?_
    intro w hw
    obtain ⟨β1, sb, kn, hw1, back⟩ := St.frame_all hw
    have hG1 := GR.mono sb hG
    refine (over_ok β1 w hw1 hG1 x5 x13).mono ?_
    rintro e w' ⟨rfl, hw'⟩
    refine ⟨_, rfl, _, back _ _ hw', ?_⟩
    clear hw hw1 hw' back kn sb
    refine g_val (v := .bool (decide (¬ (Stp.over x5 x13)))) rfl rfl rfl rfl rfl (e_not_p (p := Stp.over x5 x13) rfl) ?_
    refine l_val (v := .bool (decide (¬ (Stp.over x5 x13)))) rfl rfl rfl (e_pick_t rfl) ?_
    refine l_val (v := .bool (decide (¬ (Stp.over x5 x13)))) rfl rfl rfl (e_assign) ?_
    refine l_nil ?_
    refine f_block ?_
    refine f_then ?_
    refine c_region ?_
    refine l_val (v := Nx (j + 1)) rfl rfl rfl (e_add (a := ((j : Nat) : Int)) (b := (1 : Int)) rfl rfl (i64n (by omega) (by omega))) ?_
    refine l_val (v := Nx (j + 1)) rfl rfl rfl (e_move) ?_
    refine l_nil ?_
    refine f_mask (L' := [pt b11 (.cells (bC x5) 31), rowF BodyF 31 p c out, pt b3 (.cells #[.slice p (out.length) c, .slice none 0 0, Ix (gx), Ix (gy)] 27), pt b2 (.cells #[.slice none 0 0, .slice none 0 0, .int .i64 (0), .int .i64 (0)] 27), pt b1 (.cells #[.slice va (bs.length) (vc), .slice rva (rs.length) (rvc), Ix (gx), Ix (gy)] 27)]) [false, true, true, true, true, true] rfl ?_
    exact f_cut ⟨(j + 1, (decide (¬ (Stp.over x5 x13)))), ⟨⟨rfl, rfl, rfl, rfl, rfl, rfl, rfl, rfl, rfl, rfl, rfl⟩, rfl, ⟨by omega, clr_yes hg16 hokv hx14⟩⟩, (show out.length - (j + 1) < out.length - j from by omega)⟩
   ·
    refine l_skip rfl rfl rfl rfl rfl rfl ?_
    refine l_skip rfl rfl rfl rfl rfl rfl ?_
    refine l_skip rfl rfl rfl rfl rfl rfl ?_
    refine l_skip rfl rfl rfl rfl rfl rfl ?_
    refine l_val (v := .bool false) rfl rfl rfl (e_pick_f rfl) ?_
    refine l_val (v := .bool false) rfl rfl rfl (e_assign) ?_
    refine l_nil ?_
    refine f_block ?_
    refine f_then ?_
    refine c_region ?_
    refine l_val (v := Nx (j + 1)) rfl rfl rfl (e_add (a := ((j : Nat) : Int)) (b := (1 : Int)) rfl rfl (i64n (by omega) (by omega))) ?_
    refine l_val (v := Nx (j + 1)) rfl rfl rfl (e_move) ?_
    refine l_nil ?_
    refine f_mask (L' := [pt b11 (.cells (bC x5) 31), rowF BodyF 31 p c out, pt b3 (.cells #[.slice p (out.length) c, .slice none 0 0, Ix (gx), Ix (gy)] 27), pt b2 (.cells #[.slice none 0 0, .slice none 0 0, .int .i64 (0), .int .i64 (0)] 27), pt b1 (.cells #[.slice va (bs.length) (vc), .slice rva (rs.length) (rvc), Ix (gx), Ix (gy)] 27)]) [false, true, true, true, true, true] rfl ?_
    exact f_cut ⟨(j + 1, false), ⟨⟨rfl, rfl, rfl, rfl, rfl, rfl, rfl, rfl, rfl, rfl, rfl⟩, rfl, ⟨by omega, clr_no hg16 hokv⟩⟩, (show out.length - (j + 1) < out.length - j from by omega)⟩
  ·
   refine c_exit ?_
   refine f_then_exit ?_
   refine f_then_exit ?_
   refine f_exit ?_
   refine f_then ?_
   refine c_seq ?_
   refine c_region ?_
   refine l_val (v := .bool (okv)) rfl rfl rfl (e_move) ?_
   refine l_nil ?_
   refine f_then ?_
   refine c_ifb (okv) rfl (fun hc17 => ?_) (fun hc17 => ?_)
   ·
    refine c_region ?_
    refine l_val (v := .pointer (some ⟨b3, 0, none⟩)) rfl rfl rfl (e_fieldPt (b := b3) (o := 0) rfl tf49) ?_
    refine l_val (v := .slice p (out.length) c) rfl rfl rfl (e_load1 tf50 (v := .slice p (out.length) c) rfl (k_pt 2 (cs := #[.slice p (out.length) c, .slice none 0 0, Ix (gx), Ix (gy)]) (vs := [.slice p (out.length) c]) rfl rfl)) ?_
    refine l_val (v := .agg (bC x5)) rfl rfl rfl (e_load tf22 (cs := (bodyE x5)) rfl (k_pt 0 (cs := (bC x5)) (vs := (bodyE x5)) rfl rfl) rfl) ?_
    refine l_mv rfl rfl rfl (m_slices tf43 tf58 (vs := [(0, .agg (bC x5))]) (cells := (bC x5)) rfl rfl rfl (by kernel_rfl)) ?_
    rintro _ _ ⟨b18, rfl, rfl⟩
    refine l_mv rfl rfl rfl (m_appendFlN (F := BodyF) 2 tf43 tf83 (p := p) (m := out.length) (xs := out) (ys := [x5]) (ao := (some ⟨b18, 0, none⟩)) (k := 1) (c := 1) rfl rfl rfl rfl rfl (k_ptFl (z := x5) 0 rfl rfl) (by first | omega | simp only [List.length_nil, List.length_cons, List.length_append, List.length_set]; omega) (by first | omega | simp only [List.length_nil, List.length_cons, List.length_append, List.length_set]; omega)) ?_
    rintro _ _ ⟨rp19, rc20, rfl, rfl⟩
    refine l_val (v := .pointer (some ⟨b3, 0, none⟩)) rfl rfl rfl (e_fieldPt (b := b3) (o := 0) rfl tf49) ?_
    refine l_mu rfl rfl (m_store 3 tf50 (b := b3) (o := 0) (T := 27) (cs := #[.slice p (out.length) c, .slice none 0 0, Ix (gx), Ix (gy)]) (cs' := #[.slice rp19 ((out ++ [x5]).length) rc20, .slice none 0 0, Ix (gx), Ix (gy)]) (v := .slice rp19 ((out ++ [x5]).length) rc20) rfl rfl rfl rfl rfl rfl rfl) ?_
    refine l_nil ?_
    refine f_block ?_
    refine f_then ?_
    refine c_region ?_
    refine l_val (v := Nx (k + 1)) rfl rfl rfl (e_add (a := ((k : Nat) : Int)) (b := (1 : Int)) rfl rfl (i64n (by omega) (by omega))) ?_
    refine l_val (v := Nx (k + 1)) rfl rfl rfl (e_move) ?_
    refine l_nil ?_
    refine f_mask (L' := [rowF BodyF 31 rp19 rc20 (out ++ [x5]), pt b3 (.cells #[.slice rp19 ((out ++ [x5]).length) rc20, .slice none 0 0, Ix (gx), Ix (gy)] 27), pt b2 (.cells #[.slice none 0 0, .slice none 0 0, .int .i64 (0), .int .i64 (0)] 27), pt b1 (.cells #[.slice va (bs.length) (vc), .slice rva (rs.length) (rvc), Ix (gx), Ix (gy)] 27)]) [false, false, true, true, true, true] rfl ?_
    exact f_cut ⟨(k + 1, (out ++ [x5]), rp19, rc20), ⟨⟨rfl, rfl, rfl, rfl, rfl, rfl⟩, rfl, ⟨by omega, clear_add hC hx6 (by rw [List.take_of_length_le (by omega)] at hokv; exact hokv.1 hc17)⟩⟩, (show bs.length - (k + 1) < bs.length - k from by omega)⟩
   ·
    refine c_skip ?_
    refine f_block ?_
    refine f_then ?_
    refine c_region ?_
    refine l_val (v := Nx (k + 1)) rfl rfl rfl (e_add (a := ((k : Nat) : Int)) (b := (1 : Int)) rfl rfl (i64n (by omega) (by omega))) ?_
    refine l_val (v := Nx (k + 1)) rfl rfl rfl (e_move) ?_
    refine l_nil ?_
    refine f_mask (L' := [rowF BodyF 31 p c out, pt b3 (.cells #[.slice p (out.length) c, .slice none 0 0, Ix (gx), Ix (gy)] 27), pt b2 (.cells #[.slice none 0 0, .slice none 0 0, .int .i64 (0), .int .i64 (0)] 27), pt b1 (.cells #[.slice va (bs.length) (vc), .slice rva (rs.length) (rvc), Ix (gx), Ix (gy)] 27)]) [false, true, true, true, true] rfl ?_
    exact f_cut ⟨(k + 1, out, p, c), ⟨⟨rfl, rfl, rfl, rfl, rfl, rfl⟩, rfl, ⟨by omega, clear_skip hC hx6⟩⟩, (show bs.length - (k + 1) < bs.length - k from by omega)⟩
 ·
  refine c_exit ?_
  refine f_then_exit ?_
  refine f_then_exit ?_
  refine f_exit ?_
  refine f_then ?_
  refine c_seq ?_
  refine c_seq ?_
  refine c_emp (r := rowF RopeF 35 none 0 []) (row_nil _ _ _) ?_
  refine c_region ?_
  refine l_val (v := .pointer (some ⟨b1, 1, none⟩)) rfl rfl rfl (e_fieldPt (b := b1) (o := 0) rfl tf55) ?_
  refine l_val (v := .slice rva (rs.length) (rvc)) rfl rfl rfl (e_load1 tf56 (v := .slice rva (rs.length) (rvc)) rfl (k_pt 4 (cs := #[.slice va (bs.length) (vc), .slice rva (rs.length) (rvc), Ix (gx), Ix (gy)]) (vs := [.slice rva (rs.length) (rvc)]) rfl rfl)) ?_
  refine l_val (v := Nx (rs.length)) rfl rfl rfl (e_len (a := rva) (n := rs.length) (c := rvc) rfl tf45) ?_
  refine l_val (v := .int .i64 (0)) rfl rfl rfl (e_move) ?_
  refine l_nil ?_
  refine f_then ?_
  refine c_block ?_
  refine c_mask [true, true, true, true, true] rfl ?_
  refine c_loop (fun (x_ : Nat × List KR × Option Addr × Nat) (f : Fm) (L : List Res) => match x_ with | (k2, R, rp, rc) => (f 2 = .pointer (some ⟨b2, 0, none⟩) ∧ f 3 = .pointer (some ⟨b3, 0, none⟩) ∧ f 45 = .slice rva (rs.length) (rvc) ∧ f 46 = Nx (rs.length) ∧ f 47 = Nx (k2)) ∧ L = [rowF RopeF 35 rp rc R, rowF BodyF 31 p c out, pt b3 (.cells #[.slice p (out.length) c, .slice rp (R.length) rc, Ix (gx), Ix (gy)] 27), pt b2 (.cells #[.slice none 0 0, .slice none 0 0, .int .i64 (0), .int .i64 (0)] 27), pt b1 (.cells #[.slice va (bs.length) (vc), .slice rva (rs.length) (rvc), Ix (gx), Ix (gy)] 27)] ∧ (k2 ≤ rs.length ∧ R.length ≤ k2 ∧ ∀ r ∈ R, okR out r)) (fun (x_ : Nat × List KR × Option Addr × Nat) => match x_ with | (k2, R, rp, rc) => rs.length - k2) (0, [], none, 0) ?_ ?_
  ·exact ⟨⟨rfl, rfl, rfl, rfl, rfl⟩, rfl, ⟨by omega, by simp, fun r hr_ => by cases hr_⟩⟩
  rintro ⟨k2, R, rp, rc⟩ f0 L0 ⟨⟨hs2, hs3, hs45, hs46, hs47⟩, hL, ⟨hk2, hRl, hR⟩⟩
  subst L0
  refine rebase (d := 2) hs2 ?_
  refine rebase (d := 3) hs3 ?_
  refine rebase (d := 45) hs45 ?_
  refine rebase (d := 46) hs46 ?_
  refine rebase (d := 47) hs47 ?_
  clear hs2 hs3 hs45 hs46 hs47
  refine c_seq ?_
  refine c_region ?_
  refine l_val (v := .bool (decide (((k2 : Nat) : Int) < ((rs.length : Nat) : Int)))) rfl rfl rfl (e_lss (a := ((k2 : Nat) : Int)) (b := ((rs.length : Nat) : Int)) rfl rfl) ?_
  refine l_nil ?_
  refine f_then ?_
  refine c_seq ?_
  refine c_if (((k2 : Nat) : Int) < ((rs.length : Nat) : Int)) rfl (fun hc21 => ?_) (fun hc21 => ?_)
  ·
   refine c_skip ?_
   refine f_then ?_
   refine c_seq ?_
   refine c_block ?_
   refine c_seq ?_
   refine c_region ?_
   obtain ⟨x22, hx23⟩ : ∃ x_, (rs)[k2]? = some x_ := ⟨_, List.getElem?_eq_getElem (by omega)⟩
   obtain ⟨ha24, cs25, hc26, rfl⟩ := rve _ _ hx23
   refine l_val (v := .pointer (some ((ba rva).add (k2 * 3)))) rfl rfl rfl (e_indexAddr (k := k2) (len := rs.length) (cap := rvc) (a := rva) rfl rfl tf46 (by omega) ha24) ?_
   refine l_val (v := .agg #[Ix (x22.a), Ix (x22.b), Ix (x22.len)]) rfl rfl rfl (e_load tf47 (cs := [Ix (x22.a), Ix (x22.b), Ix (x22.len)]) rfl (Knows.of_base (Cs.mono _ _) hc26) rfl) ?_
   refine l_mv rfl rfl rfl (m_alloc tf77) ?_
   rintro _ _ ⟨b28, rfl, rfl⟩
   refine l_mu rfl rfl (m_store 0 tf47 (b := b28) (o := 0) (T := 35) (cs := #[.int .i64 (0), .int .i64 (0), .int .i64 (0)]) (cs' := #[Ix (x22.a), Ix (x22.b), Ix (x22.len)]) (v := .agg #[Ix (x22.a), Ix (x22.b), Ix (x22.len)]) rfl rfl rfl rfl rfl rfl rfl) ?_
   refine l_nil ?_
   refine f_then ?_
   refine c_seq ?_
   refine c_region ?_
   refine l_val (v := .agg #[.slice p (out.length) c, .slice rp (R.length) rc, Ix (gx), Ix (gy)]) rfl rfl rfl (e_load tf86 (cs := [.slice p (out.length) c, .slice rp (R.length) rc, Ix (gx), Ix (gy)]) rfl (k_pt 3 (cs := #[.slice p (out.length) c, .slice rp (R.length) rc, Ix (gx), Ix (gy)]) (vs := [.slice p (out.length) c, .slice rp (R.length) rc, Ix (gx), Ix (gy)]) rfl rfl) rfl) ?_
   refine l_val (v := .pointer (some ⟨b28, 0, none⟩)) rfl rfl rfl (e_fieldPt (b := b28) (o := 0) rfl tf51) ?_
   refine l_val (v := Ix (x22.a)) rfl rfl rfl (e_load1 tf2 (v := Ix (x22.a)) rfl (k_pt 0 (cs := #[Ix (x22.a), Ix (x22.b), Ix (x22.len)]) (vs := [Ix (x22.a)]) rfl rfl)) ?_
   refine l_call rfl rfl rfl (cl_value (fst := []) (cap := []) (vs := [.agg #[.slice p (out.length) c, .slice rp (R.length) rc, Ix (gx), Ix (gy)], Ix (x22.a)]) (all := [.agg #[.slice p (out.length) c, .slice rp (R.length) rc, Ix (gx), Ix (gy)], Ix (x22.a)]) tf136 rfl rfl rfl) ?_
   intro w hw
   obtain ⟨β1, sb, kn, hw1, back⟩ := St.frame_all hw
   refine (findS_ok β1 w hw1 _ _ gx gy out (kn _ (k_flN 2 (F := BodyF) (m := out.length) (xs := out) rfl rfl)) (x22.a)).mono ?_
   rintro e w' ⟨rfl, hw'⟩
   refine ⟨_, rfl, _, back _ _ hw', ?_⟩
   clear hw hw1 hw' back kn sb
   refine l_val (v := .bool (decide ((0 : Int) ≤ (idxI (fun y : KB => decide (y.id = (x22.a))) out)))) rfl rfl rfl (e_geq (a := (idxI (fun y : KB => decide (y.id = (x22.a))) out)) (b := (0 : Int)) rfl rfl) ?_
   refine l_val (v := .bool (decide ((0 : Int) ≤ (idxI (fun y : KB => decide (y.id = (x22.a))) out)))) rfl rfl rfl (e_move) ?_
   refine l_split (s := 56) (p := (0 : Int) ≤ (idxI (fun y : KB => decide (y.id = (x22.a))) out)) rfl (fun hg29 => ?_) (fun hg29 => ?_)
   ·
    refine g_val (v := .agg #[.slice p (out.length) c, .slice rp (R.length) rc, Ix (gx), Ix (gy)]) rfl rfl rfl rfl rfl (e_load tf86 (cs := [.slice p (out.length) c, .slice rp (R.length) rc, Ix (gx), Ix (gy)]) rfl (k_pt 3 (cs := #[.slice p (out.length) c, .slice rp (R.length) rc, Ix (gx), Ix (gy)]) (vs := [.slice p (out.length) c, .slice rp (R.length) rc, Ix (gx), Ix (gy)]) rfl rfl) rfl) ?_
    refine g_val (v := .pointer (some ⟨b28, 1, none⟩)) rfl rfl rfl rfl rfl (e_fieldPt (b := b28) (o := 0) rfl tf53) ?_
    refine g_val (v := Ix (x22.b)) rfl rfl rfl rfl rfl (e_load1 tf2 (v := Ix (x22.b)) rfl (k_pt 0 (cs := #[Ix (x22.a), Ix (x22.b), Ix (x22.len)]) (vs := [Ix (x22.b)]) rfl rfl)) ?_
    refine g_call rfl rfl rfl rfl rfl (cl_value (fst := []) (cap := []) (vs := [.agg #[.slice p (out.length) c, .slice rp (R.length) rc, Ix (gx), Ix (gy)], Ix (x22.b)]) (all := [.agg #[.slice p (out.length) c, .slice rp (R.length) rc, Ix (gx), Ix (gy)], Ix (x22.b)]) tf136 rfl rfl rfl) ?_
    intro w hw
    obtain ⟨β1, sb, kn, hw1, back⟩ := St.frame_all hw
    refine (findS_ok β1 w hw1 _ _ gx gy out (kn _ (k_flN 2 (F := BodyF) (m := out.length) (xs := out) rfl rfl)) (x22.b)).mono ?_
    rintro e w' ⟨rfl, hw'⟩
    refine ⟨_, rfl, _, back _ _ hw', ?_⟩
    clear hw hw1 hw' back kn sb
    refine g_val (v := .bool (decide ((0 : Int) ≤ (idxI (fun y : KB => decide (y.id = (x22.b))) out)))) rfl rfl rfl rfl rfl (e_geq (a := (idxI (fun y : KB => decide (y.id = (x22.b))) out)) (b := (0 : Int)) rfl rfl) ?_
    refine l_val (v := .bool (decide ((0 : Int) ≤ (idxI (fun y : KB => decide (y.id = (x22.b))) out)))) rfl rfl rfl (e_pick_t rfl) ?_
    refine l_nil ?_
    refine f_then ?_
    refine c_if ((0 : Int) ≤ (idxI (fun y : KB => decide (y.id = (x22.b))) out)) rfl (fun hc30 => ?_) (fun hc30 => ?_)
    ·
     refine c_region ?_
     refine l_val (v := .pointer (some ⟨b3, 1, none⟩)) rfl rfl rfl (e_fieldPt (b := b3) (o := 0) rfl tf55) ?_
     refine l_val (v := .slice rp (R.length) rc) rfl rfl rfl (e_load1 tf56 (v := .slice rp (R.length) rc) rfl (k_pt 3 (cs := #[.slice p (out.length) c, .slice rp (R.length) rc, Ix (gx), Ix (gy)]) (vs := [.slice rp (R.length) rc]) rfl rfl)) ?_
     refine l_val (v := .agg #[Ix (x22.a), Ix (x22.b), Ix (x22.len)]) rfl rfl rfl (e_load tf47 (cs := [Ix (x22.a), Ix (x22.b), Ix (x22.len)]) rfl (k_pt 0 (cs := #[Ix (x22.a), Ix (x22.b), Ix (x22.len)]) (vs := [Ix (x22.a), Ix (x22.b), Ix (x22.len)]) rfl rfl) rfl) ?_
     refine l_mv rfl rfl rfl (m_slices tf46 tf77 (vs := [(0, .agg #[Ix (x22.a), Ix (x22.b), Ix (x22.len)])]) (cells := #[Ix (x22.a), Ix (x22.b), Ix (x22.len)]) rfl rfl rfl rfl) ?_
     rintro _ _ ⟨b31, rfl, rfl⟩
     refine l_mv rfl rfl rfl (m_appendFlN (F := RopeF) 2 tf46 tf84 (p := rp) (m := R.length) (xs := R) (ys := [x22]) (ao := (some ⟨b31, 0, none⟩)) (k := 1) (c := 1) rfl rfl rfl rfl rfl (k_ptFl (z := x22) 0 rfl rfl) (by first | omega | simp only [List.length_nil, List.length_cons, List.length_append, List.length_set]; omega) (by first | omega | simp only [List.length_nil, List.length_cons, List.length_append, List.length_set]; omega)) ?_
     rintro _ _ ⟨rp32, rc33, rfl, rfl⟩
     refine l_val (v := .pointer (some ⟨b3, 1, none⟩)) rfl rfl rfl (e_fieldPt (b := b3) (o := 0) rfl tf55) ?_
     refine l_mu rfl rfl (m_store 4 tf56 (b := b3) (o := 1) (T := 27) (cs := #[.slice p (out.length) c, .slice rp (R.length) rc, Ix (gx), Ix (gy)]) (cs' := #[.slice p (out.length) c, .slice rp32 ((R ++ [x22]).length) rc33, Ix (gx), Ix (gy)]) (v := .slice rp32 ((R ++ [x22]).length) rc33) rfl rfl rfl rfl rfl rfl rfl) ?_
     refine l_nil ?_
     refine f_block ?_
     refine f_then ?_
     refine c_region ?_
     refine l_val (v := Nx (k2 + 1)) rfl rfl rfl (e_add (a := ((k2 : Nat) : Int)) (b := (1 : Int)) rfl rfl (i64n (by omega) (by omega))) ?_
     refine l_val (v := Nx (k2 + 1)) rfl rfl rfl (e_move) ?_
     refine l_nil ?_
     refine f_mask (L' := [rowF RopeF 35 rp32 rc33 (R ++ [x22]), rowF BodyF 31 p c out, pt b3 (.cells #[.slice p (out.length) c, .slice rp32 ((R ++ [x22]).length) rc33, Ix (gx), Ix (gy)] 27), pt b2 (.cells #[.slice none 0 0, .slice none 0 0, .int .i64 (0), .int .i64 (0)] 27), pt b1 (.cells #[.slice va (bs.length) (vc), .slice rva (rs.length) (rvc), Ix (gx), Ix (gy)] 27)]) [false, false, true, true, true, true, true] rfl ?_
     exact f_cut ⟨(k2 + 1, (R ++ [x22]), rp32, rc33), ⟨⟨rfl, rfl, rfl, rfl, rfl⟩, rfl, ⟨by omega, by rw [List.length_append]; simp only [List.length_cons, List.length_nil]; omega, fun r hr_ => (List.mem_append.1 hr_).elim (hR r) fun h => by rw [List.mem_singleton.1 h]; exact clear_rope (hok.2.2.2.2.2 _ (List.mem_of_getElem? hx23)) hg29 hc30⟩⟩, (show rs.length - (k2 + 1) < rs.length - k2 from by omega)⟩
    ·
     refine c_skip ?_
     refine f_block ?_
     refine f_then ?_
     refine c_region ?_
     refine l_val (v := Nx (k2 + 1)) rfl rfl rfl (e_add (a := ((k2 : Nat) : Int)) (b := (1 : Int)) rfl rfl (i64n (by omega) (by omega))) ?_
     refine l_val (v := Nx (k2 + 1)) rfl rfl rfl (e_move) ?_
     refine l_nil ?_
     refine f_mask (L' := [rowF RopeF 35 rp rc R, rowF BodyF 31 p c out, pt b3 (.cells #[.slice p (out.length) c, .slice rp (R.length) rc, Ix (gx), Ix (gy)] 27), pt b2 (.cells #[.slice none 0 0, .slice none 0 0, .int .i64 (0), .int .i64 (0)] 27), pt b1 (.cells #[.slice va (bs.length) (vc), .slice rva (rs.length) (rvc), Ix (gx), Ix (gy)] 27)]) [false, true, true, true, true, true] rfl ?_
     exact f_cut ⟨(k2 + 1, R, rp, rc), ⟨⟨rfl, rfl, rfl, rfl, rfl⟩, rfl, ⟨by omega, by omega, hR⟩⟩, (show rs.length - (k2 + 1) < rs.length - k2 from by omega)⟩
   ·
    refine l_skip rfl rfl rfl rfl rfl rfl ?_
    refine l_skip rfl rfl rfl rfl rfl rfl ?_
    refine l_skip rfl rfl rfl rfl rfl rfl ?_
    refine l_skip rfl rfl rfl rfl rfl rfl ?_
    refine l_skip rfl rfl rfl rfl rfl rfl ?_
    refine l_val (v := .bool false) rfl rfl rfl (e_pick_f rfl) ?_
    refine l_nil ?_
    refine f_then ?_
    refine c_no rfl ?_
    refine c_skip ?_
    refine f_block ?_
    refine f_then ?_
    refine c_region ?_
    refine l_val (v := Nx (k2 + 1)) rfl rfl rfl (e_add (a := ((k2 : Nat) : Int)) (b := (1 : Int)) rfl rfl (i64n (by omega) (by omega))) ?_
    refine l_val (v := Nx (k2 + 1)) rfl rfl rfl (e_move) ?_
    refine l_nil ?_
    refine f_mask (L' := [rowF RopeF 35 rp rc R, rowF BodyF 31 p c out, pt b3 (.cells #[.slice p (out.length) c, .slice rp (R.length) rc, Ix (gx), Ix (gy)] 27), pt b2 (.cells #[.slice none 0 0, .slice none 0 0, .int .i64 (0), .int .i64 (0)] 27), pt b1 (.cells #[.slice va (bs.length) (vc), .slice rva (rs.length) (rvc), Ix (gx), Ix (gy)] 27)]) [false, true, true, true, true, true] rfl ?_
    exact f_cut ⟨(k2 + 1, R, rp, rc), ⟨⟨rfl, rfl, rfl, rfl, rfl⟩, rfl, ⟨by omega, by omega, hR⟩⟩, (show rs.length - (k2 + 1) < rs.length - k2 from by omega)⟩
  ·
   refine c_exit ?_
   refine f_then_exit ?_
   refine f_then_exit ?_
   refine f_exit ?_
   refine f_then ?_
   refine c_seq ?_
   refine c_region ?_
   refine l_val (v := .agg #[.slice p (out.length) c, .slice rp (R.length) rc, Ix (gx), Ix (gy)]) rfl rfl rfl (e_load tf86 (cs := [.slice p (out.length) c, .slice rp (R.length) rc, Ix (gx), Ix (gy)]) rfl (k_pt 2 (cs := #[.slice p (out.length) c, .slice rp (R.length) rc, Ix (gx), Ix (gy)]) (vs := [.slice p (out.length) c, .slice rp (R.length) rc, Ix (gx), Ix (gy)]) rfl rfl) rfl) ?_
   refine l_mu rfl rfl (m_store 3 tf86 (b := b2) (o := 0) (T := 27) (cs := #[.slice none 0 0, .slice none 0 0, .int .i64 (0), .int .i64 (0)]) (cs' := #[.slice p (out.length) c, .slice rp (R.length) rc, Ix (gx), Ix (gy)]) (v := .agg #[.slice p (out.length) c, .slice rp (R.length) rc, Ix (gx), Ix (gy)]) rfl rfl rfl rfl rfl rfl rfl) ?_
   refine l_nil ?_
   refine f_then ?_
   refine c_ret ?_
   refine retG (l := [.cell 2 27]) (m := [.agg #[.slice p (out.length) c, .slice rp (R.length) rc, Ix (gx), Ix (gy)]]) (v := .agg #[.slice p (out.length) c, .slice rp (R.length) rc, Ix (gx), Ix (gy)]) Tryd.results25 ⟨rd_cell tf86 (cs := [.slice p (out.length) c, .slice rp (R.length) rc, Ix (gx), Ix (gy)]) rfl (k_pt 3 (cs := #[.slice p (out.length) c, .slice rp (R.length) rc, Ix (gx), Ix (gy)]) (vs := [.slice p (out.length) c, .slice rp (R.length) rc, Ix (gx), Ix (gy)]) rfl rfl) rfl, trivial⟩ rfl ?_
   intro w hw
   have hw2 := st_mask (L' := [rowF RopeF 35 rp rc R, rowF BodyF 31 p c out]) [true, true, false, false, false] rfl hw
   exact ⟨out, R, p, c, rp, rc, rfl, clear_ok hok hC (by omega) hR, hC.2, hw2.perm (perm_ix [1, 0] 2 rfl (by kernel_rfl) (by kernel_rfl))⟩
set_option maxHeartbeats 4000000 in
theorem apartY_ok (β : Base) (w : World) (hw : St β [] w) (v rv : Value) (gx gy : Int) (xs : List KB) (hs : Sl KBR β.heap v xs) (hG : GR β) (ha : apartP xs) : Calls Tryd.prog 26 #[.agg #[v, rv, Ix gx, Ix gy]] w fun r w' => r = .returned (.bool true) ∧ St β [] w' := by
 obtain ⟨va, vc, rfl, vl, vm, ve⟩ := hs.get
 refine enter (n := 30) Tryd.func26 rfl Tryd.ntmps26 rfl ?_ hw
 refine c_seq ?_
 refine c_region ?_
 refine l_mv rfl rfl rfl (m_box (v := .agg #[.slice va (xs.length) (vc), rv, Ix (gx), Ix (gy)]) rfl) ?_
 rintro _ _ ⟨b1, rfl, rfl⟩
 refine l_val (v := .bool false) rfl rfl rfl (e_assign) ?_
 refine l_nil ?_
 refine f_then ?_
 refine c_seq ?_
 refine c_seq ?_
 refine c_region ?_
 refine l_val (v := .pointer (some ⟨b1, 0, none⟩)) rfl rfl rfl (e_fieldPt (b := b1) (o := 0) rfl tf49) ?_
 refine l_val (v := .slice va (xs.length) (vc)) rfl rfl rfl (e_load1 tf50 (v := .slice va (xs.length) (vc)) rfl (k_pt 0 (cs := #[.slice va (xs.length) (vc), rv, Ix (gx), Ix (gy)]) (vs := [.slice va (xs.length) (vc)]) rfl rfl)) ?_
 refine l_val (v := Nx (xs.length)) rfl rfl rfl (e_len (a := va) (n := xs.length) (c := vc) rfl tf40) ?_
 refine l_val (v := .int .i64 (0)) rfl rfl rfl (e_move) ?_
 refine l_nil ?_
 refine f_then ?_
 refine c_block ?_
 refine c_loop (fun (k : Nat) (f : Fm) (L : List Res) => (f 1 = .pointer (some ⟨b1, 0, none⟩) ∧ f 8 = .slice va (xs.length) (vc) ∧ f 9 = Nx (xs.length) ∧ f 10 = Nx (k)) ∧ L = [pt b1 (.cells #[.slice va (xs.length) (vc), rv, Ix (gx), Ix (gy)] 27)] ∧ (k ≤ xs.length)) (fun (k : Nat) => xs.length - k) 0 ?_ ?_
 ·exact ⟨⟨rfl, rfl, rfl, rfl⟩, rfl, (by omega)⟩
 rintro k f0 L0 ⟨⟨hs1, hs8, hs9, hs10⟩, hL, hk⟩
 subst L0
 refine rebase (d := 1) hs1 ?_
 refine rebase (d := 8) hs8 ?_
 refine rebase (d := 9) hs9 ?_
 refine rebase (d := 10) hs10 ?_
 clear hs1 hs8 hs9 hs10
 refine c_seq ?_
 refine c_region ?_
 refine l_val (v := .bool (decide (((k : Nat) : Int) < ((xs.length : Nat) : Int)))) rfl rfl rfl (e_lss (a := ((k : Nat) : Int)) (b := ((xs.length : Nat) : Int)) rfl rfl) ?_
 refine l_nil ?_
 refine f_then ?_
 refine c_seq ?_
 refine c_if (((k : Nat) : Int) < ((xs.length : Nat) : Int)) rfl (fun hc2 => ?_) (fun hc2 => ?_)
 ·
  refine c_skip ?_
  refine f_then ?_
  refine c_seq ?_
  refine c_block ?_
  refine c_seq ?_
  refine c_region ?_
  refine l_val (v := Nx (k)) rfl rfl rfl (e_move) ?_
  obtain ⟨x3, hx4⟩ : ∃ x_, (xs)[k]? = some x_ := ⟨_, List.getElem?_eq_getElem (by omega)⟩
  obtain ⟨ha5, cs6, hc7, rfl⟩ := ve _ _ hx4
  refine l_val (v := .pointer (some ((ba va).add (k * 9)))) rfl rfl rfl (e_indexAddr (k := k) (len := xs.length) (cap := vc) (a := va) rfl rfl tf43 (by omega) ha5) ?_
  refine l_val (v := .agg (bC x3)) rfl rfl rfl (e_load tf22 (cs := (bodyE x3)) rfl (Knows.of_base (Cs.mono _ _) hc7) rfl) ?_
  refine l_mv rfl rfl rfl (m_alloc tf58) ?_
  rintro _ _ ⟨b9, rfl, rfl⟩
  refine l_val (v := Nx (k)) rfl rfl rfl (e_assign) ?_
  refine l_mu rfl rfl (m_store 0 tf22 (b := b9) (o := 0) (T := 31) (cs := #[.int .i64 (0), .int .i64 (0), .int .i64 (0), .int .i64 (0), .int .i64 (0), .int .i64 (0), .int .i64 (0), .bool false, .bool false]) (cs' := (bC x3)) (v := .agg (bC x3)) rfl rfl rfl rfl rfl rfl rfl) ?_
  refine l_nil ?_
  refine f_then ?_
  refine c_seq ?_
  refine c_region ?_
  refine l_val (v := .pointer (some ⟨b1, 0, none⟩)) rfl rfl rfl (e_fieldPt (b := b1) (o := 0) rfl tf49) ?_
  refine l_val (v := .slice va (xs.length) (vc)) rfl rfl rfl (e_load1 tf50 (v := .slice va (xs.length) (vc)) rfl (k_pt 1 (cs := #[.slice va (xs.length) (vc), rv, Ix (gx), Ix (gy)]) (vs := [.slice va (xs.length) (vc)]) rfl rfl)) ?_
  refine l_val (v := Nx (k)) rfl rfl rfl (e_move) ?_
  refine l_val (v := Nx (k + 1)) rfl rfl rfl (e_add (a := ((k : Nat) : Int)) (b := (1 : Int)) rfl rfl (i64n (by omega) (by omega))) ?_
  obtain ⟨zs10, hz11⟩ : ∃ zs, zs = (xs.drop (k + 1)) := ⟨_, rfl⟩
  have zl12 : zs10.length = (xs).length - (k + 1) := by rw [hz11]; simp; try omega
  have ze13 := (Elems.drop (cap := vc) (k + 1) (by first | omega | (simp; omega)) ve)
  rw [← hz11] at ze13
  refine l_val (v := .slice (adv va vc (k + 1) 9) (zs10.length) ((vc - (k + 1)))) rfl rfl rfl (ev_eq (by rw [show zs10.length = xs.length - (k + 1) by omega]) (e_slice_lo (a := va) (len := xs.length) (cap := vc) (l := k + 1) tf43 rfl rfl (by omega))) ?_
  refine l_val (v := Nx (zs10.length)) rfl rfl rfl (e_len (a := (adv va vc (k + 1) 9)) (n := zs10.length) (c := (vc - (k + 1))) rfl tf40) ?_
  refine l_val (v := .int .i64 (0)) rfl rfl rfl (e_move) ?_
  refine l_nil ?_
  refine f_then ?_
  refine c_block ?_
  refine c_loop (fun (j : Nat) (f : Fm) (L : List Res) => (f 1 = .pointer (some ⟨b1, 0, none⟩) ∧ f 4 = .pointer (some ⟨b9, 0, none⟩) ∧ f 8 = .slice va (xs.length) (vc) ∧ f 9 = Nx (xs.length) ∧ f 10 = Nx (k) ∧ f 19 = .slice (adv va vc (k + 1) 9) (zs10.length) ((vc - (k + 1))) ∧ f 20 = Nx (zs10.length) ∧ f 21 = Nx (j)) ∧ L = [pt b9 (.cells (bC x3) 31), pt b1 (.cells #[.slice va (xs.length) (vc), rv, Ix (gx), Ix (gy)] 27)] ∧ (j ≤ zs10.length)) (fun (j : Nat) => zs10.length - j) 0 ?_ ?_
  ·exact ⟨⟨rfl, rfl, rfl, rfl, rfl, rfl, rfl, rfl⟩, rfl, (by omega)⟩
  rintro j f0 L0 ⟨⟨hs1, hs4, hs8, hs9, hs10, hs19, hs20, hs21⟩, hL, hj⟩
  subst L0
  refine rebase (d := 1) hs1 ?_
  refine rebase (d := 4) hs4 ?_
  refine rebase (d := 8) hs8 ?_
  refine rebase (d := 9) hs9 ?_
  refine rebase (d := 10) hs10 ?_
  refine rebase (d := 19) hs19 ?_
  refine rebase (d := 20) hs20 ?_
  refine rebase (d := 21) hs21 ?_
  clear hs1 hs4 hs8 hs9 hs10 hs19 hs20 hs21
  refine c_seq ?_
  refine c_region ?_
  refine l_val (v := .bool (decide (((j : Nat) : Int) < ((zs10.length : Nat) : Int)))) rfl rfl rfl (e_lss (a := ((j : Nat) : Int)) (b := ((zs10.length : Nat) : Int)) rfl rfl) ?_
  refine l_nil ?_
  refine f_then ?_
  refine c_seq ?_
  refine c_if (((j : Nat) : Int) < ((zs10.length : Nat) : Int)) rfl (fun hc14 => ?_) (fun hc14 => ?_)
  ·
   refine c_skip ?_
   refine f_then ?_
   refine c_seq ?_
   refine c_block ?_
   refine c_seq ?_
   refine c_region ?_
   obtain ⟨x15, hx16⟩ : ∃ x_, (zs10)[j]? = some x_ := ⟨_, List.getElem?_eq_getElem (by omega)⟩
   obtain ⟨ha17, cs18, hc19, rfl⟩ := ze13 _ _ hx16
   refine l_val (v := .pointer (some ((ba (adv va vc (k + 1) 9)).add (j * 9)))) rfl rfl rfl (e_indexAddr (k := j) (len := zs10.length) (cap := (vc - (k + 1))) (a := (adv va vc (k + 1) 9)) rfl rfl tf43 (by omega) ha17) ?_
   refine l_val (v := .agg (bC x15)) rfl rfl rfl (e_load tf22 (cs := (bodyE x15)) rfl (Knows.of_base (Cs.mono _ _) hc19) rfl) ?_
   refine l_mv rfl rfl rfl (m_alloc tf58) ?_
   rintro _ _ ⟨b21, rfl, rfl⟩
   refine l_mu rfl rfl (m_store 0 tf22 (b := b21) (o := 0) (T := 31) (cs := #[.int .i64 (0), .int .i64 (0), .int .i64 (0), .int .i64 (0), .int .i64 (0), .int .i64 (0), .int .i64 (0), .bool false, .bool false]) (cs' := (bC x15)) (v := .agg (bC x15)) rfl rfl rfl rfl rfl rfl rfl) ?_
   refine l_nil ?_
   refine f_then ?_
   refine c_seq ?_
   refine c_region ?_
   refine l_val (v := .agg (bC x3)) rfl rfl rfl (e_load tf22 (cs := (bodyE x3)) rfl (k_pt 1 (cs := (bC x3)) (vs := (bodyE x3)) rfl rfl) rfl) ?_
   refine l_val (v := .agg (bC x15)) rfl rfl rfl (e_load tf22 (cs := (bodyE x15)) rfl (k_pt 0 (cs := (bC x15)) (vs := (bodyE x15)) rfl rfl) rfl) ?_
   refine l_call rfl rfl rfl (cl_value (fst := []) (cap := []) (vs := [.agg (bC x3), .agg (bC x15)]) (all := [.agg (bC x3), .agg (bC x15)]) tf74 rfl rfl rfl) ?_
   intro w hw
   obtain ⟨β1, sb, kn, hw1, back⟩ := St.frame_all hw
   have hG1 := GR.mono sb hG
   refine (over_ok β1 w hw1 hG1 x3 x15).mono ?_
   rintro e w' ⟨rfl, hw'⟩
   refine ⟨_, rfl, _, back _ _ hw', ?_⟩
   clear hw hw1 hw' back kn sb
   refine l_nil ?_
   refine f_then ?_
   refine c_if (Stp.over x3 x15) rfl (fun hc22 => ?_) (fun hc22 => ?_)
   ·
    exact absurd hc22 (apart_drop ha hx4 hz11 hx16)
   ·
    refine c_skip ?_
    refine f_block ?_
    refine f_then ?_
    refine c_region ?_
    refine l_val (v := Nx (j + 1)) rfl rfl rfl (e_add (a := ((j : Nat) : Int)) (b := (1 : Int)) rfl rfl (i64n (by omega) (by omega))) ?_
    refine l_val (v := Nx (j + 1)) rfl rfl rfl (e_move) ?_
    refine l_nil ?_
    refine f_mask (L' := [pt b9 (.cells (bC x3) 31), pt b1 (.cells #[.slice va (xs.length) (vc), rv, Ix (gx), Ix (gy)] 27)]) [false, true, true] rfl ?_
    exact f_cut ⟨j + 1, ⟨⟨rfl, rfl, rfl, rfl, rfl, rfl, rfl, rfl⟩, rfl, (by omega)⟩, (show zs10.length - (j + 1) < zs10.length - j from by omega)⟩
  ·
   refine c_exit ?_
   refine f_then_exit ?_
   refine f_then_exit ?_
   refine f_exit ?_
   refine f_block ?_
   refine f_then ?_
   refine c_region ?_
   refine l_val (v := Nx (k + 1)) rfl rfl rfl (e_add (a := ((k : Nat) : Int)) (b := (1 : Int)) rfl rfl (i64n (by omega) (by omega))) ?_
   refine l_val (v := Nx (k + 1)) rfl rfl rfl (e_move) ?_
   refine l_nil ?_
   refine f_mask (L' := [pt b1 (.cells #[.slice va (xs.length) (vc), rv, Ix (gx), Ix (gy)] 27)]) [false, true] rfl ?_
   exact f_cut ⟨k + 1, ⟨⟨rfl, rfl, rfl, rfl⟩, rfl, (by omega)⟩, (show xs.length - (k + 1) < xs.length - k from by omega)⟩
 ·
  refine c_exit ?_
  refine f_then_exit ?_
  refine f_then_exit ?_
  refine f_exit ?_
  refine f_then ?_
  refine c_seq ?_
  refine c_region ?_
  refine l_val (v := .bool true) rfl rfl rfl (e_assign) ?_
  refine l_nil ?_
  refine f_then ?_
  refine c_ret ?_
  refine ret1 Tryd.results26 (v := .bool true) rfl ?_
  intro w hw
  exact ⟨rfl, st_mask [false] rfl hw⟩
set_option maxHeartbeats 4000000 in
theorem apartL_ok (β : Base) (w : World) (hw : St β [] w) (v u : Value) (fs : List KF) (us : List UInt8) (hs : Sl FormR β.heap v fs) (hu : Sl U8R β.heap u us) (gx gy : Int) (hgx8 : -128 ≤ gx ∧ gx ≤ 127) (hgy8 : -128 ≤ gy ∧ gy ≤ 127) (hG : GR β) : Calls Tryd.prog 8 #[v, u, .int .i8 gx, .int .i8 gy] w fun r w' => r = .returned (.bool true) ∧ St β [] w' := by
 refine enter (n := 122) Tryd.func8 rfl Tryd.ntmps8 rfl ?_ hw
 refine c_seq ?_
 refine c_region ?_
 refine l_val (v := .bool false) rfl rfl rfl (e_assign) ?_
 refine l_nil ?_
 refine f_then ?_
 refine c_seq ?_
 refine c_seq ?_
 refine c_region ?_
 refine l_call rfl rfl rfl (cl_value (fst := []) (cap := []) (vs := []) (all := []) tf137 rfl rfl rfl) ?_
 intro w hw
 obtain ⟨β1, sb, kn, hw1, back⟩ := St.frame_all hw
 have hG1 := GR.mono sb hG
 refine (awake_ok β1 w hw1 hG1).mono ?_
 rintro e w' ⟨rfl, hw'⟩
 refine ⟨_, rfl, _, back _ _ hw', ?_⟩
 clear hw hw1 hw' back kn sb
 refine l_val (v := .bool false) rfl rfl rfl (e_not (a := true) rfl) ?_
 refine l_nil ?_
 refine f_then ?_
 refine c_no rfl ?_
 refine c_skip ?_
 refine f_then ?_
 refine c_seq ?_
 refine c_region ?_
 refine l_val (v := v) rfl rfl rfl (e_move) ?_
 refine l_val (v := u) rfl rfl rfl (e_move) ?_
 refine l_val (v := .int .i8 (gx)) rfl rfl rfl (e_move) ?_
 refine l_val (v := .int .i8 (gy)) rfl rfl rfl (e_move) ?_
 refine l_call rfl rfl rfl (cl_value (fst := []) (cap := []) (vs := [v, u, .int .i8 (gx), .int .i8 (gy)]) (all := [v, u, .int .i8 (gx), .int .i8 (gy)]) tf138 rfl rfl rfl) ?_
 intro w hw
 obtain ⟨β1, sb, kn, hw1, back⟩ := St.frame_all hw
 refine (made8_ok β1 w hw1 _ _ fs us (Sl.mono _ _ _ _ _ sb hs) (Sl.mono _ _ _ _ _ sb hu) gx gy hgx8 hgy8).mono ?_
 rintro e w' ⟨bs, Rm, p1, c2, p3, c4, rfl, hmP, hbl, hRu, hw'⟩
 refine ⟨_, rfl, _, back _ _ hw', ?_⟩
 clear hw hw1 hw' back kn sb
 refine l_call rfl rfl rfl (cl_value (fst := []) (cap := []) (vs := [.agg #[.slice p1 (bs.length) c2, .slice p3 (Rm.length) c4, Ix (Int.tmod gx 32), Ix (Int.tmod gy 32)]]) (all := [.agg #[.slice p1 (bs.length) c2, .slice p3 (Rm.length) c4, Ix (Int.tmod gx 32), Ix (Int.tmod gy 32)]]) tf139 rfl rfl rfl) ?_
 intro w hw
 obtain ⟨β1, sb, kn, hw1, back⟩ := St.frame_all hw
 refine (cleared_ok β1 w hw1 _ _ _ _ bs Rm (kn _ (k_flN 0 (F := BodyF) (m := bs.length) (xs := bs) rfl rfl)) (kn _ (k_flN 1 (F := RopeF) (m := Rm.length) (xs := Rm) rfl rfl)) (GR.mono sb hG) hmP.ok).mono ?_
 rintro e w' ⟨cB, R, p5, c6, p7, c8, rfl, hcS, hcA, hw'⟩
 refine ⟨_, rfl, _, back _ _ hw', ?_⟩
 clear hw hw1 hw' back kn sb
 refine l_mv rfl rfl rfl (m_alloc tf85) ?_
 rintro _ _ ⟨b9, rfl, rfl⟩
 refine l_mu rfl rfl (m_store 0 tf86 (b := b9) (o := 0) (T := 27) (cs := #[.slice none 0 0, .slice none 0 0, .int .i64 (0), .int .i64 (0)]) (cs' := #[.slice p5 (cB.length) c6, .slice p7 (R.length) c8, Ix (Int.tmod gx 32), Ix (Int.tmod gy 32)]) (v := .agg #[.slice p5 (cB.length) c6, .slice p7 (R.length) c8, Ix (Int.tmod gx 32), Ix (Int.tmod gy 32)]) rfl rfl rfl rfl rfl rfl rfl) ?_
 refine l_nil ?_
 refine f_then ?_
 refine c_seq ?_
 refine c_seq ?_
 have hgX := tmod_bd gx
 have hgY := tmod_bd gy
 obtain ⟨gX, hgx1⟩ : ∃ z, z = Int.tmod gx 32 := ⟨_, rfl⟩
 obtain ⟨gY, hgy1⟩ : ∃ z, z = Int.tmod gy 32 := ⟨_, rfl⟩
 rw [← hgx1] at hgX hcS
 rw [← hgy1] at hgY hcS
 rw [← hgx1, ← hgy1]
 have hov := hcS.2.2.1
 refine c_region ?_
 refine l_val (v := .int .i64 (0)) rfl rfl rfl (e_assign) ?_
 refine l_nil ?_
 refine f_then ?_
 refine c_block ?_
 refine c_mask [true, true, true, false, false] rfl ?_
 refine c_loop (fun (x_ : Nat × List KB × Option Addr × Nat × Option Addr × Nat) (f : Fm) (L : List Res) => match x_ with | (i, B0, p, c, p2, c2) => (f 9 = .pointer (some ⟨b9, 0, none⟩) ∧ f 10 = Nx (i)) ∧ L = [pt b9 (.cells #[.slice p (B0.length) c, .slice p2 (R.length) c2, Ix (gX), Ix (gY)] 27), rowF BodyF 31 p c B0, rowF RopeF 35 p2 c2 R] ∧ (i ≤ 5 ∧ okS B0 R gX gY ∧ apartP B0)) (fun (x_ : Nat × List KB × Option Addr × Nat × Option Addr × Nat) => match x_ with | (i, B0, p, c, p2, c2) => 5 - i) (0, cB, p5, c6, p7, c8) ?_ ?_
 ·exact ⟨⟨rfl, rfl⟩, rfl, ⟨by omega, hcS, hcA⟩⟩
 rintro ⟨i, B0, p, c, p2, c2⟩ f0 L0 ⟨⟨hs9, hs10⟩, hL, ⟨hi, hokS, hap⟩⟩
 subst L0
 refine rebase (d := 9) hs9 ?_
 refine rebase (d := 10) hs10 ?_
 clear hs9 hs10
 obtain ⟨o1, o2, o3, o4, o5, o6⟩ := id hokS
 refine c_seq ?_
 refine c_seq ?_
 refine c_region ?_
 refine l_val (v := Nx (i)) rfl rfl rfl (e_move) ?_
 refine l_val (v := .bool (decide (((i : Nat) : Int) < (5 : Int)))) rfl rfl rfl (e_lss (a := ((i : Nat) : Int)) (b := (5 : Int)) rfl rfl) ?_
 refine l_nil ?_
 refine f_then ?_
 refine c_if (((i : Nat) : Int) < (5 : Int)) rfl (fun hc10 => ?_) (fun hc10 => ?_)
 ·
  refine c_skip ?_
  refine f_then ?_
  refine c_seq ?_
  refine c_block ?_
  refine c_seq ?_
  refine c_region ?_
  refine l_val (v := .agg #[.slice p (B0.length) c, .slice p2 (R.length) c2, Ix (gX), Ix (gY)]) rfl rfl rfl (e_load tf86 (cs := [.slice p (B0.length) c, .slice p2 (R.length) c2, Ix (gX), Ix (gY)]) rfl (k_pt 0 (cs := #[.slice p (B0.length) c, .slice p2 (R.length) c2, Ix (gX), Ix (gY)]) (vs := [.slice p (B0.length) c, .slice p2 (R.length) c2, Ix (gX), Ix (gY)]) rfl rfl) rfl) ?_
  refine l_call rfl rfl rfl (cl_value (fst := []) (cap := []) (vs := [.agg #[.slice p (B0.length) c, .slice p2 (R.length) c2, Ix (gX), Ix (gY)]]) (all := [.agg #[.slice p (B0.length) c, .slice p2 (R.length) c2, Ix (gX), Ix (gY)]]) tf104 rfl rfl rfl) ?_
  intro w hw
  obtain ⟨β1, sb, kn, hw1, back⟩ := St.frame_all hw
  obtain ⟨T, S, hTS⟩ : ∃ T S, stepsTo R (gX) (gY) B0 B0.length = (T, S) := ⟨_, _, rfl⟩
  refine (stepY_ok β1 w hw1 _ _ (gX) (gY) B0 R (kn _ (k_flN 1 (F := BodyF) (m := B0.length) (xs := B0) rfl rfl)) (kn _ (k_flN 2 (F := RopeF) (m := R.length) (xs := R) rfl rfl)) (by omega) (by omega) (GR.mono sb hG) hokS T S hTS).mono ?_
  rintro e w' ⟨p11, c12, p13, c14, p15, c16, rfl, hw'⟩
  refine ⟨_, rfl, _, back _ _ hw', ?_⟩
  clear hw hw1 hw' back kn sb
  have hT1 : (stepsTo R gX gY B0 B0.length).1 = T := by rw [hTS]
  have hokT : okS T R gX gY := by rw [← hT1]; exact okS_step hokS _
  have hTl : T.length = B0.length := by rw [← hT1]; exact (step_keeps hokS.2.2.2.1 _).1.len
  have hapT : apartP T := by rw [← hT1]; exact apart_step hokS hap _
  refine l_val (v := .tuple #[.agg #[.slice p11 (B0.length) c12, .slice p13 (R.length) c14, Ix (gX), Ix (gY)], .slice p15 (S.length) c16, .int .i64 (0)]) rfl rfl rfl (e_move) ?_
  refine l_val (v := .agg #[.slice p11 (B0.length) c12, .slice p13 (R.length) c14, Ix (gX), Ix (gY)]) rfl rfl rfl (e_extract (vs := #[.agg #[.slice p11 (B0.length) c12, .slice p13 (R.length) c14, Ix (gX), Ix (gY)], .slice p15 (S.length) c16, .int .i64 (0)]) rfl rfl) ?_
  refine l_val (v := .slice p15 (S.length) c16) rfl rfl rfl (e_extract (vs := #[.agg #[.slice p11 (B0.length) c12, .slice p13 (R.length) c14, Ix (gX), Ix (gY)], .slice p15 (S.length) c16, .int .i64 (0)]) rfl rfl) ?_
  refine l_val (v := .int .i64 (0)) rfl rfl rfl (e_extract (vs := #[.agg #[.slice p11 (B0.length) c12, .slice p13 (R.length) c14, Ix (gX), Ix (gY)], .slice p15 (S.length) c16, .int .i64 (0)]) rfl rfl) ?_
  refine l_mv rfl rfl rfl (m_alloc tf85) ?_
  rintro _ _ ⟨b17, rfl, rfl⟩
  refine l_mu rfl rfl (m_store 0 tf86 (b := b17) (o := 0) (T := 27) (cs := #[.slice none 0 0, .slice none 0 0, .int .i64 (0), .int .i64 (0)]) (cs' := #[.slice p11 (B0.length) c12, .slice p13 (R.length) c14, Ix (gX), Ix (gY)]) (v := .agg #[.slice p11 (B0.length) c12, .slice p13 (R.length) c14, Ix (gX), Ix (gY)]) rfl rfl rfl rfl rfl rfl rfl) ?_
  refine l_val (v := .slice p15 (S.length) c16) rfl rfl rfl (e_assign) ?_
  refine l_val (v := .int .i64 (0)) rfl rfl rfl (e_assign) ?_
  refine l_nil ?_
  refine f_then ?_
  refine c_seq ?_
  refine c_seq ?_
  refine c_region ?_
  refine l_val (v := .int .i64 (0)) rfl rfl rfl (e_move) ?_
  refine l_val (v := .bool false) rfl rfl rfl (e_neq (a := (0 : Int)) (b := (0 : Int)) rfl rfl) ?_
  refine l_val (v := .bool false) rfl rfl rfl (e_move) ?_
  refine g_val (v := .agg #[.slice p11 (B0.length) c12, .slice p13 (R.length) c14, Ix (gX), Ix (gY)]) rfl rfl rfl rfl rfl (e_load tf86 (cs := [.slice p11 (B0.length) c12, .slice p13 (R.length) c14, Ix (gX), Ix (gY)]) rfl (k_pt 0 (cs := #[.slice p11 (B0.length) c12, .slice p13 (R.length) c14, Ix (gX), Ix (gY)]) (vs := [.slice p11 (B0.length) c12, .slice p13 (R.length) c14, Ix (gX), Ix (gY)]) rfl rfl) rfl) ?_
  refine g_call rfl rfl rfl rfl rfl (cl_value (fst := []) (cap := []) (vs := [.agg #[.slice p11 (B0.length) c12, .slice p13 (R.length) c14, Ix (gX), Ix (gY)]]) (all := [.agg #[.slice p11 (B0.length) c12, .slice p13 (R.length) c14, Ix (gX), Ix (gY)]]) tf140 rfl rfl rfl) ?_
  intro w hw
  obtain ⟨β1, sb, kn, hw1, back⟩ := St.frame_all hw
  refine (apartY_ok β1 w hw1 _ _ gX gY T (kn _ (k_flN 1 (F := BodyF) (m := B0.length) (xs := T) rfl (by omega))) (GR.mono sb hG) hapT).mono ?_
  rintro e w' ⟨rfl, hw'⟩
  refine ⟨_, rfl, _, back _ _ hw', ?_⟩
  clear hw hw1 hw' back kn sb
  refine g_val (v := .bool false) rfl rfl rfl rfl rfl (e_not (a := true) rfl) ?_
  refine l_val (v := .bool false) rfl rfl rfl (e_pick_f rfl) ?_
  refine l_val (v := .bool false) rfl rfl rfl (e_move) ?_
  refine g_val (v := .pointer (some ⟨b17, 0, none⟩)) rfl rfl rfl rfl rfl (e_fieldPt (b := b17) (o := 0) rfl tf49) ?_
  refine g_val (v := .slice p11 (B0.length) c12) rfl rfl rfl rfl rfl (e_load1 tf50 (v := .slice p11 (B0.length) c12) rfl (k_pt 0 (cs := #[.slice p11 (B0.length) c12, .slice p13 (R.length) c14, Ix (gX), Ix (gY)]) (vs := [.slice p11 (B0.length) c12]) rfl rfl)) ?_
  refine g_val (v := Nx (B0.length)) rfl rfl rfl rfl rfl (e_len (a := p11) (n := B0.length) (c := c12) rfl tf40) ?_
  refine g_val (v := .pointer (some ⟨b9, 0, none⟩)) rfl rfl rfl rfl rfl (e_fieldPt (b := b9) (o := 0) rfl tf49) ?_
  refine g_val (v := .slice p (B0.length) c) rfl rfl rfl rfl rfl (e_load1 tf50 (v := .slice p (B0.length) c) rfl (k_pt 4 (cs := #[.slice p (B0.length) c, .slice p2 (R.length) c2, Ix (gX), Ix (gY)]) (vs := [.slice p (B0.length) c]) rfl rfl)) ?_
  refine g_val (v := Nx (B0.length)) rfl rfl rfl rfl rfl (e_len (a := p) (n := B0.length) (c := c) rfl tf40) ?_
  refine g_val (v := .bool (decide (((B0.length : Nat) : Int) ≠ ((B0.length : Nat) : Int)))) rfl rfl rfl rfl rfl (e_neq (a := ((B0.length : Nat) : Int)) (b := ((B0.length : Nat) : Int)) rfl rfl) ?_
  refine l_val (v := .bool (decide (((B0.length : Nat) : Int) ≠ ((B0.length : Nat) : Int)))) rfl rfl rfl (e_pick_f rfl) ?_
  refine l_val (v := .bool (decide (((B0.length : Nat) : Int) ≠ ((B0.length : Nat) : Int)))) rfl rfl rfl (e_move) ?_
  refine l_split (s := 54) (p := ((B0.length : Nat) : Int) ≠ ((B0.length : Nat) : Int)) rfl (fun h => ?_) (fun h => ?_)
  exact absurd h (by omega)
  refine g_val (v := .agg #[.slice p11 (B0.length) c12, .slice p13 (R.length) c14, Ix (gX), Ix (gY)]) rfl rfl rfl rfl rfl (e_load tf86 (cs := [.slice p11 (B0.length) c12, .slice p13 (R.length) c14, Ix (gX), Ix (gY)]) rfl (k_pt 0 (cs := #[.slice p11 (B0.length) c12, .slice p13 (R.length) c14, Ix (gX), Ix (gY)]) (vs := [.slice p11 (B0.length) c12, .slice p13 (R.length) c14, Ix (gX), Ix (gY)]) rfl rfl) rfl) ?_
  refine g_call rfl rfl rfl rfl rfl (cl_value (fst := []) (cap := []) (vs := [.agg #[.slice p11 (B0.length) c12, .slice p13 (R.length) c14, Ix (gX), Ix (gY)]]) (all := [.agg #[.slice p11 (B0.length) c12, .slice p13 (R.length) c14, Ix (gX), Ix (gY)]]) tf87 rfl rfl rfl) ?_
  intro w hw
  obtain ⟨β1, sb, kn, hw1, back⟩ := St.frame_all hw
  refine (ivalid_ok β1 w hw1 _ _ (gX) (gY) T R (kn _ (k_flN 1 (F := BodyF) (m := B0.length) (xs := T) rfl (by omega))) (kn _ (k_flN 2 (F := RopeF) (m := R.length) (xs := R) rfl rfl)) (by omega) (by omega)).mono ?_
  rintro e w' ⟨rfl, hw'⟩
  refine ⟨_, rfl, _, back _ _ hw', ?_⟩
  clear hw hw1 hw' back kn sb
  refine g_val (v := .bool (decide (¬ (okS T R (gX) (gY))))) rfl rfl rfl rfl rfl (e_not_p (p := okS T R (gX) (gY)) rfl) ?_
  refine l_val (v := .bool (decide (¬ (okS T R (gX) (gY))))) rfl rfl rfl (e_pick_f rfl) ?_
  refine l_nil ?_
  refine f_then ?_
  refine c_if (¬ (okS T R (gX) (gY))) rfl (fun hc18 => ?_) (fun hc18 => ?_)
  ·
   exact absurd hc18 (fun h => h hokT)
  ·
   refine c_skip ?_
   refine f_then ?_
   refine c_seq ?_
   refine c_seq ?_
   refine c_region ?_
   refine l_val (v := .pointer (some ⟨b17, 0, none⟩)) rfl rfl rfl (e_fieldPt (b := b17) (o := 0) rfl tf49) ?_
   refine l_val (v := .slice p11 (B0.length) c12) rfl rfl rfl (e_load1 tf50 (v := .slice p11 (B0.length) c12) rfl (k_pt 0 (cs := #[.slice p11 (B0.length) c12, .slice p13 (R.length) c14, Ix (gX), Ix (gY)]) (vs := [.slice p11 (B0.length) c12]) rfl rfl)) ?_
   refine l_val (v := Nx (B0.length)) rfl rfl rfl (e_len (a := p11) (n := B0.length) (c := c12) rfl tf40) ?_
   refine l_val (v := .int .i64 (0)) rfl rfl rfl (e_move) ?_
   refine l_nil ?_
   refine f_then ?_
   refine c_block ?_
   refine c_mask [true, true, true, true, true, true, true] rfl ?_
   refine c_loop (fun (k : Nat) (f : Fm) (L : List Res) => (f 9 = .pointer (some ⟨b9, 0, none⟩) ∧ f 10 = Nx (i) ∧ f 11 = .pointer (some ⟨b17, 0, none⟩) ∧ f 60 = .slice p11 (B0.length) c12 ∧ f 61 = Nx (B0.length) ∧ f 62 = Nx (k)) ∧ L = [pt b17 (.cells #[.slice p11 (B0.length) c12, .slice p13 (R.length) c14, Ix (gX), Ix (gY)] 27), rowF BodyF 31 p11 c12 T, rowF RopeF 35 p13 c14 R, rowF StopF 45 p15 c16 S, pt b9 (.cells #[.slice p (B0.length) c, .slice p2 (R.length) c2, Ix (gX), Ix (gY)] 27), rowF BodyF 31 p c B0, rowF RopeF 35 p2 c2 R] ∧ (k ≤ T.length)) (fun (k : Nat) => T.length - k) 0 ?_ ?_
   ·exact ⟨⟨rfl, rfl, rfl, rfl, rfl, rfl⟩, rfl, (by omega)⟩
   rintro k f0 L0 ⟨⟨hs9, hs10, hs11, hs60, hs61, hs62⟩, hL, hk⟩
   subst L0
   refine rebase (d := 9) hs9 ?_
   refine rebase (d := 10) hs10 ?_
   refine rebase (d := 11) hs11 ?_
   refine rebase (d := 60) hs60 ?_
   refine rebase (d := 61) hs61 ?_
   refine rebase (d := 62) hs62 ?_
   clear hs9 hs10 hs11 hs60 hs61 hs62
   refine c_seq ?_
   refine c_region ?_
   refine l_val (v := .bool (decide (((k : Nat) : Int) < ((B0.length : Nat) : Int)))) rfl rfl rfl (e_lss (a := ((k : Nat) : Int)) (b := ((B0.length : Nat) : Int)) rfl rfl) ?_
   refine l_nil ?_
   refine f_then ?_
   refine c_seq ?_
   refine c_if (((k : Nat) : Int) < ((B0.length : Nat) : Int)) rfl (fun hc19 => ?_) (fun hc19 => ?_)
   ·
    refine c_skip ?_
    refine f_then ?_
    refine c_seq ?_
    refine c_block ?_
    refine c_seq ?_
    refine c_region ?_
    refine l_val (v := Nx (k)) rfl rfl rfl (e_move) ?_
    refine l_val (v := .pointer (some ((ba p11).add (k * 9)))) rfl rfl rfl (e_indexFlN 1 (F := BodyF) (j := k) (m := B0.length) (xs := T) rfl (by omega) rfl tf43 (by omega) rfl) ?_
    obtain ⟨b, hb⟩ : ∃ x_, T[k]? = some x_ := ⟨_, List.getElem?_eq_getElem (by omega)⟩
    refine l_val (v := .agg (bC b)) rfl rfl rfl (e_load tf22 (cs := (bodyE b)) rfl (k_flAt 1 (F := BodyF) rfl hb) rfl) ?_
    refine l_mv rfl rfl rfl (m_alloc tf58) ?_
    rintro _ _ ⟨b20, rfl, rfl⟩
    refine l_val (v := Nx (k)) rfl rfl rfl (e_assign) ?_
    refine l_mu rfl rfl (m_store 0 tf22 (b := b20) (o := 0) (T := 31) (cs := #[.int .i64 (0), .int .i64 (0), .int .i64 (0), .int .i64 (0), .int .i64 (0), .int .i64 (0), .int .i64 (0), .bool false, .bool false]) (cs' := (bC b)) (v := .agg (bC b)) rfl rfl rfl rfl rfl rfl rfl) ?_
    refine l_nil ?_
    refine f_then ?_
    refine c_seq ?_
    refine c_region ?_
    refine l_val (v := .pointer (some ⟨b9, 0, none⟩)) rfl rfl rfl (e_fieldPt (b := b9) (o := 0) rfl tf49) ?_
    refine l_val (v := .slice p (B0.length) c) rfl rfl rfl (e_load1 tf50 (v := .slice p (B0.length) c) rfl (k_pt 5 (cs := #[.slice p (B0.length) c, .slice p2 (R.length) c2, Ix (gX), Ix (gY)]) (vs := [.slice p (B0.length) c]) rfl rfl)) ?_
    refine l_val (v := Nx (k)) rfl rfl rfl (e_move) ?_
    refine l_val (v := .pointer (some ((ba p).add (k * 9)))) rfl rfl rfl (e_indexFlN 6 (F := BodyF) (j := k) (m := B0.length) (xs := B0) rfl rfl rfl tf43 (by omega) rfl) ?_
    obtain ⟨a, ha⟩ : ∃ x_, B0[k]? = some x_ := ⟨_, List.getElem?_eq_getElem (by omega)⟩
    refine l_val (v := .agg (bC a)) rfl rfl rfl (e_load tf22 (cs := (bodyE a)) rfl (k_flAt 6 (F := BodyF) rfl ha) rfl) ?_
    refine l_mv rfl rfl rfl (m_alloc tf58) ?_
    rintro _ _ ⟨b21, rfl, rfl⟩
    refine l_mu rfl rfl (m_store 0 tf22 (b := b21) (o := 0) (T := 31) (cs := #[.int .i64 (0), .int .i64 (0), .int .i64 (0), .int .i64 (0), .int .i64 (0), .int .i64 (0), .int .i64 (0), .bool false, .bool false]) (cs' := (bC a)) (v := .agg (bC a)) rfl rfl rfl rfl rfl rfl rfl) ?_
    refine l_nil ?_
    refine f_then ?_
    refine c_seq ?_
    have ok_a := o4 a (List.mem_of_getElem? ha)
    have ok_b := hokT.2.2.2.1 b (List.mem_of_getElem? hb)
    obtain ⟨⟨-, n1, n2, -, -⟩, n3, n4, n5⟩ := near_step (rs := R) (gx := gX) (gy := gY) (m := B0.length) ha (by rw [hT1]; exact hb)
    have kp1 := ok_a.2.1
    have kp2 := ok_a.2.2.1
    have kp3 := ok_a.2.2.2.2.2.1
    have kp4 := ok_a.2.2.2.2.2.2.1
    refine c_region ?_
    refine l_val (v := .agg (bC b)) rfl rfl rfl (e_load tf22 (cs := (bodyE b)) rfl (k_pt 1 (cs := (bC b)) (vs := (bodyE b)) rfl rfl) rfl) ?_
    refine l_call rfl rfl rfl (cl_value (fst := []) (cap := []) (vs := [.agg (bC b)]) (all := [.agg (bC b)]) tf133 rfl rfl rfl) ?_
    intro w hw
    obtain ⟨β1, sb, kn, hw1, back⟩ := St.frame_all hw
    refine (bounds_ok β1 w hw1 b ok_b).mono ?_
    rintro e w' ⟨rfl, hw'⟩
    refine ⟨_, rfl, _, back _ _ hw', ?_⟩
    clear hw hw1 hw' back kn sb
    refine l_val (v := .tuple #[.agg #[Ix (b.x - b.w), Ix (b.y - b.h)], .agg #[Ix (b.x + b.w), Ix (b.y + b.h)]]) rfl rfl rfl (e_move) ?_
    refine l_val (v := .agg #[Ix (b.x - b.w), Ix (b.y - b.h)]) rfl rfl rfl (e_extract (vs := #[.agg #[Ix (b.x - b.w), Ix (b.y - b.h)], .agg #[Ix (b.x + b.w), Ix (b.y + b.h)]]) rfl rfl) ?_
    refine l_val (v := .agg #[Ix (b.x + b.w), Ix (b.y + b.h)]) rfl rfl rfl (e_extract (vs := #[.agg #[Ix (b.x - b.w), Ix (b.y - b.h)], .agg #[Ix (b.x + b.w), Ix (b.y + b.h)]]) rfl rfl) ?_
    refine l_mv rfl rfl rfl (m_alloc tf17) ?_
    rintro _ _ ⟨b22, rfl, rfl⟩
    refine l_mv rfl rfl rfl (m_alloc tf17) ?_
    rintro _ _ ⟨b23, rfl, rfl⟩
    refine l_mu rfl rfl (m_store 1 tf15 (b := b22) (o := 0) (T := 25) (cs := #[.int .i64 (0), .int .i64 (0)]) (cs' := #[Ix (b.x - b.w), Ix (b.y - b.h)]) (v := .agg #[Ix (b.x - b.w), Ix (b.y - b.h)]) rfl rfl rfl rfl rfl rfl rfl) ?_
    refine l_mu rfl rfl (m_store 0 tf15 (b := b23) (o := 0) (T := 25) (cs := #[.int .i64 (0), .int .i64 (0)]) (cs' := #[Ix (b.x + b.w), Ix (b.y + b.h)]) (v := .agg #[Ix (b.x + b.w), Ix (b.y + b.h)]) rfl rfl rfl rfl rfl rfl rfl) ?_
    refine l_nil ?_
    refine f_then ?_
    refine c_seq ?_
    refine c_region ?_
    refine l_val (v := .agg (bC a)) rfl rfl rfl (e_load tf22 (cs := (bodyE a)) rfl (k_pt 2 (cs := (bC a)) (vs := (bodyE a)) rfl rfl) rfl) ?_
    refine l_val (v := .pointer (some ⟨b9, 2, none⟩)) rfl rfl rfl (e_fieldPt (b := b9) (o := 0) rfl tf57) ?_
    refine l_val (v := .agg #[Ix (gX), Ix (gY)]) rfl rfl rfl (e_load tf15 (cs := [Ix (gX), Ix (gY)]) rfl (k_pt 8 (cs := #[.slice p (B0.length) c, .slice p2 (R.length) c2, Ix (gX), Ix (gY)]) (vs := [Ix (gX), Ix (gY)]) rfl rfl) rfl) ?_
    refine l_call rfl rfl rfl (cl_value (fst := []) (cap := []) (vs := [.agg (bC a), .agg #[Ix (gX), Ix (gY)]]) (all := [.agg (bC a), .agg #[Ix (gX), Ix (gY)]]) tf141 rfl rfl rfl) ?_
    intro w hw
    obtain ⟨β1, sb, kn, hw1, back⟩ := St.frame_all hw
    refine (reach_ok β1 w hw1 a (gX) (gY) ok_a hov).mono ?_
    rintro e w' ⟨rfl, hw'⟩
    refine ⟨_, rfl, _, back _ _ hw', ?_⟩
    clear hw hw1 hw' back kn sb
    refine l_mv rfl rfl rfl (m_alloc tf132) ?_
    rintro _ _ ⟨b24, rfl, rfl⟩
    refine l_mu rfl rfl (m_store 0 tf135 (b := b24) (o := 0) (T := 62) (cs := #[.int .i64 (0), .int .i64 (0), .int .i64 (0), .int .i64 (0)]) (cs' := #[Ix (a.x - a.w + min (speedX a (gX) (gY)) 0), Ix (a.y - a.h + min (speedY a (gX) (gY)) 0), Ix (a.x + a.w + max (speedX a (gX) (gY)) 0), Ix (a.y + a.h + max (speedY a (gX) (gY)) 0)]) (v := .agg #[Ix (a.x - a.w + min (speedX a (gX) (gY)) 0), Ix (a.y - a.h + min (speedY a (gX) (gY)) 0), Ix (a.x + a.w + max (speedX a (gX) (gY)) 0), Ix (a.y + a.h + max (speedY a (gX) (gY)) 0)]) rfl rfl rfl rfl rfl rfl rfl) ?_
    refine l_nil ?_
    refine f_then ?_
    refine c_seq ?_
    refine c_region ?_
    refine l_val (v := .pointer (some ⟨b21, 8, none⟩)) rfl rfl rfl (e_fieldPt (b := b21) (o := 0) rfl tf14) ?_
    refine l_val (v := .bool (a.fixed)) rfl rfl rfl (e_load1 tf13 (v := .bool (a.fixed)) rfl (k_pt 3 (cs := (bC a)) (vs := [.bool (a.fixed)]) rfl rfl)) ?_
    refine l_val (v := .bool (a.fixed)) rfl rfl rfl (e_move) ?_
    refine l_splitb (s := 83) (b := a.fixed) rfl (fun hg25 => ?_) (fun hg25 => ?_)
    ·
     refine g_val (v := .agg (bC a)) rfl rfl rfl rfl rfl (e_load tf22 (cs := (bodyE a)) rfl (k_pt 3 (cs := (bC a)) (vs := (bodyE a)) rfl rfl) rfl) ?_
     refine g_val (v := .agg (bC b)) rfl rfl rfl rfl rfl (e_load tf22 (cs := (bodyE b)) rfl (k_pt 4 (cs := (bC b)) (vs := (bodyE b)) rfl rfl) rfl) ?_
     refine g_val (v := .bool (decide (¬ (a = b)))) rfl rfl rfl rfl rfl (e_neq_t (xs := (bodyE a)) (ys := (bodyE b)) tf142 tf143 tf144 rfl rfl rfl rfl (not_congr body_eq)) ?_
     refine l_val (v := .bool (decide (¬ (a = b)))) rfl rfl rfl (e_pick_t rfl) ?_
     refine l_val (v := .bool (decide (¬ (a = b)))) rfl rfl rfl (e_move) ?_
     refine l_split (s := 88) (p := ¬ (a = b)) rfl (fun h => ?_) (fun h => ?_)
     exact absurd h (fun h => h (n3 hg25).symm)
     refine g_val (v := .pointer (some ⟨b22, 0, none⟩)) rfl rfl rfl rfl rfl (e_fieldPt (b := b22) (o := 0) rfl tf7) ?_
     refine g_val (v := Ix (b.x - b.w)) rfl rfl rfl rfl rfl (e_load1 tf2 (v := Ix (b.x - b.w)) rfl (k_pt 2 (cs := #[Ix (b.x - b.w), Ix (b.y - b.h)]) (vs := [Ix (b.x - b.w)]) rfl rfl)) ?_
     refine g_val (v := .pointer (some ⟨b24, 0, none⟩)) rfl rfl rfl rfl rfl (e_fieldPt (b := b24) (o := 0) rfl tf145) ?_
     refine g_val (v := .pointer (some ⟨b24, 0, none⟩)) rfl rfl rfl rfl rfl (e_fieldPt (b := b24) (o := 0) rfl tf7) ?_
     refine g_val (v := Ix (a.x - a.w + min (speedX a (gX) (gY)) 0)) rfl rfl rfl rfl rfl (e_load1 tf2 (v := Ix (a.x - a.w + min (speedX a (gX) (gY)) 0)) rfl (k_pt 0 (cs := #[Ix (a.x - a.w + min (speedX a (gX) (gY)) 0), Ix (a.y - a.h + min (speedY a (gX) (gY)) 0), Ix (a.x + a.w + max (speedX a (gX) (gY)) 0), Ix (a.y + a.h + max (speedY a (gX) (gY)) 0)]) (vs := [Ix (a.x - a.w + min (speedX a (gX) (gY)) 0)]) rfl rfl)) ?_
     refine g_val (v := .bool (decide ((b.x - b.w) < (a.x - a.w + min (speedX a (gX) (gY)) 0)))) rfl rfl rfl rfl rfl (e_lss (a := (b.x - b.w)) (b := (a.x - a.w + min (speedX a (gX) (gY)) 0)) rfl rfl) ?_
     refine l_val (v := .bool (decide ((b.x - b.w) < (a.x - a.w + min (speedX a (gX) (gY)) 0)))) rfl rfl rfl (e_pick_f rfl) ?_
     refine l_val (v := .bool (decide ((b.x - b.w) < (a.x - a.w + min (speedX a (gX) (gY)) 0)))) rfl rfl rfl (e_move) ?_
     refine l_split (s := 96) (p := (b.x - b.w) < (a.x - a.w + min (speedX a (gX) (gY)) 0)) rfl (fun h => ?_) (fun h => ?_)
     exact absurd h (by omega)
     refine g_val (v := .pointer (some ⟨b22, 1, none⟩)) rfl rfl rfl rfl rfl (e_fieldPt (b := b22) (o := 0) rfl tf8) ?_
     refine g_val (v := Ix (b.y - b.h)) rfl rfl rfl rfl rfl (e_load1 tf2 (v := Ix (b.y - b.h)) rfl (k_pt 2 (cs := #[Ix (b.x - b.w), Ix (b.y - b.h)]) (vs := [Ix (b.y - b.h)]) rfl rfl)) ?_
     refine g_val (v := .pointer (some ⟨b24, 0, none⟩)) rfl rfl rfl rfl rfl (e_fieldPt (b := b24) (o := 0) rfl tf145) ?_
     refine g_val (v := .pointer (some ⟨b24, 1, none⟩)) rfl rfl rfl rfl rfl (e_fieldPt (b := b24) (o := 0) rfl tf8) ?_
     refine g_val (v := Ix (a.y - a.h + min (speedY a (gX) (gY)) 0)) rfl rfl rfl rfl rfl (e_load1 tf2 (v := Ix (a.y - a.h + min (speedY a (gX) (gY)) 0)) rfl (k_pt 0 (cs := #[Ix (a.x - a.w + min (speedX a (gX) (gY)) 0), Ix (a.y - a.h + min (speedY a (gX) (gY)) 0), Ix (a.x + a.w + max (speedX a (gX) (gY)) 0), Ix (a.y + a.h + max (speedY a (gX) (gY)) 0)]) (vs := [Ix (a.y - a.h + min (speedY a (gX) (gY)) 0)]) rfl rfl)) ?_
     refine g_val (v := .bool (decide ((b.y - b.h) < (a.y - a.h + min (speedY a (gX) (gY)) 0)))) rfl rfl rfl rfl rfl (e_lss (a := (b.y - b.h)) (b := (a.y - a.h + min (speedY a (gX) (gY)) 0)) rfl rfl) ?_
     refine l_val (v := .bool (decide ((b.y - b.h) < (a.y - a.h + min (speedY a (gX) (gY)) 0)))) rfl rfl rfl (e_pick_f rfl) ?_
     refine l_val (v := .bool (decide ((b.y - b.h) < (a.y - a.h + min (speedY a (gX) (gY)) 0)))) rfl rfl rfl (e_move) ?_
     refine l_split (s := 104) (p := (b.y - b.h) < (a.y - a.h + min (speedY a (gX) (gY)) 0)) rfl (fun h => ?_) (fun h => ?_)
     exact absurd h (by omega)
     refine g_val (v := .pointer (some ⟨b23, 0, none⟩)) rfl rfl rfl rfl rfl (e_fieldPt (b := b23) (o := 0) rfl tf7) ?_
     refine g_val (v := Ix (b.x + b.w)) rfl rfl rfl rfl rfl (e_load1 tf2 (v := Ix (b.x + b.w)) rfl (k_pt 1 (cs := #[Ix (b.x + b.w), Ix (b.y + b.h)]) (vs := [Ix (b.x + b.w)]) rfl rfl)) ?_
     refine g_val (v := .pointer (some ⟨b24, 2, none⟩)) rfl rfl rfl rfl rfl (e_fieldPt (b := b24) (o := 0) rfl tf146) ?_
     refine g_val (v := .pointer (some ⟨b24, 2, none⟩)) rfl rfl rfl rfl rfl (e_fieldPt (b := b24) (o := 2) rfl tf7) ?_
     refine g_val (v := Ix (a.x + a.w + max (speedX a (gX) (gY)) 0)) rfl rfl rfl rfl rfl (e_load1 tf2 (v := Ix (a.x + a.w + max (speedX a (gX) (gY)) 0)) rfl (k_pt 0 (cs := #[Ix (a.x - a.w + min (speedX a (gX) (gY)) 0), Ix (a.y - a.h + min (speedY a (gX) (gY)) 0), Ix (a.x + a.w + max (speedX a (gX) (gY)) 0), Ix (a.y + a.h + max (speedY a (gX) (gY)) 0)]) (vs := [Ix (a.x + a.w + max (speedX a (gX) (gY)) 0)]) rfl rfl)) ?_
     refine g_val (v := .bool (decide ((a.x + a.w + max (speedX a (gX) (gY)) 0) < (b.x + b.w)))) rfl rfl rfl rfl rfl (e_gtr (a := (b.x + b.w)) (b := (a.x + a.w + max (speedX a (gX) (gY)) 0)) rfl rfl) ?_
     refine l_val (v := .bool (decide ((a.x + a.w + max (speedX a (gX) (gY)) 0) < (b.x + b.w)))) rfl rfl rfl (e_pick_f rfl) ?_
     refine l_val (v := .bool (decide ((a.x + a.w + max (speedX a (gX) (gY)) 0) < (b.x + b.w)))) rfl rfl rfl (e_move) ?_
     refine l_split (s := 112) (p := (a.x + a.w + max (speedX a (gX) (gY)) 0) < (b.x + b.w)) rfl (fun h => ?_) (fun h => ?_)
     exact absurd h (by omega)
     refine g_val (v := .pointer (some ⟨b23, 1, none⟩)) rfl rfl rfl rfl rfl (e_fieldPt (b := b23) (o := 0) rfl tf8) ?_
     refine g_val (v := Ix (b.y + b.h)) rfl rfl rfl rfl rfl (e_load1 tf2 (v := Ix (b.y + b.h)) rfl (k_pt 1 (cs := #[Ix (b.x + b.w), Ix (b.y + b.h)]) (vs := [Ix (b.y + b.h)]) rfl rfl)) ?_
     refine g_val (v := .pointer (some ⟨b24, 2, none⟩)) rfl rfl rfl rfl rfl (e_fieldPt (b := b24) (o := 0) rfl tf146) ?_
     refine g_val (v := .pointer (some ⟨b24, 3, none⟩)) rfl rfl rfl rfl rfl (e_fieldPt (b := b24) (o := 2) rfl tf8) ?_
     refine g_val (v := Ix (a.y + a.h + max (speedY a (gX) (gY)) 0)) rfl rfl rfl rfl rfl (e_load1 tf2 (v := Ix (a.y + a.h + max (speedY a (gX) (gY)) 0)) rfl (k_pt 0 (cs := #[Ix (a.x - a.w + min (speedX a (gX) (gY)) 0), Ix (a.y - a.h + min (speedY a (gX) (gY)) 0), Ix (a.x + a.w + max (speedX a (gX) (gY)) 0), Ix (a.y + a.h + max (speedY a (gX) (gY)) 0)]) (vs := [Ix (a.y + a.h + max (speedY a (gX) (gY)) 0)]) rfl rfl)) ?_
     refine g_val (v := .bool (decide ((a.y + a.h + max (speedY a (gX) (gY)) 0) < (b.y + b.h)))) rfl rfl rfl rfl rfl (e_gtr (a := (b.y + b.h)) (b := (a.y + a.h + max (speedY a (gX) (gY)) 0)) rfl rfl) ?_
     refine l_val (v := .bool (decide ((a.y + a.h + max (speedY a (gX) (gY)) 0) < (b.y + b.h)))) rfl rfl rfl (e_pick_f rfl) ?_
     refine l_nil ?_
     refine f_then ?_
     refine c_if ((a.y + a.h + max (speedY a (gX) (gY)) 0) < (b.y + b.h)) rfl (fun hc26 => ?_) (fun hc26 => ?_)
     ·
      exact absurd hc26 (by omega)
     ·
      refine c_skip ?_
      refine f_block ?_
      refine f_then ?_
      refine c_region ?_
      refine l_val (v := Nx (k + 1)) rfl rfl rfl (e_add (a := ((k : Nat) : Int)) (b := (1 : Int)) rfl rfl (i64n (by omega) (by omega))) ?_
      refine l_val (v := Nx (k + 1)) rfl rfl rfl (e_move) ?_
      refine l_nil ?_
      refine f_mask (L' := [pt b17 (.cells #[.slice p11 (B0.length) c12, .slice p13 (R.length) c14, Ix (gX), Ix (gY)] 27), rowF BodyF 31 p11 c12 T, rowF RopeF 35 p13 c14 R, rowF StopF 45 p15 c16 S, pt b9 (.cells #[.slice p (B0.length) c, .slice p2 (R.length) c2, Ix (gX), Ix (gY)] 27), rowF BodyF 31 p c B0, rowF RopeF 35 p2 c2 R]) [false, false, false, false, false, true, true, true, true, true, true, true] rfl ?_
      exact f_cut ⟨k + 1, ⟨⟨rfl, rfl, rfl, rfl, rfl, rfl⟩, rfl, (by omega)⟩, (show T.length - (k + 1) < T.length - k from by omega)⟩
    ·
     refine l_skip rfl rfl rfl rfl rfl rfl ?_
     refine l_skip rfl rfl rfl rfl rfl rfl ?_
     refine l_skip rfl rfl rfl rfl rfl rfl ?_
     refine l_val (v := .bool false) rfl rfl rfl (e_pick_f rfl) ?_
     refine l_val (v := .bool false) rfl rfl rfl (e_move) ?_
     refine g_val (v := .pointer (some ⟨b22, 0, none⟩)) rfl rfl rfl rfl rfl (e_fieldPt (b := b22) (o := 0) rfl tf7) ?_
     refine g_val (v := Ix (b.x - b.w)) rfl rfl rfl rfl rfl (e_load1 tf2 (v := Ix (b.x - b.w)) rfl (k_pt 2 (cs := #[Ix (b.x - b.w), Ix (b.y - b.h)]) (vs := [Ix (b.x - b.w)]) rfl rfl)) ?_
     refine g_val (v := .pointer (some ⟨b24, 0, none⟩)) rfl rfl rfl rfl rfl (e_fieldPt (b := b24) (o := 0) rfl tf145) ?_
     refine g_val (v := .pointer (some ⟨b24, 0, none⟩)) rfl rfl rfl rfl rfl (e_fieldPt (b := b24) (o := 0) rfl tf7) ?_
     refine g_val (v := Ix (a.x - a.w + min (speedX a (gX) (gY)) 0)) rfl rfl rfl rfl rfl (e_load1 tf2 (v := Ix (a.x - a.w + min (speedX a (gX) (gY)) 0)) rfl (k_pt 0 (cs := #[Ix (a.x - a.w + min (speedX a (gX) (gY)) 0), Ix (a.y - a.h + min (speedY a (gX) (gY)) 0), Ix (a.x + a.w + max (speedX a (gX) (gY)) 0), Ix (a.y + a.h + max (speedY a (gX) (gY)) 0)]) (vs := [Ix (a.x - a.w + min (speedX a (gX) (gY)) 0)]) rfl rfl)) ?_
     refine g_val (v := .bool (decide ((b.x - b.w) < (a.x - a.w + min (speedX a (gX) (gY)) 0)))) rfl rfl rfl rfl rfl (e_lss (a := (b.x - b.w)) (b := (a.x - a.w + min (speedX a (gX) (gY)) 0)) rfl rfl) ?_
     refine l_val (v := .bool (decide ((b.x - b.w) < (a.x - a.w + min (speedX a (gX) (gY)) 0)))) rfl rfl rfl (e_pick_f rfl) ?_
     refine l_val (v := .bool (decide ((b.x - b.w) < (a.x - a.w + min (speedX a (gX) (gY)) 0)))) rfl rfl rfl (e_move) ?_
     refine l_split (s := 96) (p := (b.x - b.w) < (a.x - a.w + min (speedX a (gX) (gY)) 0)) rfl (fun h => ?_) (fun h => ?_)
     exact absurd h (by omega)
     refine g_val (v := .pointer (some ⟨b22, 1, none⟩)) rfl rfl rfl rfl rfl (e_fieldPt (b := b22) (o := 0) rfl tf8) ?_
     refine g_val (v := Ix (b.y - b.h)) rfl rfl rfl rfl rfl (e_load1 tf2 (v := Ix (b.y - b.h)) rfl (k_pt 2 (cs := #[Ix (b.x - b.w), Ix (b.y - b.h)]) (vs := [Ix (b.y - b.h)]) rfl rfl)) ?_
     refine g_val (v := .pointer (some ⟨b24, 0, none⟩)) rfl rfl rfl rfl rfl (e_fieldPt (b := b24) (o := 0) rfl tf145) ?_
     refine g_val (v := .pointer (some ⟨b24, 1, none⟩)) rfl rfl rfl rfl rfl (e_fieldPt (b := b24) (o := 0) rfl tf8) ?_
     refine g_val (v := Ix (a.y - a.h + min (speedY a (gX) (gY)) 0)) rfl rfl rfl rfl rfl (e_load1 tf2 (v := Ix (a.y - a.h + min (speedY a (gX) (gY)) 0)) rfl (k_pt 0 (cs := #[Ix (a.x - a.w + min (speedX a (gX) (gY)) 0), Ix (a.y - a.h + min (speedY a (gX) (gY)) 0), Ix (a.x + a.w + max (speedX a (gX) (gY)) 0), Ix (a.y + a.h + max (speedY a (gX) (gY)) 0)]) (vs := [Ix (a.y - a.h + min (speedY a (gX) (gY)) 0)]) rfl rfl)) ?_
     refine g_val (v := .bool (decide ((b.y - b.h) < (a.y - a.h + min (speedY a (gX) (gY)) 0)))) rfl rfl rfl rfl rfl (e_lss (a := (b.y - b.h)) (b := (a.y - a.h + min (speedY a (gX) (gY)) 0)) rfl rfl) ?_
     refine l_val (v := .bool (decide ((b.y - b.h) < (a.y - a.h + min (speedY a (gX) (gY)) 0)))) rfl rfl rfl (e_pick_f rfl) ?_
     refine l_val (v := .bool (decide ((b.y - b.h) < (a.y - a.h + min (speedY a (gX) (gY)) 0)))) rfl rfl rfl (e_move) ?_
     refine l_split (s := 104) (p := (b.y - b.h) < (a.y - a.h + min (speedY a (gX) (gY)) 0)) rfl (fun h => ?_) (fun h => ?_)
     exact absurd h (by omega)
     refine g_val (v := .pointer (some ⟨b23, 0, none⟩)) rfl rfl rfl rfl rfl (e_fieldPt (b := b23) (o := 0) rfl tf7) ?_
     refine g_val (v := Ix (b.x + b.w)) rfl rfl rfl rfl rfl (e_load1 tf2 (v := Ix (b.x + b.w)) rfl (k_pt 1 (cs := #[Ix (b.x + b.w), Ix (b.y + b.h)]) (vs := [Ix (b.x + b.w)]) rfl rfl)) ?_
     refine g_val (v := .pointer (some ⟨b24, 2, none⟩)) rfl rfl rfl rfl rfl (e_fieldPt (b := b24) (o := 0) rfl tf146) ?_
     refine g_val (v := .pointer (some ⟨b24, 2, none⟩)) rfl rfl rfl rfl rfl (e_fieldPt (b := b24) (o := 2) rfl tf7) ?_
     refine g_val (v := Ix (a.x + a.w + max (speedX a (gX) (gY)) 0)) rfl rfl rfl rfl rfl (e_load1 tf2 (v := Ix (a.x + a.w + max (speedX a (gX) (gY)) 0)) rfl (k_pt 0 (cs := #[Ix (a.x - a.w + min (speedX a (gX) (gY)) 0), Ix (a.y - a.h + min (speedY a (gX) (gY)) 0), Ix (a.x + a.w + max (speedX a (gX) (gY)) 0), Ix (a.y + a.h + max (speedY a (gX) (gY)) 0)]) (vs := [Ix (a.x + a.w + max (speedX a (gX) (gY)) 0)]) rfl rfl)) ?_
     refine g_val (v := .bool (decide ((a.x + a.w + max (speedX a (gX) (gY)) 0) < (b.x + b.w)))) rfl rfl rfl rfl rfl (e_gtr (a := (b.x + b.w)) (b := (a.x + a.w + max (speedX a (gX) (gY)) 0)) rfl rfl) ?_
     refine l_val (v := .bool (decide ((a.x + a.w + max (speedX a (gX) (gY)) 0) < (b.x + b.w)))) rfl rfl rfl (e_pick_f rfl) ?_
     refine l_val (v := .bool (decide ((a.x + a.w + max (speedX a (gX) (gY)) 0) < (b.x + b.w)))) rfl rfl rfl (e_move) ?_
     refine l_split (s := 112) (p := (a.x + a.w + max (speedX a (gX) (gY)) 0) < (b.x + b.w)) rfl (fun h => ?_) (fun h => ?_)
     exact absurd h (by omega)
     refine g_val (v := .pointer (some ⟨b23, 1, none⟩)) rfl rfl rfl rfl rfl (e_fieldPt (b := b23) (o := 0) rfl tf8) ?_
     refine g_val (v := Ix (b.y + b.h)) rfl rfl rfl rfl rfl (e_load1 tf2 (v := Ix (b.y + b.h)) rfl (k_pt 1 (cs := #[Ix (b.x + b.w), Ix (b.y + b.h)]) (vs := [Ix (b.y + b.h)]) rfl rfl)) ?_
     refine g_val (v := .pointer (some ⟨b24, 2, none⟩)) rfl rfl rfl rfl rfl (e_fieldPt (b := b24) (o := 0) rfl tf146) ?_
     refine g_val (v := .pointer (some ⟨b24, 3, none⟩)) rfl rfl rfl rfl rfl (e_fieldPt (b := b24) (o := 2) rfl tf8) ?_
     refine g_val (v := Ix (a.y + a.h + max (speedY a (gX) (gY)) 0)) rfl rfl rfl rfl rfl (e_load1 tf2 (v := Ix (a.y + a.h + max (speedY a (gX) (gY)) 0)) rfl (k_pt 0 (cs := #[Ix (a.x - a.w + min (speedX a (gX) (gY)) 0), Ix (a.y - a.h + min (speedY a (gX) (gY)) 0), Ix (a.x + a.w + max (speedX a (gX) (gY)) 0), Ix (a.y + a.h + max (speedY a (gX) (gY)) 0)]) (vs := [Ix (a.y + a.h + max (speedY a (gX) (gY)) 0)]) rfl rfl)) ?_
     refine g_val (v := .bool (decide ((a.y + a.h + max (speedY a (gX) (gY)) 0) < (b.y + b.h)))) rfl rfl rfl rfl rfl (e_gtr (a := (b.y + b.h)) (b := (a.y + a.h + max (speedY a (gX) (gY)) 0)) rfl rfl) ?_
     refine l_val (v := .bool (decide ((a.y + a.h + max (speedY a (gX) (gY)) 0) < (b.y + b.h)))) rfl rfl rfl (e_pick_f rfl) ?_
     refine l_nil ?_
     refine f_then ?_
     refine c_if ((a.y + a.h + max (speedY a (gX) (gY)) 0) < (b.y + b.h)) rfl (fun hc27 => ?_) (fun hc27 => ?_)
     ·
      exact absurd hc27 (by omega)
     ·
      refine c_skip ?_
      refine f_block ?_
      refine f_then ?_
      refine c_region ?_
      refine l_val (v := Nx (k + 1)) rfl rfl rfl (e_add (a := ((k : Nat) : Int)) (b := (1 : Int)) rfl rfl (i64n (by omega) (by omega))) ?_
      refine l_val (v := Nx (k + 1)) rfl rfl rfl (e_move) ?_
      refine l_nil ?_
      refine f_mask (L' := [pt b17 (.cells #[.slice p11 (B0.length) c12, .slice p13 (R.length) c14, Ix (gX), Ix (gY)] 27), rowF BodyF 31 p11 c12 T, rowF RopeF 35 p13 c14 R, rowF StopF 45 p15 c16 S, pt b9 (.cells #[.slice p (B0.length) c, .slice p2 (R.length) c2, Ix (gX), Ix (gY)] 27), rowF BodyF 31 p c B0, rowF RopeF 35 p2 c2 R]) [false, false, false, false, false, true, true, true, true, true, true, true] rfl ?_
      exact f_cut ⟨k + 1, ⟨⟨rfl, rfl, rfl, rfl, rfl, rfl⟩, rfl, (by omega)⟩, (show T.length - (k + 1) < T.length - k from by omega)⟩
   ·
    refine c_exit ?_
    refine f_then_exit ?_
    refine f_then_exit ?_
    refine f_exit ?_
    refine f_then ?_
    refine c_region ?_
    refine l_val (v := .agg #[.slice p11 (B0.length) c12, .slice p13 (R.length) c14, Ix (gX), Ix (gY)]) rfl rfl rfl (e_load tf86 (cs := [.slice p11 (B0.length) c12, .slice p13 (R.length) c14, Ix (gX), Ix (gY)]) rfl (k_pt 0 (cs := #[.slice p11 (B0.length) c12, .slice p13 (R.length) c14, Ix (gX), Ix (gY)]) (vs := [.slice p11 (B0.length) c12, .slice p13 (R.length) c14, Ix (gX), Ix (gY)]) rfl rfl) rfl) ?_
    refine l_mu rfl rfl (m_store 4 tf86 (b := b9) (o := 0) (T := 27) (cs := #[.slice p (B0.length) c, .slice p2 (R.length) c2, Ix (gX), Ix (gY)]) (cs' := #[.slice p11 (B0.length) c12, .slice p13 (R.length) c14, Ix (gX), Ix (gY)]) (v := .agg #[.slice p11 (B0.length) c12, .slice p13 (R.length) c14, Ix (gX), Ix (gY)]) rfl rfl rfl rfl rfl rfl rfl) ?_
    refine l_nil ?_
    refine f_block ?_
    refine f_then ?_
    refine c_region ?_
    refine l_val (v := Nx (i)) rfl rfl rfl (e_move) ?_
    refine l_val (v := Nx (i + 1)) rfl rfl rfl (e_add (a := ((i : Nat) : Int)) (b := (1 : Int)) rfl rfl (i64n (by omega) (by omega))) ?_
    refine l_val (v := Nx (i + 1)) rfl rfl rfl (e_assign) ?_
    refine l_nil ?_
    refine f_perm (L' := [pt b9 (.cells #[.slice p11 (B0.length) c12, .slice p13 (R.length) c14, Ix (gX), Ix (gY)] 27), rowF BodyF 31 p11 c12 T, rowF RopeF 35 p13 c14 R, pt b17 (.cells #[.slice p11 (B0.length) c12, .slice p13 (R.length) c14, Ix (gX), Ix (gY)] 27), rowF StopF 45 p15 c16 S, rowF BodyF 31 p c B0, rowF RopeF 35 p2 c2 R]) (perm_ix [4, 1, 2, 0, 3, 5, 6] 7 rfl (by kernel_rfl) (by kernel_rfl)) ?_
    refine f_mask (L' := [pt b9 (.cells #[.slice p11 (B0.length) c12, .slice p13 (R.length) c14, Ix (gX), Ix (gY)] 27), rowF BodyF 31 p11 c12 T, rowF RopeF 35 p13 c14 R]) [true, true, true, false, false, false, false] rfl ?_
    exact f_cut ⟨(i + 1, T, p11, c12, p13, c14), ⟨⟨rfl, rfl⟩, (by rw [hTl]), ⟨by omega, hokT, hapT⟩⟩, (show 5 - (i + 1) < 5 - i from by omega)⟩
 ·
  refine c_exit ?_
  refine f_then_exit ?_
  refine f_then_exit ?_
  refine f_exit ?_
  refine f_then ?_
  refine c_seq ?_
  refine c_region ?_
  refine l_val (v := .bool true) rfl rfl rfl (e_assign) ?_
  refine l_nil ?_
  refine f_then ?_
  refine c_ret ?_
  refine ret1 Tryd.results8 (v := .bool true) rfl ?_
  intro w hw
  exact ⟨rfl, st_mask [false, false, false] rfl hw⟩
end Go.Proofs
