/-
 Bounds, Reach, cleared, apart; StepApart, walked. Printed by a program of my own.
-/
import Derived.Test.YtdkibofhppgbjaaGreatDoorSt11
import Derived.Test.YtdkibofhppgbjaaGreatDoorBrDef
namespace Go.Proofs
open Go Go.Sl Go.Stp
set_option maxHeartbeats 4000000 in
theorem bounds_ok (β : Base) (w : World) (hw : St β [] w) (b : KB) (ok_b : okB b) : Calls Tryz.prog 96 #[.agg (bC b)] w fun r w' => r = .returned (.tuple #[.agg #[Ix (b.x - b.w), Ix (b.y - b.h)], .agg #[Ix (b.x + b.w), Ix (b.y + b.h)]]) ∧ St β [] w' := by
 have kp1 := ok_b.2.1
 have kp2 := ok_b.2.2.1
 have kp3 := ok_b.2.2.2.2.2.1
 have kp4 := ok_b.2.2.2.2.2.2.1
 refine enter (n := 35) Tryz.func96 rfl Tryz.ntmps96 rfl ?_ hw
 refine c_seq ?_
 refine c_region ?_
 refine l_mv rfl rfl rfl (m_box (v := .agg (bC b)) rfl) ?_
 rintro _ _ ⟨b1, rfl, rfl⟩
 refine l_mv rfl rfl rfl (m_alloc tf17) ?_
 rintro _ _ ⟨b2, rfl, rfl⟩
 refine l_mv rfl rfl rfl (m_alloc tf17) ?_
 rintro _ _ ⟨b3, rfl, rfl⟩
 refine l_nil ?_
 refine f_then ?_
 refine c_seq ?_
 refine c_seq ?_
 refine c_region ?_
 refine l_val (v := .agg (bC b)) rfl rfl rfl (e_load tf22 (cs := (bodyE b)) rfl (k_pt 2 (cs := (bC b)) (vs := (bodyE b)) rfl rfl) rfl) ?_
 refine l_call rfl rfl rfl (cl_value (fst := []) (cap := []) (vs := [.agg (bC b)]) (all := [.agg (bC b)]) tf24 rfl rfl rfl) ?_
 intro w hw
 obtain ⟨β1, sb, kn, hw1, back⟩ := St.frame_all hw
 refine (valid_ok β1 w hw1 b).mono ?_
 rintro e w' ⟨rfl, hw'⟩
 refine ⟨_, rfl, _, back _ _ hw', ?_⟩
 clear hw hw1 hw' back kn sb
 refine l_val (v := .bool (decide (¬ (okB b)))) rfl rfl rfl (e_not_p (p := okB b) rfl) ?_
 refine l_nil ?_
 refine f_then ?_
 refine c_if (¬ (okB b)) rfl (fun hc4 => ?_) (fun hc4 => ?_)
 ·
  exact absurd hc4 (fun h => h ok_b)
 ·
  refine c_skip ?_
  refine f_then ?_
  refine c_seq ?_
  refine c_any [⟨[], [], [0], [9], fun f => f 9 = .pointer (some ⟨b1, 1, none⟩)⟩, ⟨[0], [0], [], [10], fun f => f 10 = .pointer (some ⟨b1, 1, none⟩)⟩, ⟨[0, 1], [1], [], [11], fun f => f 11 = Ix (b.x)⟩, ⟨[], [], [0], [12], fun f => f 12 = .pointer (some ⟨b1, 5, none⟩)⟩, ⟨[3], [3], [], [13], fun f => f 13 = Ix (b.w)⟩, ⟨[0, 1, 2, 3, 4], [2, 4], [], [14], fun f => f 14 = Ix ((b.x) - (b.w))⟩, ⟨[], [], [0], [15], fun f => f 15 = .pointer (some ⟨b1, 1, none⟩)⟩, ⟨[6], [6], [], [16], fun f => f 16 = .pointer (some ⟨b1, 2, none⟩)⟩, ⟨[6, 7], [7], [], [17], fun f => f 17 = Ix (b.y)⟩, ⟨[], [], [0], [18], fun f => f 18 = .pointer (some ⟨b1, 6, none⟩)⟩, ⟨[9], [9], [], [19], fun f => f 19 = Ix (b.h)⟩, ⟨[6, 7, 8, 9, 10], [8, 10], [], [20], fun f => f 20 = Ix ((b.y) - (b.h))⟩, ⟨[0, 1, 2, 3, 4, 5, 6, 7, 8, 9, 10, 11], [5, 11], [], [21], fun f => f 21 = .agg #[Ix ((b.x) - (b.w)), Ix ((b.y) - (b.h))]⟩, ⟨[], [], [0], [22], fun f => f 22 = .pointer (some ⟨b1, 1, none⟩)⟩, ⟨[13], [13], [], [23], fun f => f 23 = .pointer (some ⟨b1, 1, none⟩)⟩, ⟨[13, 14], [14], [], [24], fun f => f 24 = Ix (b.x)⟩, ⟨[], [], [0], [25], fun f => f 25 = .pointer (some ⟨b1, 5, none⟩)⟩, ⟨[16], [16], [], [26], fun f => f 26 = Ix (b.w)⟩, ⟨[13, 14, 15, 16, 17], [15, 17], [], [27], fun f => f 27 = Ix ((b.x) + (b.w))⟩, ⟨[], [], [0], [28], fun f => f 28 = .pointer (some ⟨b1, 1, none⟩)⟩, ⟨[19], [19], [], [29], fun f => f 29 = .pointer (some ⟨b1, 2, none⟩)⟩, ⟨[19, 20], [20], [], [30], fun f => f 30 = Ix (b.y)⟩, ⟨[], [], [0], [31], fun f => f 31 = .pointer (some ⟨b1, 6, none⟩)⟩, ⟨[22], [22], [], [32], fun f => f 32 = Ix (b.h)⟩, ⟨[19, 20, 21, 22, 23], [21, 23], [], [33], fun f => f 33 = Ix ((b.y) + (b.h))⟩, ⟨[13, 14, 15, 16, 17, 18, 19, 20, 21, 22, 23, 24], [18, 24], [], [34], fun f => f 34 = .agg #[Ix ((b.x) + (b.w)), Ix ((b.y) + (b.h))]⟩, ⟨[0, 1, 2, 3, 4, 5, 6, 7, 8, 9, 10, 11, 12], [12], [1], [], fun _ => True⟩, ⟨[0, 1, 2, 3, 4, 5, 6, 7, 8, 9, 10, 11, 12, 13, 14, 15, 16, 17, 18, 19, 20, 21, 22, 23, 24, 25, 26], [25], [2], [], fun _ => True⟩] [⟨none, (some 27), [27], [], fun _ => pt b3 (.cells #[.int .i64 (0), .int .i64 (0)] 28)⟩, ⟨none, (some 26), [26], [], fun _ => pt b2 (.cells #[.int .i64 (0), .int .i64 (0)] 28)⟩, ⟨none, none, [2, 4, 8, 10, 15, 17, 21, 23], [], fun _ => pt b1 (.cells (bC b) 52)⟩, ⟨(some 26), none, [], [], fun _ => pt b2 (.cells #[Ix ((b.x) - (b.w)), Ix ((b.y) - (b.h))] 28)⟩, ⟨(some 27), none, [], [], fun _ => pt b3 (.cells #[Ix ((b.x) + (b.w)), Ix ((b.y) + (b.h))] 28)⟩] [(1, .pointer (some ⟨b1, 0, none⟩)), (2, .pointer (some ⟨b2, 0, none⟩)), (3, .pointer (some ⟨b3, 0, none⟩))] [1, 2] [] (by kernel_rfl) (by kernel_rfl) (by kernel_rfl) (by kernel_rfl) rfl ⟨rfl, rfl, rfl, trivial⟩ ⟨?_, ?_, ?_, ?_, ?_, ?_, ?_, ?_, ?_, ?_, ?_, ?_, ?_, ?_, ?_, ?_, ?_, ?_, ?_, ?_, ?_, ?_, ?_, ?_, ?_, ?_, ?_, ?_, trivial⟩ ?_
  ·rintro f M - ⟨i0, -⟩
   have hs1 : f 1 = .pointer (some ⟨b1, 0, none⟩) := i0
   refine ob_start (L' := M) (by rfl) (up_cons rfl hs1) ?_
   refine l_val (v := .pointer (some ⟨b1, 1, none⟩)) rfl rfl rfl (e_fieldPt (b := b1) (o := 0) rfl tf6) ?_
   refine l_nil ?_
   exact f_owes_d (up_cons rfl hs1) rfl (List.Perm.refl _)
  ·rintro f M ⟨k0, -⟩ -
   have hs9 : f 9 = .pointer (some ⟨b1, 1, none⟩) := k0
   refine ob_start (L' := M) (by rfl) (up_cons rfl hs9) ?_
   refine l_val (v := .pointer (some ⟨b1, 1, none⟩)) rfl rfl rfl (e_fieldPt (b := b1) (o := 1) rfl tf7) ?_
   refine l_nil ?_
   exact f_owes_d (up_cons rfl hs9) rfl (List.Perm.refl _)
  ·rintro f M ⟨k0, -⟩ -
   have hs10 : f 10 = .pointer (some ⟨b1, 1, none⟩) := k0
   refine ob_start (L' := pt b1 (.cells (bC b) 52) :: M) (by rfl) (up_cons rfl hs10) ?_
   refine l_val (v := Ix (b.x)) rfl rfl rfl (e_load1 tf2 (v := Ix (b.x)) rfl (k_pt 0 (cs := (bC b)) (vs := [Ix (b.x)]) rfl rfl)) ?_
   refine l_nil ?_
   exact f_owes_d (up_cons rfl hs10) rfl (perm_front 0 rfl)
  ·rintro f M - ⟨i0, -⟩
   have hs1 : f 1 = .pointer (some ⟨b1, 0, none⟩) := i0
   refine ob_start (L' := M) (by rfl) (up_cons rfl hs1) ?_
   refine l_val (v := .pointer (some ⟨b1, 5, none⟩)) rfl rfl rfl (e_fieldPt (b := b1) (o := 0) rfl tf10) ?_
   refine l_nil ?_
   exact f_owes_d (up_cons rfl hs1) rfl (List.Perm.refl _)
  ·rintro f M ⟨k0, -⟩ -
   have hs12 : f 12 = .pointer (some ⟨b1, 5, none⟩) := k0
   refine ob_start (L' := pt b1 (.cells (bC b) 52) :: M) (by rfl) (up_cons rfl hs12) ?_
   refine l_val (v := Ix (b.w)) rfl rfl rfl (e_load1 tf2 (v := Ix (b.w)) rfl (k_pt 0 (cs := (bC b)) (vs := [Ix (b.w)]) rfl rfl)) ?_
   refine l_nil ?_
   exact f_owes_d (up_cons rfl hs12) rfl (perm_front 0 rfl)
  ·rintro f M ⟨k0, k1, -⟩ -
   have hs11 : f 11 = Ix (b.x) := k0
   have hs13 : f 13 = Ix (b.w) := k1
   refine ob_start (L' := M) (by rfl) (up_cons (up_cons rfl hs11) hs13) ?_
   refine l_val (v := Ix ((b.x) - (b.w))) rfl rfl rfl (e_sub (a := (b.x)) (b := (b.w)) rfl rfl (i64w (by omega))) ?_
   refine l_nil ?_
   exact f_owes_d (up_cons (up_cons rfl hs11) hs13) rfl (List.Perm.refl _)
  ·rintro f M - ⟨i0, -⟩
   have hs1 : f 1 = .pointer (some ⟨b1, 0, none⟩) := i0
   refine ob_start (L' := M) (by rfl) (up_cons rfl hs1) ?_
   refine l_val (v := .pointer (some ⟨b1, 1, none⟩)) rfl rfl rfl (e_fieldPt (b := b1) (o := 0) rfl tf6) ?_
   refine l_nil ?_
   exact f_owes_d (up_cons rfl hs1) rfl (List.Perm.refl _)
  ·rintro f M ⟨k0, -⟩ -
   have hs15 : f 15 = .pointer (some ⟨b1, 1, none⟩) := k0
   refine ob_start (L' := M) (by rfl) (up_cons rfl hs15) ?_
   refine l_val (v := .pointer (some ⟨b1, 2, none⟩)) rfl rfl rfl (e_fieldPt (b := b1) (o := 1) rfl tf8) ?_
   refine l_nil ?_
   exact f_owes_d (up_cons rfl hs15) rfl (List.Perm.refl _)
  ·rintro f M ⟨k0, -⟩ -
   have hs16 : f 16 = .pointer (some ⟨b1, 2, none⟩) := k0
   refine ob_start (L' := pt b1 (.cells (bC b) 52) :: M) (by rfl) (up_cons rfl hs16) ?_
   refine l_val (v := Ix (b.y)) rfl rfl rfl (e_load1 tf2 (v := Ix (b.y)) rfl (k_pt 0 (cs := (bC b)) (vs := [Ix (b.y)]) rfl rfl)) ?_
   refine l_nil ?_
   exact f_owes_d (up_cons rfl hs16) rfl (perm_front 0 rfl)
  ·rintro f M - ⟨i0, -⟩
   have hs1 : f 1 = .pointer (some ⟨b1, 0, none⟩) := i0
   refine ob_start (L' := M) (by rfl) (up_cons rfl hs1) ?_
   refine l_val (v := .pointer (some ⟨b1, 6, none⟩)) rfl rfl rfl (e_fieldPt (b := b1) (o := 0) rfl tf11) ?_
   refine l_nil ?_
   exact f_owes_d (up_cons rfl hs1) rfl (List.Perm.refl _)
  ·rintro f M ⟨k0, -⟩ -
   have hs18 : f 18 = .pointer (some ⟨b1, 6, none⟩) := k0
   refine ob_start (L' := pt b1 (.cells (bC b) 52) :: M) (by rfl) (up_cons rfl hs18) ?_
   refine l_val (v := Ix (b.h)) rfl rfl rfl (e_load1 tf2 (v := Ix (b.h)) rfl (k_pt 0 (cs := (bC b)) (vs := [Ix (b.h)]) rfl rfl)) ?_
   refine l_nil ?_
   exact f_owes_d (up_cons rfl hs18) rfl (perm_front 0 rfl)
  ·rintro f M ⟨k0, k1, -⟩ -
   have hs17 : f 17 = Ix (b.y) := k0
   have hs19 : f 19 = Ix (b.h) := k1
   refine ob_start (L' := M) (by rfl) (up_cons (up_cons rfl hs17) hs19) ?_
   refine l_val (v := Ix ((b.y) - (b.h))) rfl rfl rfl (e_sub (a := (b.y)) (b := (b.h)) rfl rfl (i64w (by omega))) ?_
   refine l_nil ?_
   exact f_owes_d (up_cons (up_cons rfl hs17) hs19) rfl (List.Perm.refl _)
  ·rintro f M ⟨k0, k1, -⟩ -
   have hs14 : f 14 = Ix ((b.x) - (b.w)) := k0
   have hs20 : f 20 = Ix ((b.y) - (b.h)) := k1
   refine ob_start (L' := M) (by rfl) (up_cons (up_cons rfl hs14) hs20) ?_
   refine l_val (v := .agg #[Ix ((b.x) - (b.w)), Ix ((b.y) - (b.h))]) rfl rfl rfl (e_build tf17 tf16 (vs := [(0, Ix ((b.x) - (b.w))), (1, Ix ((b.y) - (b.h)))]) (cells := #[Ix ((b.x) - (b.w)), Ix ((b.y) - (b.h))]) rfl rfl) ?_
   refine l_nil ?_
   exact f_owes_d (up_cons (up_cons rfl hs14) hs20) rfl (List.Perm.refl _)
  ·rintro f M - ⟨i0, -⟩
   have hs1 : f 1 = .pointer (some ⟨b1, 0, none⟩) := i0
   refine ob_start (L' := M) (by rfl) (up_cons rfl hs1) ?_
   refine l_val (v := .pointer (some ⟨b1, 1, none⟩)) rfl rfl rfl (e_fieldPt (b := b1) (o := 0) rfl tf6) ?_
   refine l_nil ?_
   exact f_owes_d (up_cons rfl hs1) rfl (List.Perm.refl _)
  ·rintro f M ⟨k0, -⟩ -
   have hs22 : f 22 = .pointer (some ⟨b1, 1, none⟩) := k0
   refine ob_start (L' := M) (by rfl) (up_cons rfl hs22) ?_
   refine l_val (v := .pointer (some ⟨b1, 1, none⟩)) rfl rfl rfl (e_fieldPt (b := b1) (o := 1) rfl tf7) ?_
   refine l_nil ?_
   exact f_owes_d (up_cons rfl hs22) rfl (List.Perm.refl _)
  ·rintro f M ⟨k0, -⟩ -
   have hs23 : f 23 = .pointer (some ⟨b1, 1, none⟩) := k0
   refine ob_start (L' := pt b1 (.cells (bC b) 52) :: M) (by rfl) (up_cons rfl hs23) ?_
   refine l_val (v := Ix (b.x)) rfl rfl rfl (e_load1 tf2 (v := Ix (b.x)) rfl (k_pt 0 (cs := (bC b)) (vs := [Ix (b.x)]) rfl rfl)) ?_
   refine l_nil ?_
   exact f_owes_d (up_cons rfl hs23) rfl (perm_front 0 rfl)
  ·rintro f M - ⟨i0, -⟩
   have hs1 : f 1 = .pointer (some ⟨b1, 0, none⟩) := i0
   refine ob_start (L' := M) (by rfl) (up_cons rfl hs1) ?_
   refine l_val (v := .pointer (some ⟨b1, 5, none⟩)) rfl rfl rfl (e_fieldPt (b := b1) (o := 0) rfl tf10) ?_
   refine l_nil ?_
   exact f_owes_d (up_cons rfl hs1) rfl (List.Perm.refl _)
  ·rintro f M ⟨k0, -⟩ -
   have hs25 : f 25 = .pointer (some ⟨b1, 5, none⟩) := k0
   refine ob_start (L' := pt b1 (.cells (bC b) 52) :: M) (by rfl) (up_cons rfl hs25) ?_
   refine l_val (v := Ix (b.w)) rfl rfl rfl (e_load1 tf2 (v := Ix (b.w)) rfl (k_pt 0 (cs := (bC b)) (vs := [Ix (b.w)]) rfl rfl)) ?_
   refine l_nil ?_
   exact f_owes_d (up_cons rfl hs25) rfl (perm_front 0 rfl)
  ·rintro f M ⟨k0, k1, -⟩ -
   have hs24 : f 24 = Ix (b.x) := k0
   have hs26 : f 26 = Ix (b.w) := k1
   refine ob_start (L' := M) (by rfl) (up_cons (up_cons rfl hs24) hs26) ?_
   refine l_val (v := Ix ((b.x) + (b.w))) rfl rfl rfl (e_add (a := (b.x)) (b := (b.w)) rfl rfl (i64w (by omega))) ?_
   refine l_nil ?_
   exact f_owes_d (up_cons (up_cons rfl hs24) hs26) rfl (List.Perm.refl _)
  ·rintro f M - ⟨i0, -⟩
   have hs1 : f 1 = .pointer (some ⟨b1, 0, none⟩) := i0
   refine ob_start (L' := M) (by rfl) (up_cons rfl hs1) ?_
   refine l_val (v := .pointer (some ⟨b1, 1, none⟩)) rfl rfl rfl (e_fieldPt (b := b1) (o := 0) rfl tf6) ?_
   refine l_nil ?_
   exact f_owes_d (up_cons rfl hs1) rfl (List.Perm.refl _)
  ·rintro f M ⟨k0, -⟩ -
   have hs28 : f 28 = .pointer (some ⟨b1, 1, none⟩) := k0
   refine ob_start (L' := M) (by rfl) (up_cons rfl hs28) ?_
   refine l_val (v := .pointer (some ⟨b1, 2, none⟩)) rfl rfl rfl (e_fieldPt (b := b1) (o := 1) rfl tf8) ?_
   refine l_nil ?_
   exact f_owes_d (up_cons rfl hs28) rfl (List.Perm.refl _)
  ·rintro f M ⟨k0, -⟩ -
   have hs29 : f 29 = .pointer (some ⟨b1, 2, none⟩) := k0
   refine ob_start (L' := pt b1 (.cells (bC b) 52) :: M) (by rfl) (up_cons rfl hs29) ?_
   refine l_val (v := Ix (b.y)) rfl rfl rfl (e_load1 tf2 (v := Ix (b.y)) rfl (k_pt 0 (cs := (bC b)) (vs := [Ix (b.y)]) rfl rfl)) ?_
   refine l_nil ?_
   exact f_owes_d (up_cons rfl hs29) rfl (perm_front 0 rfl)
  ·rintro f M - ⟨i0, -⟩
   have hs1 : f 1 = .pointer (some ⟨b1, 0, none⟩) := i0
   refine ob_start (L' := M) (by rfl) (up_cons rfl hs1) ?_
   refine l_val (v := .pointer (some ⟨b1, 6, none⟩)) rfl rfl rfl (e_fieldPt (b := b1) (o := 0) rfl tf11) ?_
   refine l_nil ?_
   exact f_owes_d (up_cons rfl hs1) rfl (List.Perm.refl _)
  ·rintro f M ⟨k0, -⟩ -
   have hs31 : f 31 = .pointer (some ⟨b1, 6, none⟩) := k0
   refine ob_start (L' := pt b1 (.cells (bC b) 52) :: M) (by rfl) (up_cons rfl hs31) ?_
   refine l_val (v := Ix (b.h)) rfl rfl rfl (e_load1 tf2 (v := Ix (b.h)) rfl (k_pt 0 (cs := (bC b)) (vs := [Ix (b.h)]) rfl rfl)) ?_
   refine l_nil ?_
   exact f_owes_d (up_cons rfl hs31) rfl (perm_front 0 rfl)
  ·rintro f M ⟨k0, k1, -⟩ -
   have hs30 : f 30 = Ix (b.y) := k0
   have hs32 : f 32 = Ix (b.h) := k1
   refine ob_start (L' := M) (by rfl) (up_cons (up_cons rfl hs30) hs32) ?_
   refine l_val (v := Ix ((b.y) + (b.h))) rfl rfl rfl (e_add (a := (b.y)) (b := (b.h)) rfl rfl (i64w (by omega))) ?_
   refine l_nil ?_
   exact f_owes_d (up_cons (up_cons rfl hs30) hs32) rfl (List.Perm.refl _)
  ·rintro f M ⟨k0, k1, -⟩ -
   have hs27 : f 27 = Ix ((b.x) + (b.w)) := k0
   have hs33 : f 33 = Ix ((b.y) + (b.h)) := k1
   refine ob_start (L' := M) (by rfl) (up_cons (up_cons rfl hs27) hs33) ?_
   refine l_val (v := .agg #[Ix ((b.x) + (b.w)), Ix ((b.y) + (b.h))]) rfl rfl rfl (e_build tf17 tf16 (vs := [(0, Ix ((b.x) + (b.w))), (1, Ix ((b.y) + (b.h)))]) (cells := #[Ix ((b.x) + (b.w)), Ix ((b.y) + (b.h))]) rfl rfl) ?_
   refine l_nil ?_
   exact f_owes_d (up_cons (up_cons rfl hs27) hs33) rfl (List.Perm.refl _)
  ·rintro f M ⟨k0, -⟩ ⟨i0, -⟩
   have hs2 : f 2 = .pointer (some ⟨b2, 0, none⟩) := i0
   have hs21 : f 21 = .agg #[Ix ((b.x) - (b.w)), Ix ((b.y) - (b.h))] := k0
   refine ob_start (L' := pt b2 (.cells #[.int .i64 (0), .int .i64 (0)] 28) :: M) (by rfl) (up_cons (up_cons rfl hs2) hs21) ?_
   refine l_mu rfl rfl (m_store 0 tf15 (b := b2) (o := 0) (T := 28) (cs := #[.int .i64 (0), .int .i64 (0)]) (cs' := #[Ix ((b.x) - (b.w)), Ix ((b.y) - (b.h))]) (v := .agg #[Ix ((b.x) - (b.w)), Ix ((b.y) - (b.h))]) rfl rfl rfl rfl rfl rfl rfl) ?_
   refine l_nil ?_
   exact f_owes_n (up_cons (up_cons rfl hs2) hs21) trivial (perm_front 0 rfl)
  ·rintro f M ⟨k0, -⟩ ⟨i0, -⟩
   have hs3 : f 3 = .pointer (some ⟨b3, 0, none⟩) := i0
   have hs34 : f 34 = .agg #[Ix ((b.x) + (b.w)), Ix ((b.y) + (b.h))] := k0
   refine ob_start (L' := pt b3 (.cells #[.int .i64 (0), .int .i64 (0)] 28) :: M) (by rfl) (up_cons (up_cons rfl hs3) hs34) ?_
   refine l_mu rfl rfl (m_store 0 tf15 (b := b3) (o := 0) (T := 28) (cs := #[.int .i64 (0), .int .i64 (0)]) (cs' := #[Ix ((b.x) + (b.w)), Ix ((b.y) + (b.h))]) (v := .agg #[Ix ((b.x) + (b.w)), Ix ((b.y) + (b.h))]) rfl rfl rfl rfl rfl rfl rfl) ?_
   refine l_nil ?_
   exact f_owes_n (up_cons (up_cons rfl hs3) hs34) trivial (perm_front 0 rfl)
  rintro fa5 ⟨-, -, -, -, -, -, -, -, -, -, -, -, -, -, -, -, -, -, -, -, -, -, -, -, -, -, -, -, -⟩ ⟨j0, j1, -⟩
  refine f_re (L' := [pt b1 (.cells (bC b) 52), pt b2 (.cells #[Ix ((b.x) - (b.w)), Ix ((b.y) - (b.h))] 28), pt b3 (.cells #[Ix ((b.x) + (b.w)), Ix ((b.y) + (b.h))] 28)]) (by rfl) ?_
  refine f_rebase (d := 2) (v := .pointer (some ⟨b2, 0, none⟩)) j0 ?_
  refine f_rebase (d := 3) (v := .pointer (some ⟨b3, 0, none⟩)) j1 ?_
  refine f_then ?_
  refine c_ret ?_
  refine retG (l := [.cell 2 28, .cell 3 28]) (m := [.agg #[Ix ((b.x) - (b.w)), Ix ((b.y) - (b.h))], .agg #[Ix ((b.x) + (b.w)), Ix ((b.y) + (b.h))]]) (v := .tuple #[.agg #[Ix ((b.x) - (b.w)), Ix ((b.y) - (b.h))], .agg #[Ix ((b.x) + (b.w)), Ix ((b.y) + (b.h))]]) Tryz.results96 ⟨rd_cell tf15 (cs := [Ix ((b.x) - (b.w)), Ix ((b.y) - (b.h))]) rfl (k_pt 1 (cs := #[Ix ((b.x) - (b.w)), Ix ((b.y) - (b.h))]) (vs := [Ix ((b.x) - (b.w)), Ix ((b.y) - (b.h))]) rfl rfl) rfl, rd_cell tf15 (cs := [Ix ((b.x) + (b.w)), Ix ((b.y) + (b.h))]) rfl (k_pt 2 (cs := #[Ix ((b.x) + (b.w)), Ix ((b.y) + (b.h))]) (vs := [Ix ((b.x) + (b.w)), Ix ((b.y) + (b.h))]) rfl rfl) rfl, trivial⟩ rfl ?_
  intro w hw
  exact ⟨rfl, st_mask [false, false, false] rfl hw⟩
end Go.Proofs
