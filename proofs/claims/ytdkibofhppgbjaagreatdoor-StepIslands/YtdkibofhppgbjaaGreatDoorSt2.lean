/-
 Scenes: what island.Valid and Speed answer. Printed by a program of my own.
-/
import Derived.Test.YtdkibofhppgbjaaGreatDoorSt1
import Derived.Test.YtdkibofhppgbjaaGreatDoorSlC
namespace Go.Proofs
open Go Go.Sl Go.Stp
theorem tf34 : cfB Tryz.prog 84 = true := by kernel_rfl
theorem tf35 : cfB Tryz.prog 88 = true := by kernel_rfl
theorem tf36 : cfB Tryz.prog 161 = true := by kernel_rfl
theorem tf37 : tyB Tryz.prog 106 false 1 = true := by kernel_rfl
theorem tf38 : cfB Tryz.prog 49 = true := by kernel_rfl
theorem tf39 : cfB Tryz.prog 103 = true := by kernel_rfl
theorem tf40 : Tryz.prog.underlying 25 = some (.slice 52) := by kernel_rfl
theorem tf41 : Tryz.prog.underlying 3 = some (.int .i64) := by kernel_rfl
theorem tf42 : Tryz.prog.underlying 185 = some (.int .u64) := by kernel_rfl
theorem tf43 : slB Tryz.prog 25 52 9 = true := by kernel_rfl
theorem tf44 : cfB Tryz.prog 101 = true := by kernel_rfl
theorem pull_ok (β : Base) (w : World) (hw : St β [] w) (x y : Int) (hx : -9223372036854775808 ≤ x ∧ x ≤ 9223372036854775807) (hy : -9223372036854775808 ≤ y ∧ y ≤ 9223372036854775807) : Calls Tryz.prog 84 #[.agg #[Ix x, Ix y]] w fun r w' => r = .returned (.bool (decide (okV x y))) ∧ St β [] w' := by
 refine enter (n := 23) Tryz.func84 rfl Tryz.ntmps84 rfl ?_ hw
 refine csr ?_
 refine l_mv rfl rfl rfl (m_box (v := .agg #[Ix (x), Ix (y)]) rfl) ?_
 rintro _ _ ⟨b1, rfl, rfl⟩
 refine lv (v := .bool false) e_assign ?_
 refine lnc ?_
 refine lv (v := pp b1 0) (e_fieldPt rfl tf7) ?_
 refine lv (v := Ix (x)) (e_load1 tf2 rfl (k_pt 0 rfl rfl)) ?_
 refine lv (v := pp b1 0) (e_fieldPt rfl tf7) ?_
 refine lv (v := Ix (x)) (e_load1 tf2 rfl (k_pt 0 rfl rfl)) ?_
 refine lv (v := Ix (wneg (x))) (e_neg (a := (x)) rfl rfl) ?_
 refine lv (v := pp b1 1) (e_fieldPt rfl tf8) ?_
 refine lv (v := Ix (y)) (e_load1 tf2 rfl (k_pt 0 rfl rfl)) ?_
 refine lv (v := pp b1 1) (e_fieldPt rfl tf8) ?_
 refine lv (v := Ix (y)) (e_load1 tf2 rfl (k_pt 0 rfl rfl)) ?_
 refine lv (v := Ix (wneg (y))) (e_neg (a := (y)) rfl rfl) ?_
 refine lv (v := Ix (max (max (max ((x)) (wneg (x))) (y)) (wneg (y)))) (e_max4 (a := (x)) (b := (wneg (x))) (c := (y)) (e := (wneg (y))) rfl rfl rfl rfl) ?_
 refine lv (e_leq (a := (max (max (max ((x)) (wneg (x))) (y)) (wneg (y)))) (b := (4096 : Int)) rfl rfl) ?_
 refine lv (v := .bool (decide ((max (max (max ((x)) (wneg (x))) (y)) (wneg (y))) ≤ (4096 : Int)))) e_move ?_
 refine l_split (s := 15) (p := (max (max (max ((x)) (wneg (x))) (y)) (wneg (y))) ≤ (4096 : Int)) rfl (fun hg2 => ?_) (fun hg2 => ?_)
 ·refine g_val (v := pp b1 0) rfl rfl rfl rfl rfl (e_fieldPt rfl tf7) ?_
  refine g_val (v := Ix (x)) rfl rfl rfl rfl rfl (e_load1 tf2 rfl (k_pt 0 rfl rfl)) ?_
  refine g_val (v := pp b1 1) rfl rfl rfl rfl rfl (e_fieldPt rfl tf8) ?_
  refine g_val (v := Ix (y)) rfl rfl rfl rfl rfl (e_load1 tf2 rfl (k_pt 0 rfl rfl)) ?_
  refine g_val (v := Ix (min (x) (y))) rfl rfl rfl rfl rfl (e_min (a := (x)) (b := (y)) rfl rfl) ?_
  refine g_val rfl rfl rfl rfl rfl (e_geq (a := (min (x) (y))) (b := (-4096 : Int)) rfl rfl) ?_
  refine lv (v := .bool (decide ((-4096 : Int) ≤ (min (x) (y))))) (e_pick_t rfl) ?_
  refine lv (v := .bool (decide ((-4096 : Int) ≤ (min (x) (y))))) e_assign ?_
  refine lnf ?_
  refine c_ret ?_
  refine ret1 Tryz.results84 (v := .bool (decide ((-4096 : Int) ≤ (min (x) (y))))) rfl ?_
  intro w hw
  exact ⟨congrArg (fun b : Bool => Ending.returned (.bool b)) (decide_eq_decide.2 ⟨fun h => (pull_iff hx hy).1 ⟨hg2, h⟩, fun h => ((pull_iff hx hy).2 h).2⟩), st_mask [false] rfl hw⟩
 refine l_skip rfl rfl rfl rfl rfl rfl ?_
 refine l_skip rfl rfl rfl rfl rfl rfl ?_
 refine l_skip rfl rfl rfl rfl rfl rfl ?_
 refine l_skip rfl rfl rfl rfl rfl rfl ?_
 refine l_skip rfl rfl rfl rfl rfl rfl ?_
 refine l_skip rfl rfl rfl rfl rfl rfl ?_
 refine lv (v := .bool false) (e_pick_f rfl) ?_
 refine lv (v := .bool false) e_assign ?_
 refine lnf ?_
 refine c_ret ?_
 refine ret1 Tryz.results84 (v := .bool false) rfl ?_
 intro w hw
 exact ⟨congrArg (fun b : Bool => Ending.returned (.bool b)) (decide_eq_false fun h => hg2 ((pull_iff hx hy).2 h).1).symm, st_mask [false] rfl hw⟩
theorem clamp_ok (β : Base) (w : World) (hw : St β [] w) (x : Int) : Calls Tryz.prog 88 #[Ix x] w fun r w' => r = .returned (Ix (clampS x)) ∧ St β [] w' := by
 refine enter (n := 6) Tryz.func88 rfl Tryz.ntmps88 rfl ?_ hw
 refine csr ?_
 refine l_val (v := .int .i64 (0)) rfl rfl rfl e_assign ?_
 refine lnc ?_
 refine lv (v := Ix (x)) e_move ?_
 refine lv (v := Ix (min (x) (4096 : Int))) (e_min (a := (x)) (b := (4096 : Int)) rfl rfl) ?_
 refine lv (v := Ix (max (min (x) (4096 : Int)) (-4096 : Int))) (e_max (a := (min (x) (4096 : Int))) (b := (-4096 : Int)) rfl rfl) ?_
 refine lv (v := Ix (max (min (x) (4096 : Int)) (-4096 : Int))) e_assign ?_
 refine lnf ?_
 refine c_ret ?_
 refine ret1 Tryz.results88 (v := Ix (max (min (x) (4096 : Int)) (-4096 : Int))) rfl ?_
 intro w hw
 exact ⟨rfl, st_mask [] rfl hw⟩
set_option maxHeartbeats 4000000 in
theorem speed_ok (β : Base) (w : World) (hw : St β [] w) (b : KB) (gx gy : Int) (hgx : -9223372036854775808 ≤ gx ∧ gx ≤ 9223372036854775807) (hgy : -9223372036854775808 ≤ gy ∧ gy ≤ 9223372036854775807) : Calls Tryz.prog 39 #[.agg (bC b), .agg #[Ix gx, Ix gy]] w fun r w' => r = .returned (.agg #[Ix (speedX b gx gy), Ix (speedY b gx gy)]) ∧ St β [] w' := by
 refine enter (n := 36) Tryz.func39 rfl Tryz.ntmps39 rfl ?_ hw
 refine csr ?_
 refine l_mv rfl rfl rfl (m_box (v := .agg (bC b)) rfl) ?_
 rintro _ _ ⟨b1, rfl, rfl⟩
 refine l_mv rfl rfl rfl (m_box (v := .agg #[Ix (gx), Ix (gy)]) rfl) ?_
 rintro _ _ ⟨b2, rfl, rfl⟩
 refine l_mv rfl rfl rfl (m_alloc tf17) ?_
 rintro _ _ ⟨b3, rfl, rfl⟩
 refine lnf ?_
 refine cs2 ?_
 refine c_region ?_
 refine lv (v := pp b1 8) (e_fieldPt rfl tf14) ?_
 refine lv (v := .bool (b.fixed)) (e_load1 tf13 rfl (k_pt 2 rfl rfl)) ?_
 refine lv (v := .bool (b.fixed)) e_move ?_
 refine l_splitb (s := 8) (b := b.fixed) rfl (fun hg4 => ?_) (fun hg4 => ?_)
 ·refine l_skip rfl rfl rfl rfl rfl rfl ?_
  refine l_skip rfl rfl rfl rfl rfl rfl ?_
  refine l_skip rfl rfl rfl rfl rfl rfl ?_
  refine lv (v := .bool true) (e_pick_t rfl) ?_
  refine lv (v := .bool true) e_move ?_
  refine l_skip rfl rfl rfl rfl rfl rfl ?_
  refine l_skip rfl rfl rfl rfl rfl rfl ?_
  refine l_skip rfl rfl rfl rfl rfl rfl ?_
  refine lv (v := .bool true) (e_pick_t rfl) ?_
  refine lnf ?_
  refine c_yes rfl ?_
  refine csr ?_
  refine lv (v := .agg #[.int .i64 (0), .int .i64 (0)]) (e_build tf17 tf16 (vs := []) (cells := #[.int .i64 (0), .int .i64 (0)]) rfl rfl) ?_
  refine lu (m_store 0 tf15 (cs' := #[.int .i64 (0), .int .i64 (0)]) rfl rfl rfl rfl rfl rfl rfl) ?_
  refine lnf ?_
  refine c_ret ?_
  refine f_then_ret ?_
  refine retG (m := [.agg #[.int .i64 (0), .int .i64 (0)]]) Tryz.results39 ⟨rd_cell tf15 rfl (k_pt 0 rfl rfl) rfl, trivial⟩ rfl ?_
  intro w hw
  exact ⟨by rw [show speedX b gx gy = 0 from if_pos (.inl hg4), show speedY b gx gy = 0 from if_pos (.inl hg4)] <;> rfl, st_mask [false, false, false] rfl hw⟩
 refine g_val (v := .agg (bC b)) rfl rfl rfl rfl rfl (e_load tf22 rfl (k_pt 2 rfl rfl) rfl) ?_
 refine g_call rfl rfl rfl rfl rfl (cl0 (vs := [.agg (bC b)]) tf24 rfl rfl) ?_
 intro w hw
 obtain ⟨β1, sb, kn, hw1, back⟩ := St.frame_all hw
 refine (valid_ok β1 w hw1 b).mono ?_
 rintro e w' ⟨rfl, hw'⟩
 refine ⟨_, rfl, _, back _ _ hw', ?_⟩
 clear hw hw1 hw' back kn sb
 refine g_val (v := .bool (decide (¬ (okB b)))) rfl rfl rfl rfl rfl (e_not_p (p := okB b) rfl) ?_
 refine lv (v := .bool (decide (¬ (okB b)))) (e_pick_f rfl) ?_
 refine lv (v := .bool (decide (¬ (okB b)))) e_move ?_
 refine l_split (s := 13) (p := ¬ (okB b)) rfl (fun hg5 => ?_) (fun hg5 => ?_)
 ·refine l_skip rfl rfl rfl rfl rfl rfl ?_
  refine l_skip rfl rfl rfl rfl rfl rfl ?_
  refine l_skip rfl rfl rfl rfl rfl rfl ?_
  refine lv (v := .bool true) (e_pick_t rfl) ?_
  refine lnf ?_
  refine c_yes rfl ?_
  refine csr ?_
  refine lv (v := .agg #[.int .i64 (0), .int .i64 (0)]) (e_build tf17 tf16 (vs := []) (cells := #[.int .i64 (0), .int .i64 (0)]) rfl rfl) ?_
  refine lu (m_store 0 tf15 (cs' := #[.int .i64 (0), .int .i64 (0)]) rfl rfl rfl rfl rfl rfl rfl) ?_
  refine lnf ?_
  refine c_ret ?_
  refine f_then_ret ?_
  refine retG (m := [.agg #[.int .i64 (0), .int .i64 (0)]]) Tryz.results39 ⟨rd_cell tf15 rfl (k_pt 0 rfl rfl) rfl, trivial⟩ rfl ?_
  intro w hw
  exact ⟨by rw [show speedX b gx gy = 0 from if_pos (.inr (.inl hg5)), show speedY b gx gy = 0 from if_pos (.inr (.inl hg5))] <;> rfl, st_mask [false, false, false] rfl hw⟩
 have hob := Decidable.not_not.1 hg5
 refine g_val (v := .agg #[Ix (gx), Ix (gy)]) rfl rfl rfl rfl rfl (e_load tf15 rfl (k_pt 1 rfl rfl) rfl) ?_
 refine g_call rfl rfl rfl rfl rfl (cl0 (vs := [.agg #[Ix (gx), Ix (gy)]]) tf34 rfl rfl) ?_
 intro w hw
 obtain ⟨β1, sb, kn, hw1, back⟩ := St.frame_all hw
 refine (pull_ok β1 w hw1 (gx) (gy) (by omega) (by omega)).mono ?_
 rintro e w' ⟨rfl, hw'⟩
 refine ⟨_, rfl, _, back _ _ hw', ?_⟩
 clear hw hw1 hw' back kn sb
 refine g_val (v := .bool (decide (¬ (okV (gx) (gy))))) rfl rfl rfl rfl rfl (e_not_p (p := okV (gx) (gy)) rfl) ?_
 refine lv (v := .bool (decide (¬ (okV (gx) (gy))))) (e_pick_f rfl) ?_
 refine lnf ?_
 refine c_if (¬ (okV (gx) (gy))) rfl (fun hc6 => ?_) (fun hc6 => ?_)
 ·refine csr ?_
  refine lv (v := .agg #[.int .i64 (0), .int .i64 (0)]) (e_build tf17 tf16 (vs := []) (cells := #[.int .i64 (0), .int .i64 (0)]) rfl rfl) ?_
  refine lu (m_store 0 tf15 (cs' := #[.int .i64 (0), .int .i64 (0)]) rfl rfl rfl rfl rfl rfl rfl) ?_
  refine lnf ?_
  refine c_ret ?_
  refine f_then_ret ?_
  refine retG (m := [.agg #[.int .i64 (0), .int .i64 (0)]]) Tryz.results39 ⟨rd_cell tf15 rfl (k_pt 0 rfl rfl) rfl, trivial⟩ rfl ?_
  intro w hw
  exact ⟨by rw [show speedX b gx gy = 0 from if_pos (.inr (.inr hc6)), show speedY b gx gy = 0 from if_pos (.inr (.inr hc6))] <;> rfl, st_mask [false, false, false] rfl hw⟩
 have hov := Decidable.not_not.1 hc6
 refine csk ?_
 refine csr ?_
 refine l_val (v := .func (.func 88) #[] #[]) rfl rfl rfl e_assign ?_
 refine lnf ?_
 refine c_seq ?_
 have v1 := hob.2.2.2.1
 have v2 := hob.2.2.2.2.1
 have v3 := hov.1
 have v4 := hov.2.1
 have v5 := hov.2.2.1
 have v6 := hov.2.2.2
 refine c_any [⟨[], [], [0], [19], fun f => f 19 = .func (.func 88) #[] #[]⟩, ⟨[], [], [1], [20], fun f => f 20 = pp b1 3⟩, ⟨[1], [1], [], [21], fun f => f 21 = pp b1 3⟩, ⟨[1, 2], [2], [], [22], fun f => f 22 = Ix (b.vx)⟩, ⟨[], [], [2], [23], fun f => f 23 = pp b2 0⟩, ⟨[4], [4], [], [24], fun f => f 24 = Ix (gx)⟩, ⟨[1, 2, 3, 4, 5], [3, 5], [], [25], fun f => f 25 = Ix ((b.vx) + (gx))⟩, ⟨(List.range 7), [0, 6], [], [26], fun f => f 26 = Ix (clampS ((b.vx) + (gx)))⟩, ⟨[], [], [0], [27], fun f => f 27 = .func (.func 88) #[] #[]⟩, ⟨[], [], [1], [28], fun f => f 28 = pp b1 3⟩, ⟨[9], [9], [], [29], fun f => f 29 = pp b1 4⟩, ⟨[9, 10], [10], [], [30], fun f => f 30 = Ix (b.vy)⟩, ⟨[], [], [2], [31], fun f => f 31 = pp b2 1⟩, ⟨[12], [12], [], [32], fun f => f 32 = Ix (gy)⟩, ⟨[9, 10, 11, 12, 13], [11, 13], [], [33], fun f => f 33 = Ix ((b.vy) + (gy))⟩, ⟨(List.range 15), [8, 14], [], [34], fun f => f 34 = Ix (clampS ((b.vy) + (gy)))⟩, ⟨(List.range 16), [7, 15], [], [35], fun f => f 35 = .agg #[Ix (clampS ((b.vx) + (gx))), Ix (clampS ((b.vy) + (gy)))]⟩, ⟨(List.range 17), [16], [3], [], fun _ => True⟩] [⟨none, (some 17), [17], [], fun _ => pt b3 (.cells #[.int .i64 (0), .int .i64 (0)] 28)⟩, ⟨none, none, [5, 13], [], fun _ => pt b2 (.cells #[Ix (gx), Ix (gy)] 28)⟩, ⟨none, none, [3, 11], [], fun _ => pt b1 (.cells (bC b) 52)⟩, ⟨(some 17), none, [], [], fun _ => pt b3 (.cells #[Ix (clampS ((b.vx) + (gx))), Ix (clampS ((b.vy) + (gy)))] 28)⟩] [(5, .func (.func 88) #[] #[]), (2, pp b1 0), (3, pp b2 0), (4, pp b3 0)] [3] [] (by kernel_rfl) (by kernel_rfl) (by kernel_rfl) (by kernel_rfl) rfl ⟨rfl, rfl, rfl, rfl, trivial⟩ ⟨?_, ?_, ?_, ?_, ?_, ?_, ?_, ?_, ?_, ?_, ?_, ?_, ?_, ?_, ?_, ?_, ?_, ?_, trivial⟩ ?_
 ·rintro f M - ⟨i0, -⟩
  exact ob0 (up_cons (d := 5) rfl i0) rfl e_move (.refl _)
 ·rintro f M - ⟨i0, -⟩
  exact ob0 (up_cons (d := 2) rfl i0) rfl (e_fieldPt rfl tf9) (.refl _)
 ·rintro f M ⟨k0, -⟩ -
  exact ob0 (up_cons (d := 20) rfl k0) rfl (e_fieldPt rfl tf7) (.refl _)
 ·rintro f M ⟨k0, -⟩ -
  exact obv (L' := pt b1 (.cells (bC b) 52) :: M) (up_cons (d := 21) rfl k0) rfl (e_load1 tf2 rfl (k_pt 0 rfl rfl)) (perm_front 0 rfl) (by rfl)
 ·rintro f M - ⟨i0, -⟩
  exact ob0 (up_cons (d := 3) rfl i0) rfl (e_fieldPt rfl tf7) (.refl _)
 ·rintro f M ⟨k0, -⟩ -
  exact obv (L' := pt b2 (.cells #[Ix (gx), Ix (gy)] 28) :: M) (up_cons (d := 23) rfl k0) rfl (e_load1 tf2 rfl (k_pt 0 rfl rfl)) (perm_front 0 rfl) (by rfl)
 ·rintro f M ⟨k0, k1, -⟩ -
  exact ob0 (up_cons (d := 24) (up_cons (d := 22) rfl k0) k1) rfl (e_add (a := (b.vx)) (b := (gx)) rfl rfl (i64w (by omega))) (.refl _)
 ·rintro f M ⟨k0, k1, -⟩ -
  refine ob_start (L' := M) (by rfl) (up_cons (d := 25) (up_cons (d := 19) rfl k0) k1) ?_
  refine lcf (cl0 (vs := [Ix ((b.vx) + (gx))]) tf35 rfl rfl) rfl fun w β1 sb kn hw1 back => (clamp_ok β1 w hw1 ((b.vx) + (gx))).mono ?_
  rintro e w' ⟨rfl, hw'⟩
  refine ⟨_, rfl, _, back _ _ hw', ?_⟩
  clear hw1 hw' back kn sb
  refine l_nil ?_
  exact f_owes_d (up_cons (d := 25) (up_cons (d := 19) rfl k0) k1) rfl (List.Perm.refl _)
 ·rintro f M - ⟨i0, -⟩
  exact ob0 (up_cons (d := 5) rfl i0) rfl e_move (.refl _)
 ·rintro f M - ⟨i0, -⟩
  exact ob0 (up_cons (d := 2) rfl i0) rfl (e_fieldPt rfl tf9) (.refl _)
 ·rintro f M ⟨k0, -⟩ -
  exact ob0 (up_cons (d := 28) rfl k0) rfl (e_fieldPt rfl tf8) (.refl _)
 ·rintro f M ⟨k0, -⟩ -
  exact obv (L' := pt b1 (.cells (bC b) 52) :: M) (up_cons (d := 29) rfl k0) rfl (e_load1 tf2 rfl (k_pt 0 rfl rfl)) (perm_front 0 rfl) (by rfl)
 ·rintro f M - ⟨i0, -⟩
  exact ob0 (up_cons (d := 3) rfl i0) rfl (e_fieldPt rfl tf8) (.refl _)
 ·rintro f M ⟨k0, -⟩ -
  exact obv (L' := pt b2 (.cells #[Ix (gx), Ix (gy)] 28) :: M) (up_cons (d := 31) rfl k0) rfl (e_load1 tf2 rfl (k_pt 0 rfl rfl)) (perm_front 0 rfl) (by rfl)
 ·rintro f M ⟨k0, k1, -⟩ -
  exact ob0 (up_cons (d := 32) (up_cons (d := 30) rfl k0) k1) rfl (e_add (a := (b.vy)) (b := (gy)) rfl rfl (i64w (by omega))) (.refl _)
 ·rintro f M ⟨k0, k1, -⟩ -
  refine ob_start (L' := M) (by rfl) (up_cons (d := 33) (up_cons (d := 27) rfl k0) k1) ?_
  refine lcf (cl0 (vs := [Ix ((b.vy) + (gy))]) tf35 rfl rfl) rfl fun w β1 sb kn hw1 back => (clamp_ok β1 w hw1 ((b.vy) + (gy))).mono ?_
  rintro e w' ⟨rfl, hw'⟩
  refine ⟨_, rfl, _, back _ _ hw', ?_⟩
  clear hw1 hw' back kn sb
  refine l_nil ?_
  exact f_owes_d (up_cons (d := 33) (up_cons (d := 27) rfl k0) k1) rfl (List.Perm.refl _)
 ·rintro f M ⟨k0, k1, -⟩ -
  exact ob0 (up_cons (d := 34) (up_cons (d := 26) rfl k0) k1) rfl (e_build tf17 tf16 (vs := [(0, Ix (clampS ((b.vx) + (gx)))), (1, Ix (clampS ((b.vy) + (gy))))]) (cells := #[Ix (clampS ((b.vx) + (gx))), Ix (clampS ((b.vy) + (gy)))]) rfl rfl) (.refl _)
 ·rintro f M ⟨k0, -⟩ ⟨i0, -⟩
  refine ob_start (L' := pt b3 (.cells #[.int .i64 (0), .int .i64 (0)] 28) :: M) (by rfl) (up_cons (d := 35) (up_cons (d := 4) rfl i0) k0) ?_
  refine lu (m_store 0 tf15 (cs' := #[Ix (clampS ((b.vx) + (gx))), Ix (clampS ((b.vy) + (gy)))]) rfl rfl rfl rfl rfl rfl rfl) ?_
  refine l_nil ?_
  exact f_owes_n (up_cons (d := 35) (up_cons (d := 4) rfl i0) k0) trivial (perm_front 0 rfl)
 rintro fa7 ⟨-, -, -, -, -, -, -, -, -, -, -, -, -, -, -, -, -, -, -⟩ ⟨j0, -⟩
 refine f_re (L' := [pt b2 (.cells #[Ix (gx), Ix (gy)] 28), pt b1 (.cells (bC b) 52), pt b3 (.cells #[Ix (clampS ((b.vx) + (gx))), Ix (clampS ((b.vy) + (gy)))] 28)]) (by rfl) ?_
 refine f_rebase (d := 4) j0 ?_
 refine ftr ?_
 refine retG (m := [.agg #[Ix (clampS ((b.vx) + (gx))), Ix (clampS ((b.vy) + (gy)))]]) Tryz.results39 ⟨rd_cell tf15 rfl (k_pt 2 rfl rfl) rfl, trivial⟩ rfl ?_
 intro w hw
 have hno : ¬ (b.fixed = true ∨ ¬ okB b ∨ ¬ okV gx gy) := fun h => h.elim (fun h => by rw [hg4] at h; cases h) fun h => h.elim (fun h => h hob) fun h => h hov
 exact ⟨by rw [show speedX b gx gy = clampS (b.vx + gx) from if_neg hno, show speedY b gx gy = clampS (b.vy + gy) from if_neg hno] <;> rfl, st_mask [false, false, false] rfl hw⟩
theorem number_ok (β : Base) (w : World) (hw : St β [] w) (b : KB) : Calls Tryz.prog 49 #[.agg (bC b)] w fun r w' => r = .returned (Ix b.id) ∧ St β [] w' := by
 refine enter (n := 5) Tryz.func49 rfl Tryz.ntmps49 rfl ?_ hw
 refine csr ?_
 refine l_mv rfl rfl rfl (m_box (v := .agg (bC b)) rfl) ?_
 rintro _ _ ⟨b1, rfl, rfl⟩
 refine lv (v := .int .i64 (0)) e_assign ?_
 refine lnc ?_
 refine lv (v := pp b1 0) (e_fieldPt rfl tf3) ?_
 refine lv (v := Ix (b.id)) (e_load1 tf2 rfl (k_pt 0 rfl rfl)) ?_
 refine lv (v := Ix (b.id)) e_assign ?_
 refine lnf ?_
 refine c_ret ?_
 refine ret1 Tryz.results49 (v := Ix (b.id)) rfl ?_
 intro w hw
 exact ⟨rfl, st_mask [false] rfl hw⟩
theorem isnanS_ok (β : Base) (w : World) (hw : St β [] w) (x : Int) : Calls Tryz.prog 161 #[Ix x] w fun r w' => r = .returned (.bool false) ∧ St β [] w' := by
 refine enter (n := 6) Tryz.func161 rfl Tryz.ntmps161 rfl ?_ hw
 refine csr ?_
 refine l_val (v := .bool false) rfl rfl rfl e_assign ?_
 refine lnc ?_
 refine lv (v := Ix (x)) e_move ?_
 refine lv (v := Ix (x)) e_move ?_
 refine lv (e_neq (a := (x)) (b := (x)) rfl rfl) ?_
 refine lv (v := .bool (decide ((x) ≠ (x)))) e_assign ?_
 refine lnf ?_
 refine c_ret ?_
 refine ret1 Tryz.results161 (v := .bool (decide ((x) ≠ (x)))) rfl ?_
 intro w hw
 exact ⟨congrArg Ending.returned (congrArg Value.bool (decide_eq_false (by simp))), st_mask [] rfl hw⟩
set_option maxHeartbeats 4000000 in
theorem cmpS_ok (β : Base) (w : World) (hw : St β [] w) (x y : Int) : Calls Tryz.prog 103 #[Ix x, Ix y] w fun r w' => r = .returned (Ix (cmpI x y)) ∧ St β [] w' := by
 refine enter (n := 20) Tryz.func103 rfl Tryz.ntmps103 rfl ?_ hw
 refine csr ?_
 refine l_val (v := .int .i64 (0)) rfl rfl rfl e_assign ?_
 refine lnc ?_
 refine lv (v := Ix (x)) e_move ?_
 refine lcf (cl0 (vs := [Ix (x)]) tf36 rfl rfl) rfl fun w β1 sb kn hw1 back => (isnanS_ok β1 w hw1 (x)).mono ?_
 rintro e w' ⟨rfl, hw'⟩
 refine ⟨_, rfl, _, back _ _ hw', ?_⟩
 clear hw1 hw' back kn sb
 refine lv (v := .bool false) e_assign ?_
 refine lnc ?_
 refine lv (v := Ix (y)) e_move ?_
 refine lcf (cl0 (vs := [Ix (y)]) tf36 rfl rfl) rfl fun w β1 sb kn hw1 back => (isnanS_ok β1 w hw1 (y)).mono ?_
 rintro e w' ⟨rfl, hw'⟩
 refine ⟨_, rfl, _, back _ _ hw', ?_⟩
 clear hw1 hw' back kn sb
 refine lv (v := .bool false) e_assign ?_
 refine lnf ?_
 refine cs2 ?_
 refine c_region ?_
 refine lv (v := .bool false) e_move ?_
 refine lnf ?_
 refine c_no rfl ?_
 refine csk ?_
 refine cs2 ?_
 refine c_region ?_
 refine lv (v := .bool false) e_move ?_
 refine lnf ?_
 refine c_no rfl ?_
 refine csk ?_
 refine cs2 ?_
 refine c_region ?_
 refine lv (v := Ix (x)) e_move ?_
 refine lv (v := Ix (y)) e_move ?_
 refine lv (e_lss (a := (x)) (b := (y)) rfl rfl) ?_
 refine lnf ?_
 refine c_if ((x) < (y)) rfl (fun hc1 => ?_) (fun hc1 => ?_)
 ·refine csr ?_
  refine l_val (v := .int .i64 (-1)) rfl rfl rfl e_assign ?_
  refine lnf ?_
  refine c_ret ?_
  refine f_then_ret ?_
  refine ret1 Tryz.results103 (v := .int .i64 (-1)) rfl ?_
  intro w hw
  exact ⟨congrArg Ending.returned (congrArg (Value.int .i64) (show (-1 : Int) = cmpI x y by unfold cmpI; split <;> (try split) <;> omega)), st_mask [] rfl hw⟩
 refine csk ?_
 refine cs2 ?_
 refine c_region ?_
 refine lv (v := Ix (x)) e_move ?_
 refine lv (v := Ix (y)) e_move ?_
 refine lv (e_gtr (a := (x)) (b := (y)) rfl rfl) ?_
 refine lnf ?_
 refine c_if ((y) < (x)) rfl (fun hc2 => ?_) (fun hc2 => ?_)
 ·refine csr ?_
  refine l_val (v := .int .i64 (1)) rfl rfl rfl e_assign ?_
  refine lnf ?_
  refine c_ret ?_
  refine f_then_ret ?_
  refine ret1 Tryz.results103 (v := .int .i64 (1)) rfl ?_
  intro w hw
  exact ⟨congrArg Ending.returned (congrArg (Value.int .i64) (show (1 : Int) = cmpI x y by unfold cmpI; split <;> (try split) <;> omega)), st_mask [] rfl hw⟩
 refine csk ?_
 refine csr ?_
 refine l_val (v := .int .i64 (0)) rfl rfl rfl e_assign ?_
 refine lnf ?_
 refine c_ret ?_
 refine ret1 Tryz.results103 (v := .int .i64 (0)) rfl ?_
 intro w hw
 exact ⟨congrArg Ending.returned (congrArg (Value.int .i64) (show (0 : Int) = cmpI x y by unfold cmpI; split <;> (try split) <;> omega)), st_mask [] rfl hw⟩
theorem find1_fn (β : Base) (c : Nat) (hc : Cs β.heap ⟨c, 0, none⟩ [.func (.func 49) #[] #[]]) : FnV Tryz.prog β (.func (.func 102) #[] #[pp c 0]) (fun z : KB × Int => [.agg (bC z.1), Ix z.2]) (fun _ => True) (fun z => Ix (cmpI z.1.id z.2)) := by
 refine ⟨102, [], [.pointer (some (⟨c, 0, none⟩))], rfl, by kernel_rfl, fun β₁ sb0 z_ hz_ w hw => ?_⟩
 have hc1 := Cs.mono _ _ _ _ sb0 hc
 obtain ⟨b, i⟩ := z_
 refine enter (n := 11) Tryz.func102 rfl Tryz.ntmps102 rfl ?_ hw
 refine csr ?_
 refine l_mv rfl rfl rfl (m_box (v := .agg (bC b)) rfl) ?_
 rintro _ _ ⟨b1, rfl, rfl⟩
 refine lv (v := .int .i64 (0)) e_assign ?_
 refine lnc ?_
 refine lv (v := .func (.func 49) #[] #[]) (e_load1 tf37 rfl (kB hc1)) ?_
 refine lv (v := .agg (bC b)) (e_load tf22 rfl (k_pt 0 rfl rfl) rfl) ?_
 refine lcf (cl0 (vs := [.agg (bC b)]) tf38 rfl rfl) rfl fun w β1 sb kn hw1 back => (number_ok β1 w hw1 b).mono ?_
 rintro e w' ⟨rfl, hw'⟩
 refine ⟨_, rfl, _, back _ _ hw', ?_⟩
 clear hw1 hw' back kn sb
 refine lv (v := Ix (i)) e_move ?_
 refine lcf (cl0 (vs := [Ix (b.id), Ix (i)]) tf39 rfl rfl) rfl fun w β1 sb kn hw1 back => (cmpS_ok β1 w hw1 (b.id) (i)).mono ?_
 rintro e w' ⟨rfl, hw'⟩
 refine ⟨_, rfl, _, back _ _ hw', ?_⟩
 clear hw1 hw' back kn sb
 refine lv (v := Ix (cmpI (b.id) (i))) e_assign ?_
 refine lnf ?_
 refine c_ret ?_
 refine ret1 Tryz.results102 (v := Ix (cmpI (b.id) (i))) rfl ?_
 intro w hw
 exact ⟨rfl, st_mask [false] rfl hw⟩
set_option maxHeartbeats 4000000 in
theorem bsearch_ok (β : Base) (w : World) (hw : St β [] w) (v fn : Value) (bs : List KB) (hs : Sl KBR β.heap v bs) (id : Int) (ho : ordB bs) (hn : bs.length ≤ 1048576) (hfn : FnV Tryz.prog β fn (fun z : KB × Int => [.agg (bC z.1), Ix z.2]) (fun _ => True) (fun z => Ix (cmpI z.1.id z.2))) : Calls Tryz.prog 101 #[v, Ix id, fn] w fun r w' => r = .returned (.tuple #[Nx (lbN bs id), .bool (findB bs id).isSome]) ∧ St β [] w' := by
 obtain ⟨va, vc, rfl, vl, vm, ve⟩ := hs.get
 obtain ⟨gg, fst, cap, rfl, hcf, hf⟩ := hfn
 refine enter (n := 49) Tryz.func101 rfl Tryz.ntmps101 rfl ?_ hw
 refine csr ?_
 refine l_val (v := .int .i64 (0)) rfl rfl rfl e_assign ?_
 refine lv (v := .bool false) e_assign ?_
 refine lnc ?_
 refine lv (v := sB va bs (vc)) e_move ?_
 refine lv (v := Nx (bs.length)) (e_len (a := va) (n := bs.length) (c := vc) rfl tf40) ?_
 refine lv (v := Nx (bs.length)) e_assign ?_
 refine lnc ?_
 refine lv (v := Nx (bs.length)) e_move ?_
 refine lv (v := .int .i64 (0)) e_assign ?_
 refine lv (v := Nx (bs.length)) e_assign ?_
 refine lnf ?_
 refine c_seq ?_
 refine c_block ?_
 refine c_loop (fun (x_ : Nat × Nat) (f : Fm) (L : List Res) => match x_ with | (i, j) => (f 0 = sB va bs (vc) ∧ f 1 = Ix (id) ∧ f 2 = .func (.func gg) fst.toArray cap.toArray ∧ f 8 = Nx (bs.length) ∧ f 9 = Nx (i) ∧ f 10 = Nx (j)) ∧ L = [] ∧ (i ≤ j ∧ j ≤ bs.length ∧ (∀ t, t < i → idAt bs t < id) ∧ (j < bs.length → id ≤ idAt bs j))) (fun (x_ : Nat × Nat) => match x_ with | (i, j) => j - i) (0, bs.length) ?_ ?_
 ·exact ⟨⟨rfl, rfl, rfl, rfl, rfl, rfl⟩, rfl, ⟨by omega, by omega, fun t ht => by omega, fun h => by omega⟩⟩
 rintro ⟨i, j⟩ f0 L0 ⟨⟨hs0, hs1, hs2, hs8, hs9, hs10⟩, hL, ⟨h1, h2, hp1, hp2⟩⟩
 subst L0
 refine rebase (d := 0) hs0 ?_
 refine rebase (d := 1) hs1 ?_
 refine rebase (d := 2) hs2 ?_
 refine rebase (d := 8) hs8 ?_
 refine rebase (d := 9) hs9 ?_
 refine rebase (d := 10) hs10 ?_
 clear hs0 hs1 hs2 hs8 hs9 hs10
 obtain ⟨h, hh⟩ : ∃ h, h = (U (((i + j : Nat)) : Int) >>> (1 : UInt64)).toNat := ⟨_, rfl⟩
 have hh2 := half_toNat (m := i + j) (by omega)
 refine cs2 ?_
 refine c_region ?_
 refine lv (v := Nx (i)) e_move ?_
 refine lv (v := Nx (j)) e_move ?_
 refine lv (e_lss (a := ((i : Nat) : Int)) (b := ((j : Nat) : Int)) rfl rfl) ?_
 refine lnf ?_
 refine c_if (((i : Nat) : Int) < ((j : Nat) : Int)) rfl (fun hc1 => ?_) (fun hc1 => ?_)
 ·refine csk ?_
  refine c_block ?_
  refine csr ?_
  refine lv (v := Nx (i)) e_move ?_
  refine lv (v := Nx (j)) e_move ?_
  refine lv (v := Nx (i + j)) (e_add (a := ((i : Nat) : Int)) (b := ((j : Nat) : Int)) rfl rfl (i64n (by omega) (by omega))) ?_
  refine lv (v := Ux (U ((i + j : Nat) : Int))) (e_conv (a := ((i + j : Nat) : Int)) rfl ⟨_, tf41⟩ tf42 (ux_of _)) ?_
  refine lv (v := Ux ((U ((i + j : Nat) : Int)) >>> (1 : UInt64))) (e_shr (a := ((U ((i + j : Nat) : Int)).toNat : Int)) (b := ((1 : Nat) : Int)) rfl rfl (by decide) (ux_shr _ 1 (by decide))) ?_
  refine lv (v := Nx (h)) (e_conv (a := (((U ((i + j : Nat) : Int)) >>> (1 : UInt64)).toNat : Int)) rfl ⟨_, tf42⟩ tf41 (i64n (by rw [hh]) (by omega))) ?_
  refine lv (v := Nx (h)) e_assign ?_
  refine lnc ?_
  refine lv (v := .func (.func gg) fst.toArray cap.toArray) e_move ?_
  refine lv (v := sB va bs (vc)) e_move ?_
  refine lv (v := Nx (h)) e_move ?_
  obtain ⟨x2, hx3⟩ : ∃ x_, (bs)[h]? = some x_ := ⟨_, List.getElem?_eq_getElem (by omega)⟩
  obtain ⟨ha4, cs5, hc6, rfl⟩ := ve _ _ hx3
  refine lv (v := .pointer (some ((ba va).add (h * 9)))) (e_indexAddr (k := h) (len := bs.length) (cap := vc) (a := va) rfl rfl tf43 (by omega) ha4) ?_
  refine lv (v := .agg (bC x2)) (e_load tf22 rfl (kB hc6) rfl) ?_
  refine lv (v := Ix (id)) e_move ?_
  refine l_call rfl rfl rfl (cl_value (fst := fst) (cap := cap) (vs := [.agg (bC x2), Ix (id)]) (all := fst ++ [.agg (bC x2), Ix (id)] ++ cap) hcf rfl rfl rfl) ?_
  intro w hw
  obtain ⟨β1, sb, kn, hw1, back⟩ := St.frame_all hw
  refine (hf β1 sb (x2, (id)) trivial w hw1).mono ?_
  rintro e w' ⟨rfl, hw'⟩
  refine ⟨_, rfl, _, back _ _ hw', ?_⟩
  clear hw hw1 hw' back kn sb
  refine lv (e_lss (a := (cmpI x2.id (id))) (b := (0 : Int)) rfl rfl) ?_
  refine lnf ?_
  refine c_if ((cmpI x2.id (id)) < (0 : Int)) rfl (fun hc8 => ?_) (fun hc8 => ?_)
  ·refine c_region ?_
   refine lv (v := Nx (h)) e_move ?_
   refine lv (v := Nx (h + 1)) (e_add (a := ((h : Nat) : Int)) (b := (1 : Int)) rfl rfl (i64n (by omega) (by omega))) ?_
   refine lv (v := Nx (h + 1)) e_assign ?_
   refine l_nil ?_
   refine f_block ?_
   exact f_cut ⟨(h + 1, j), ⟨⟨rfl, rfl, rfl, rfl, rfl, rfl⟩, rfl, ⟨by omega, by omega, fun t ht => lb_next ho hx3 (by have q := hc8; unfold cmpI at q; split at q <;> (try split at q) <;> omega) ht, hp2⟩⟩, (show j - (h + 1) < j - i from by omega)⟩
  refine c_region ?_
  refine lv (v := Nx (h)) e_move ?_
  refine lv (v := Nx (h)) e_assign ?_
  refine l_nil ?_
  refine f_block ?_
  exact f_cut ⟨(i, h), ⟨⟨rfl, rfl, rfl, rfl, rfl, rfl⟩, rfl, ⟨by omega, by omega, hp1, fun _ => by rw [idAt_eq hx3]; have q := hc8; unfold cmpI at q; split at q <;> (try split at q) <;> omega⟩⟩, (show h - i < j - i from by omega)⟩
 refine c_exit ?_
 refine f_then_exit ?_
 refine f_then_exit ?_
 refine f_exit ?_
 refine fts ?_
 have hij : i = j := by omega
 subst hij
 have hp2' := hp2
 refine c_region ?_
 refine lv (v := Nx (i)) e_move ?_
 refine lv (v := Nx (i)) e_move ?_
 refine lv (v := Nx (bs.length)) e_move ?_
 refine lv (e_lss (a := ((i : Nat) : Int)) (b := ((bs.length : Nat) : Int)) rfl rfl) ?_
 refine lv (v := .bool (decide (((i : Nat) : Int) < ((bs.length : Nat) : Int)))) e_move ?_
 refine l_split (s := 39) (p := ((i : Nat) : Int) < ((bs.length : Nat) : Int)) rfl (fun hg9 => ?_) (fun hg9 => ?_)
 ·refine g_val (v := .func (.func gg) fst.toArray cap.toArray) rfl rfl rfl rfl rfl e_move ?_
  refine g_val (v := sB va bs (vc)) rfl rfl rfl rfl rfl e_move ?_
  refine g_val (v := Nx (i)) rfl rfl rfl rfl rfl e_move ?_
  obtain ⟨x10, hx11⟩ : ∃ x_, (bs)[i]? = some x_ := ⟨_, List.getElem?_eq_getElem (by omega)⟩
  obtain ⟨ha12, cs13, hc14, rfl⟩ := ve _ _ hx11
  refine g_val (v := .pointer (some ((ba va).add (i * 9)))) rfl rfl rfl rfl rfl (e_indexAddr (k := i) (len := bs.length) (cap := vc) (a := va) rfl rfl tf43 (by omega) ha12) ?_
  refine g_val (v := .agg (bC x10)) rfl rfl rfl rfl rfl (e_load tf22 rfl (kB hc14) rfl) ?_
  refine g_val (v := Ix (id)) rfl rfl rfl rfl rfl e_move ?_
  refine g_call rfl rfl rfl rfl rfl (cl_value (fst := fst) (cap := cap) (vs := [.agg (bC x10), Ix (id)]) (all := fst ++ [.agg (bC x10), Ix (id)] ++ cap) hcf rfl rfl rfl) ?_
  intro w hw
  obtain ⟨β1, sb, kn, hw1, back⟩ := St.frame_all hw
  refine (hf β1 sb (x10, (id)) trivial w hw1).mono ?_
  rintro e w' ⟨rfl, hw'⟩
  refine ⟨_, rfl, _, back _ _ hw', ?_⟩
  clear hw hw1 hw' back kn sb
  refine g_val rfl rfl rfl rfl rfl (e_eql (a := (cmpI x10.id (id))) (b := (0 : Int)) rfl rfl) ?_
  refine lv (v := .bool (decide ((cmpI x10.id (id)) = (0 : Int)))) (e_pick_t rfl) ?_
  refine lv (v := Nx (i)) e_assign ?_
  refine lv (v := .bool (decide ((cmpI x10.id (id)) = (0 : Int)))) e_assign ?_
  refine lnf ?_
  refine c_ret ?_
  refine ret2 (v := Nx (i)) (v' := .bool (decide ((cmpI x10.id (id)) = (0 : Int)))) Tryz.results101 rfl rfl ?_
  intro w hw
  exact ⟨by rw [lb_eq (by omega) hp1 (fun _ => by rw [idAt_eq hx11]; have := hp2 (by omega); rwa [idAt_eq hx11] at this), show decide ((cmpI x10.id (id)) = (0 : Int)) = (findB bs id).isSome from (by have hle := hp2 (by omega); rw [idAt_eq hx11] at hle; have q := lb_found ho hp1 hx11 hle; rw [Bool.eq_iff_iff, decide_eq_true_iff, ← q]; unfold cmpI; split <;> (try split) <;> omega)], st_mask [] rfl hw⟩
 refine l_skip rfl rfl rfl rfl rfl rfl ?_
 refine l_skip rfl rfl rfl rfl rfl rfl ?_
 refine l_skip rfl rfl rfl rfl rfl rfl ?_
 refine l_skip rfl rfl rfl rfl rfl rfl ?_
 refine l_skip rfl rfl rfl rfl rfl rfl ?_
 refine l_skip rfl rfl rfl rfl rfl rfl ?_
 refine l_skip rfl rfl rfl rfl rfl rfl ?_
 refine l_skip rfl rfl rfl rfl rfl rfl ?_
 refine lv (v := .bool false) (e_pick_f rfl) ?_
 refine lv (v := Nx (i)) e_assign ?_
 refine lv (v := .bool false) e_assign ?_
 refine lnf ?_
 refine c_ret ?_
 refine ret2 (v := Nx (i)) (v' := .bool false) Tryz.results101 rfl rfl ?_
 intro w hw
 exact ⟨by rw [lb_eq (by omega) hp1 hp2', lb_none (by omega) hp1], st_mask [] rfl hw⟩
theorem find_ok (β : Base) (w : World) (hw : St β [] w) (v : Value) (bs : List KB) (hs : Sl KBR β.heap v bs) (id : Int) (ho : ordB bs) (hn : bs.length ≤ 1048576) : Calls Tryz.prog 48 #[v, Ix id, .func (.func 49) #[] #[]] w fun r w' => r = .returned (.tuple #[Nx (lbN bs id), .bool (findB bs id).isSome]) ∧ St β [] w' := by
 refine enter (n := 14) Tryz.func48 rfl Tryz.ntmps48 rfl ?_ hw
 refine csr ?_
 refine l_mv rfl rfl rfl (m_box (v := .func (.func 49) #[] #[]) rfl) ?_
 rintro _ _ ⟨b1, rfl, rfl⟩
 refine lv (v := .int .i64 (0)) e_assign ?_
 refine lv (v := .bool false) e_assign ?_
 refine lnc ?_
 refine lv (v := v) e_move ?_
 refine lv (v := Ix (id)) e_move ?_
 refine lv (v := .func (.func 102) #[] #[pp b1 0]) (e_func (u := []) (v := [pp b1 0]) rfl rfl) ?_
 refine lcf (cl0 (vs := [v, Ix (id), .func (.func 102) #[] #[pp b1 0]]) tf44 rfl rfl) rfl fun w β1 sb kn hw1 back => (bsearch_ok β1 w hw1 _ _ bs (Sl.mono _ _ _ _ _ sb hs) (id) ho (by omega) (find1_fn β1 b1 (kn _ (k_pt 0 (o := 0) rfl rfl)))).mono ?_
 rintro e w' ⟨rfl, hw'⟩
 refine ⟨_, rfl, _, back _ _ hw', ?_⟩
 clear hw1 hw' back kn sb
 refine lv (v := Nx (lbN bs (id))) (e_extract (vs := #[Nx (lbN bs (id)), .bool ((findB bs (id)).isSome)]) rfl rfl) ?_
 refine lv (v := .bool ((findB bs (id)).isSome)) (e_extract (vs := #[Nx (lbN bs (id)), .bool ((findB bs (id)).isSome)]) rfl rfl) ?_
 refine lv (v := Nx (lbN bs (id))) e_assign ?_
 refine lv (v := .bool ((findB bs (id)).isSome)) e_assign ?_
 refine lnf ?_
 refine c_ret ?_
 refine ret2 (v := Nx (lbN bs (id))) (v' := .bool ((findB bs (id)).isSome)) Tryz.results48 rfl rfl ?_
 intro w hw
 exact ⟨rfl, st_mask [false] rfl hw⟩
end Go.Proofs
