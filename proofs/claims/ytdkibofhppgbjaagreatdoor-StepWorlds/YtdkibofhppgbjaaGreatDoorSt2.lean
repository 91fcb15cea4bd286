/-
 Scenes: what island.Valid and Speed answer. Printed by a program of my own.
-/
import Derived.Test.YtdkibofhppgbjaaGreatDoorSt1
namespace Go.Proofs
open Go Go.Sl Go.Stp
theorem tf34 : cfB Tryz.prog 84 = true := by kernel_rfl
theorem tf35 : cfB Tryz.prog 88 = true := by kernel_rfl
theorem tf36 : cfB Tryz.prog 161 = true := by kernel_rfl
theorem tf37 : tyB Tryz.prog 106 false 1 = true := by kernel_rfl
theorem tf38 : cfB Tryz.prog 49 = true := by kernel_rfl
theorem tf39 : cfB Tryz.prog 103 = true := by kernel_rfl
theorem tf40 : Tryz.prog.underlying 25 = some (.slice 52) := by kernel_rfl
theorem tf41 : Tryz.prog.underlying 3 = some (.int .i64) := by kernel_rfl
theorem tf42 : Tryz.prog.underlying 185 = some (.int .u64) := by kernel_rfl
theorem tf43 : slB Tryz.prog 25 52 9 = true := by kernel_rfl
theorem tf44 : cfB Tryz.prog 101 = true := by kernel_rfl
theorem pull_ok (β : Base) (w : World) (hw : St β [] w) (x y : Int) (hx : -9223372036854775808 ≤ x ∧ x ≤ 9223372036854775807) (hy : -9223372036854775808 ≤ y ∧ y ≤ 9223372036854775807) : Calls Tryz.prog 84 #[.agg #[Ix x, Ix y]] w fun r w' => r = .returned (.bool (decide (okV x y))) ∧ St β [] w' := by
 refine enter (n := 23) Tryz.func84 rfl Tryz.ntmps84 rfl ?_ hw
 refine c_seq ?_
 refine c_region ?_
 refine l_mv rfl rfl rfl (m_box (v := .agg #[Ix (x), Ix (y)]) rfl) ?_
 rintro _ _ ⟨b1, rfl, rfl⟩
 refine l_val (v := .bool false) rfl rfl rfl (e_assign) ?_
 refine l_nil ?_
 refine f_then ?_
 refine c_seq ?_
 refine c_region ?_
 refine l_val (v := .pointer (some ⟨b1, 0, none⟩)) rfl rfl rfl (e_fieldPt (b := b1) (o := 0) rfl tf7) ?_
 refine l_val (v := Ix (x)) rfl rfl rfl (e_load1 tf2 (v := Ix (x)) rfl (k_pt 0 (cs := #[Ix (x), Ix (y)]) (vs := [Ix (x)]) rfl rfl)) ?_
 refine l_val (v := .pointer (some ⟨b1, 0, none⟩)) rfl rfl rfl (e_fieldPt (b := b1) (o := 0) rfl tf7) ?_
 refine l_val (v := Ix (x)) rfl rfl rfl (e_load1 tf2 (v := Ix (x)) rfl (k_pt 0 (cs := #[Ix (x), Ix (y)]) (vs := [Ix (x)]) rfl rfl)) ?_
 refine l_val (v := Ix (wneg (x))) rfl rfl rfl (e_neg (a := (x)) rfl rfl) ?_
 refine l_val (v := .pointer (some ⟨b1, 1, none⟩)) rfl rfl rfl (e_fieldPt (b := b1) (o := 0) rfl tf8) ?_
 refine l_val (v := Ix (y)) rfl rfl rfl (e_load1 tf2 (v := Ix (y)) rfl (k_pt 0 (cs := #[Ix (x), Ix (y)]) (vs := [Ix (y)]) rfl rfl)) ?_
 refine l_val (v := .pointer (some ⟨b1, 1, none⟩)) rfl rfl rfl (e_fieldPt (b := b1) (o := 0) rfl tf8) ?_
 refine l_val (v := Ix (y)) rfl rfl rfl (e_load1 tf2 (v := Ix (y)) rfl (k_pt 0 (cs := #[Ix (x), Ix (y)]) (vs := [Ix (y)]) rfl rfl)) ?_
 refine l_val (v := Ix (wneg (y))) rfl rfl rfl (e_neg (a := (y)) rfl rfl) ?_
 refine l_val (v := Ix (max (max (max ((x)) (wneg (x))) (y)) (wneg (y)))) rfl rfl rfl (e_max4 (a := (x)) (b := (wneg (x))) (c := (y)) (e := (wneg (y))) rfl rfl rfl rfl) ?_
 refine l_val (v := .bool (decide ((max (max (max ((x)) (wneg (x))) (y)) (wneg (y))) ≤ (4096 : Int)))) rfl rfl rfl (e_leq (a := (max (max (max ((x)) (wneg (x))) (y)) (wneg (y)))) (b := (4096 : Int)) rfl rfl) ?_
 refine l_val (v := .bool (decide ((max (max (max ((x)) (wneg (x))) (y)) (wneg (y))) ≤ (4096 : Int)))) rfl rfl rfl (e_move) ?_
 refine l_split (s := 15) (p := (max (max (max ((x)) (wneg (x))) (y)) (wneg (y))) ≤ (4096 : Int)) rfl (fun hg2 => ?_) (fun hg2 => ?_)
 ·
  refine g_val (v := .pointer (some ⟨b1, 0, none⟩)) rfl rfl rfl rfl rfl (e_fieldPt (b := b1) (o := 0) rfl tf7) ?_
  refine g_val (v := Ix (x)) rfl rfl rfl rfl rfl (e_load1 tf2 (v := Ix (x)) rfl (k_pt 0 (cs := #[Ix (x), Ix (y)]) (vs := [Ix (x)]) rfl rfl)) ?_
  refine g_val (v := .pointer (some ⟨b1, 1, none⟩)) rfl rfl rfl rfl rfl (e_fieldPt (b := b1) (o := 0) rfl tf8) ?_
  refine g_val (v := Ix (y)) rfl rfl rfl rfl rfl (e_load1 tf2 (v := Ix (y)) rfl (k_pt 0 (cs := #[Ix (x), Ix (y)]) (vs := [Ix (y)]) rfl rfl)) ?_
  refine g_val (v := Ix (min (x) (y))) rfl rfl rfl rfl rfl (e_min (a := (x)) (b := (y)) rfl rfl) ?_
  refine g_val (v := .bool (decide ((-4096 : Int) ≤ (min (x) (y))))) rfl rfl rfl rfl rfl (e_geq (a := (min (x) (y))) (b := (-4096 : Int)) rfl rfl) ?_
  refine l_val (v := .bool (decide ((-4096 : Int) ≤ (min (x) (y))))) rfl rfl rfl (e_pick_t rfl) ?_
  refine l_val (v := .bool (decide ((-4096 : Int) ≤ (min (x) (y))))) rfl rfl rfl (e_assign) ?_
  refine l_nil ?_
  refine f_then ?_
  refine c_ret ?_
  refine ret1 Tryz.results84 (v := .bool (decide ((-4096 : Int) ≤ (min (x) (y))))) rfl ?_
  intro w hw
  exact ⟨congrArg (fun b : Bool => Ending.returned (.bool b)) (decide_eq_decide.2 ⟨fun h => (pull_iff hx hy).1 ⟨hg2, h⟩, fun h => ((pull_iff hx hy).2 h).2⟩), st_mask [false] rfl hw⟩
 ·
  refine l_skip rfl rfl rfl rfl rfl rfl ?_
  refine l_skip rfl rfl rfl rfl rfl rfl ?_
  refine l_skip rfl rfl rfl rfl rfl rfl ?_
  refine l_skip rfl rfl rfl rfl rfl rfl ?_
  refine l_skip rfl rfl rfl rfl rfl rfl ?_
  refine l_skip rfl rfl rfl rfl rfl rfl ?_
  refine l_val (v := .bool false) rfl rfl rfl (e_pick_f rfl) ?_
  refine l_val (v := .bool false) rfl rfl rfl (e_assign) ?_
  refine l_nil ?_
  refine f_then ?_
  refine c_ret ?_
  refine ret1 Tryz.results84 (v := .bool false) rfl ?_
  intro w hw
  exact ⟨congrArg (fun b : Bool => Ending.returned (.bool b)) (decide_eq_false fun h => hg2 ((pull_iff hx hy).2 h).1).symm, st_mask [false] rfl hw⟩
theorem clamp_ok (β : Base) (w : World) (hw : St β [] w) (x : Int) : Calls Tryz.prog 88 #[Ix x] w fun r w' => r = .returned (Ix (clampS x)) ∧ St β [] w' := by
 refine enter (n := 6) Tryz.func88 rfl Tryz.ntmps88 rfl ?_ hw
 refine c_seq ?_
 refine c_region ?_
 refine l_val (v := .int .i64 (0)) rfl rfl rfl (e_assign) ?_
 refine l_nil ?_
 refine f_then ?_
 refine c_seq ?_
 refine c_region ?_
 refine l_val (v := Ix (x)) rfl rfl rfl (e_move) ?_
 refine l_val (v := Ix (min (x) (4096 : Int))) rfl rfl rfl (e_min (a := (x)) (b := (4096 : Int)) rfl rfl) ?_
 refine l_val (v := Ix (max (min (x) (4096 : Int)) (-4096 : Int))) rfl rfl rfl (e_max (a := (min (x) (4096 : Int))) (b := (-4096 : Int)) rfl rfl) ?_
 refine l_val (v := Ix (max (min (x) (4096 : Int)) (-4096 : Int))) rfl rfl rfl (e_assign) ?_
 refine l_nil ?_
 refine f_then ?_
 refine c_ret ?_
 refine ret1 Tryz.results88 (v := Ix (max (min (x) (4096 : Int)) (-4096 : Int))) rfl ?_
 intro w hw
 exact ⟨rfl, st_mask [] rfl hw⟩
set_option maxHeartbeats 4000000 in
theorem speed_ok (β : Base) (w : World) (hw : St β [] w) (b : KB) (gx gy : Int) (hgx : -9223372036854775808 ≤ gx ∧ gx ≤ 9223372036854775807) (hgy : -9223372036854775808 ≤ gy ∧ gy ≤ 9223372036854775807) : Calls Tryz.prog 39 #[.agg (bC b), .agg #[Ix gx, Ix gy]] w fun r w' => r = .returned (.agg #[Ix (speedX b gx gy), Ix (speedY b gx gy)]) ∧ St β [] w' := by
 refine enter (n := 36) Tryz.func39 rfl Tryz.ntmps39 rfl ?_ hw
 refine c_seq ?_
 refine c_region ?_
 refine l_mv rfl rfl rfl (m_box (v := .agg (bC b)) rfl) ?_
 rintro _ _ ⟨b1, rfl, rfl⟩
 refine l_mv rfl rfl rfl (m_box (v := .agg #[Ix (gx), Ix (gy)]) rfl) ?_
 rintro _ _ ⟨b2, rfl, rfl⟩
 refine l_mv rfl rfl rfl (m_alloc tf17) ?_
 rintro _ _ ⟨b3, rfl, rfl⟩
 refine l_nil ?_
 refine f_then ?_
 refine c_seq ?_
 refine c_seq ?_
 refine c_region ?_
 refine l_val (v := .pointer (some ⟨b1, 8, none⟩)) rfl rfl rfl (e_fieldPt (b := b1) (o := 0) rfl tf14) ?_
 refine l_val (v := .bool (b.fixed)) rfl rfl rfl (e_load1 tf13 (v := .bool (b.fixed)) rfl (k_pt 2 (cs := (bC b)) (vs := [.bool (b.fixed)]) rfl rfl)) ?_
 refine l_val (v := .bool (b.fixed)) rfl rfl rfl (e_move) ?_
 refine l_splitb (s := 8) (b := b.fixed) rfl (fun hg4 => ?_) (fun hg4 => ?_)
 ·
  refine l_skip rfl rfl rfl rfl rfl rfl ?_
  refine l_skip rfl rfl rfl rfl rfl rfl ?_
  refine l_skip rfl rfl rfl rfl rfl rfl ?_
  refine l_val (v := .bool true) rfl rfl rfl (e_pick_t rfl) ?_
  refine l_val (v := .bool true) rfl rfl rfl (e_move) ?_
  refine l_skip rfl rfl rfl rfl rfl rfl ?_
  refine l_skip rfl rfl rfl rfl rfl rfl ?_
  refine l_skip rfl rfl rfl rfl rfl rfl ?_
  refine l_val (v := .bool true) rfl rfl rfl (e_pick_t rfl) ?_
  refine l_nil ?_
  refine f_then ?_
  refine c_yes rfl ?_
  refine c_seq ?_
  refine c_region ?_
  refine l_val (v := .agg #[.int .i64 (0), .int .i64 (0)]) rfl rfl rfl (e_build tf17 tf16 (vs := []) (cells := #[.int .i64 (0), .int .i64 (0)]) rfl rfl) ?_
  refine l_mu rfl rfl (m_store 0 tf15 (b := b3) (o := 0) (T := 28) (cs := #[.int .i64 (0), .int .i64 (0)]) (cs' := #[.int .i64 (0), .int .i64 (0)]) (v := .agg #[.int .i64 (0), .int .i64 (0)]) rfl rfl rfl rfl rfl rfl rfl) ?_
  refine l_nil ?_
  refine f_then ?_
  refine c_ret ?_
  refine f_then_ret ?_
  refine retG (l := [.cell 4 28]) (m := [.agg #[.int .i64 (0), .int .i64 (0)]]) (v := .agg #[.int .i64 (0), .int .i64 (0)]) Tryz.results39 ⟨rd_cell tf15 (cs := [.int .i64 (0), .int .i64 (0)]) rfl (k_pt 0 (cs := #[.int .i64 (0), .int .i64 (0)]) (vs := [.int .i64 (0), .int .i64 (0)]) rfl rfl) rfl, trivial⟩ rfl ?_
  intro w hw
  exact ⟨by rw [show speedX b gx gy = 0 from if_pos (.inl hg4), show speedY b gx gy = 0 from if_pos (.inl hg4)], st_mask [false, false, false] rfl hw⟩
 ·
  refine g_val (v := .agg (bC b)) rfl rfl rfl rfl rfl (e_load tf22 (cs := (bodyE b)) rfl (k_pt 2 (cs := (bC b)) (vs := (bodyE b)) rfl rfl) rfl) ?_
  refine g_call rfl rfl rfl rfl rfl (cl_value (fst := []) (cap := []) (vs := [.agg (bC b)]) (all := [.agg (bC b)]) tf24 rfl rfl rfl) ?_
  intro w hw
  obtain ⟨β1, sb, kn, hw1, back⟩ := St.frame_all hw
  refine (valid_ok β1 w hw1 b).mono ?_
  rintro e w' ⟨rfl, hw'⟩
  refine ⟨_, rfl, _, back _ _ hw', ?_⟩
  clear hw hw1 hw' back kn sb
  refine g_val (v := .bool (decide (¬ (okB b)))) rfl rfl rfl rfl rfl (e_not_p (p := okB b) rfl) ?_
  refine l_val (v := .bool (decide (¬ (okB b)))) rfl rfl rfl (e_pick_f rfl) ?_
  refine l_val (v := .bool (decide (¬ (okB b)))) rfl rfl rfl (e_move) ?_
  refine l_split (s := 13) (p := ¬ (okB b)) rfl (fun hg5 => ?_) (fun hg5 => ?_)
  ·
   refine l_skip rfl rfl rfl rfl rfl rfl ?_
   refine l_skip rfl rfl rfl rfl rfl rfl ?_
   refine l_skip rfl rfl rfl rfl rfl rfl ?_
   refine l_val (v := .bool true) rfl rfl rfl (e_pick_t rfl) ?_
   refine l_nil ?_
   refine f_then ?_
   refine c_yes rfl ?_
   refine c_seq ?_
   refine c_region ?_
   refine l_val (v := .agg #[.int .i64 (0), .int .i64 (0)]) rfl rfl rfl (e_build tf17 tf16 (vs := []) (cells := #[.int .i64 (0), .int .i64 (0)]) rfl rfl) ?_
   refine l_mu rfl rfl (m_store 0 tf15 (b := b3) (o := 0) (T := 28) (cs := #[.int .i64 (0), .int .i64 (0)]) (cs' := #[.int .i64 (0), .int .i64 (0)]) (v := .agg #[.int .i64 (0), .int .i64 (0)]) rfl rfl rfl rfl rfl rfl rfl) ?_
   refine l_nil ?_
   refine f_then ?_
   refine c_ret ?_
   refine f_then_ret ?_
   refine retG (l := [.cell 4 28]) (m := [.agg #[.int .i64 (0), .int .i64 (0)]]) (v := .agg #[.int .i64 (0), .int .i64 (0)]) Tryz.results39 ⟨rd_cell tf15 (cs := [.int .i64 (0), .int .i64 (0)]) rfl (k_pt 0 (cs := #[.int .i64 (0), .int .i64 (0)]) (vs := [.int .i64 (0), .int .i64 (0)]) rfl rfl) rfl, trivial⟩ rfl ?_
   intro w hw
   exact ⟨by rw [show speedX b gx gy = 0 from if_pos (.inr (.inl hg5)), show speedY b gx gy = 0 from if_pos (.inr (.inl hg5))], st_mask [false, false, false] rfl hw⟩
  ·
   have hob := Decidable.not_not.1 hg5
   refine g_val (v := .agg #[Ix (gx), Ix (gy)]) rfl rfl rfl rfl rfl (e_load tf15 (cs := [Ix (gx), Ix (gy)]) rfl (k_pt 1 (cs := #[Ix (gx), Ix (gy)]) (vs := [Ix (gx), Ix (gy)]) rfl rfl) rfl) ?_
   refine g_call rfl rfl rfl rfl rfl (cl_value (fst := []) (cap := []) (vs := [.agg #[Ix (gx), Ix (gy)]]) (all := [.agg #[Ix (gx), Ix (gy)]]) tf34 rfl rfl rfl) ?_
   intro w hw
   obtain ⟨β1, sb, kn, hw1, back⟩ := St.frame_all hw
   refine (pull_ok β1 w hw1 (gx) (gy) (by omega) (by omega)).mono ?_
   rintro e w' ⟨rfl, hw'⟩
   refine ⟨_, rfl, _, back _ _ hw', ?_⟩
   clear hw hw1 hw' back kn sb
   refine g_val (v := .bool (decide (¬ (okV (gx) (gy))))) rfl rfl rfl rfl rfl (e_not_p (p := okV (gx) (gy)) rfl) ?_
   refine l_val (v := .bool (decide (¬ (okV (gx) (gy))))) rfl rfl rfl (e_pick_f rfl) ?_
   refine l_nil ?_
   refine f_then ?_
   refine c_if (¬ (okV (gx) (gy))) rfl (fun hc6 => ?_) (fun hc6 => ?_)
   ·
    refine c_seq ?_
    refine c_region ?_
    refine l_val (v := .agg #[.int .i64 (0), .int .i64 (0)]) rfl rfl rfl (e_build tf17 tf16 (vs := []) (cells := #[.int .i64 (0), .int .i64 (0)]) rfl rfl) ?_
    refine l_mu rfl rfl (m_store 0 tf15 (b := b3) (o := 0) (T := 28) (cs := #[.int .i64 (0), .int .i64 (0)]) (cs' := #[.int .i64 (0), .int .i64 (0)]) (v := .agg #[.int .i64 (0), .int .i64 (0)]) rfl rfl rfl rfl rfl rfl rfl) ?_
    refine l_nil ?_
    refine f_then ?_
    refine c_ret ?_
    refine f_then_ret ?_
    refine retG (l := [.cell 4 28]) (m := [.agg #[.int .i64 (0), .int .i64 (0)]]) (v := .agg #[.int .i64 (0), .int .i64 (0)]) Tryz.results39 ⟨rd_cell tf15 (cs := [.int .i64 (0), .int .i64 (0)]) rfl (k_pt 0 (cs := #[.int .i64 (0), .int .i64 (0)]) (vs := [.int .i64 (0), .int .i64 (0)]) rfl rfl) rfl, trivial⟩ rfl ?_
    intro w hw
    exact ⟨by rw [show speedX b gx gy = 0 from if_pos (.inr (.inr hc6)), show speedY b gx gy = 0 from if_pos (.inr (.inr hc6))], st_mask [false, false, false] rfl hw⟩
   ·
    have hov := Decidable.not_not.1 hc6
    refine c_skip ?_
    refine f_then ?_
    refine c_seq ?_
    refine c_region ?_
    refine l_val (v := .func (.func 88) #[] #[]) rfl rfl rfl (e_assign) ?_
    refine l_nil ?_
    refine f_then ?_
    refine c_seq ?_
    have v1 := hob.2.2.2.1
    have v2 := hob.2.2.2.2.1
    have v3 := hov.1
    have v4 := hov.2.1
    have v5 := hov.2.2.1
    have v6 := hov.2.2.2
    refine c_any [⟨[], [], [0], [19], fun f => f 19 = .func (.func 88) #[] #[]⟩, ⟨[], [], [1], [20], fun f => f 20 = .pointer (some ⟨b1, 3, none⟩)⟩, ⟨[1], [1], [], [21], fun f => f 21 = .pointer (some ⟨b1, 3, none⟩)⟩, ⟨[1, 2], [2], [], [22], fun f => f 22 = Ix (b.vx)⟩, ⟨[], [], [2], [23], fun f => f 23 = .pointer (some ⟨b2, 0, none⟩)⟩, ⟨[4], [4], [], [24], fun f => f 24 = Ix (gx)⟩, ⟨[1, 2, 3, 4, 5], [3, 5], [], [25], fun f => f 25 = Ix ((b.vx) + (gx))⟩, ⟨[0, 1, 2, 3, 4, 5, 6], [0, 6], [], [26], fun f => f 26 = Ix (clampS ((b.vx) + (gx)))⟩, ⟨[], [], [0], [27], fun f => f 27 = .func (.func 88) #[] #[]⟩, ⟨[], [], [1], [28], fun f => f 28 = .pointer (some ⟨b1, 3, none⟩)⟩, ⟨[9], [9], [], [29], fun f => f 29 = .pointer (some ⟨b1, 4, none⟩)⟩, ⟨[9, 10], [10], [], [30], fun f => f 30 = Ix (b.vy)⟩, ⟨[], [], [2], [31], fun f => f 31 = .pointer (some ⟨b2, 1, none⟩)⟩, ⟨[12], [12], [], [32], fun f => f 32 = Ix (gy)⟩, ⟨[9, 10, 11, 12, 13], [11, 13], [], [33], fun f => f 33 = Ix ((b.vy) + (gy))⟩, ⟨[0, 1, 2, 3, 4, 5, 6, 7, 8, 9, 10, 11, 12, 13, 14], [8, 14], [], [34], fun f => f 34 = Ix (clampS ((b.vy) + (gy)))⟩, ⟨[0, 1, 2, 3, 4, 5, 6, 7, 8, 9, 10, 11, 12, 13, 14, 15], [7, 15], [], [35], fun f => f 35 = .agg #[Ix (clampS ((b.vx) + (gx))), Ix (clampS ((b.vy) + (gy)))]⟩, ⟨[0, 1, 2, 3, 4, 5, 6, 7, 8, 9, 10, 11, 12, 13, 14, 15, 16], [16], [3], [], fun _ => True⟩] [⟨none, (some 17), [17], [], fun _ => pt b3 (.cells #[.int .i64 (0), .int .i64 (0)] 28)⟩, ⟨none, none, [5, 13], [], fun _ => pt b2 (.cells #[Ix (gx), Ix (gy)] 28)⟩, ⟨none, none, [3, 11], [], fun _ => pt b1 (.cells (bC b) 52)⟩, ⟨(some 17), none, [], [], fun _ => pt b3 (.cells #[Ix (clampS ((b.vx) + (gx))), Ix (clampS ((b.vy) + (gy)))] 28)⟩] [(5, .func (.func 88) #[] #[]), (2, .pointer (some ⟨b1, 0, none⟩)), (3, .pointer (some ⟨b2, 0, none⟩)), (4, .pointer (some ⟨b3, 0, none⟩))] [3] [] (by kernel_rfl) (by kernel_rfl) (by kernel_rfl) (by kernel_rfl) rfl ⟨rfl, rfl, rfl, rfl, trivial⟩ ⟨?_, ?_, ?_, ?_, ?_, ?_, ?_, ?_, ?_, ?_, ?_, ?_, ?_, ?_, ?_, ?_, ?_, ?_, trivial⟩ ?_
    ·rintro f M - ⟨i0, -⟩
     have hs5 : f 5 = .func (.func 88) #[] #[] := i0
     refine ob_start (L' := M) (by rfl) (up_cons rfl hs5) ?_
     refine l_val (v := .func (.func 88) #[] #[]) rfl rfl rfl (e_move) ?_
     refine l_nil ?_
     exact f_owes_d (up_cons rfl hs5) rfl (List.Perm.refl _)
    ·rintro f M - ⟨i0, -⟩
     have hs2 : f 2 = .pointer (some ⟨b1, 0, none⟩) := i0
     refine ob_start (L' := M) (by rfl) (up_cons rfl hs2) ?_
     refine l_val (v := .pointer (some ⟨b1, 3, none⟩)) rfl rfl rfl (e_fieldPt (b := b1) (o := 0) rfl tf9) ?_
     refine l_nil ?_
     exact f_owes_d (up_cons rfl hs2) rfl (List.Perm.refl _)
    ·rintro f M ⟨k0, -⟩ -
     have hs20 : f 20 = .pointer (some ⟨b1, 3, none⟩) := k0
     refine ob_start (L' := M) (by rfl) (up_cons rfl hs20) ?_
     refine l_val (v := .pointer (some ⟨b1, 3, none⟩)) rfl rfl rfl (e_fieldPt (b := b1) (o := 3) rfl tf7) ?_
     refine l_nil ?_
     exact f_owes_d (up_cons rfl hs20) rfl (List.Perm.refl _)
    ·rintro f M ⟨k0, -⟩ -
     have hs21 : f 21 = .pointer (some ⟨b1, 3, none⟩) := k0
     refine ob_start (L' := pt b1 (.cells (bC b) 52) :: M) (by rfl) (up_cons rfl hs21) ?_
     refine l_val (v := Ix (b.vx)) rfl rfl rfl (e_load1 tf2 (v := Ix (b.vx)) rfl (k_pt 0 (cs := (bC b)) (vs := [Ix (b.vx)]) rfl rfl)) ?_
     refine l_nil ?_
     exact f_owes_d (up_cons rfl hs21) rfl (perm_front 0 rfl)
    ·rintro f M - ⟨i0, -⟩
     have hs3 : f 3 = .pointer (some ⟨b2, 0, none⟩) := i0
     refine ob_start (L' := M) (by rfl) (up_cons rfl hs3) ?_
     refine l_val (v := .pointer (some ⟨b2, 0, none⟩)) rfl rfl rfl (e_fieldPt (b := b2) (o := 0) rfl tf7) ?_
     refine l_nil ?_
     exact f_owes_d (up_cons rfl hs3) rfl (List.Perm.refl _)
    ·rintro f M ⟨k0, -⟩ -
     have hs23 : f 23 = .pointer (some ⟨b2, 0, none⟩) := k0
     refine ob_start (L' := pt b2 (.cells #[Ix (gx), Ix (gy)] 28) :: M) (by rfl) (up_cons rfl hs23) ?_
     refine l_val (v := Ix (gx)) rfl rfl rfl (e_load1 tf2 (v := Ix (gx)) rfl (k_pt 0 (cs := #[Ix (gx), Ix (gy)]) (vs := [Ix (gx)]) rfl rfl)) ?_
     refine l_nil ?_
     exact f_owes_d (up_cons rfl hs23) rfl (perm_front 0 rfl)
    ·rintro f M ⟨k0, k1, -⟩ -
     have hs22 : f 22 = Ix (b.vx) := k0
     have hs24 : f 24 = Ix (gx) := k1
     refine ob_start (L' := M) (by rfl) (up_cons (up_cons rfl hs22) hs24) ?_
     refine l_val (v := Ix ((b.vx) + (gx))) rfl rfl rfl (e_add (a := (b.vx)) (b := (gx)) rfl rfl (i64w (by omega))) ?_
     refine l_nil ?_
     exact f_owes_d (up_cons (up_cons rfl hs22) hs24) rfl (List.Perm.refl _)
    ·rintro f M ⟨k0, k1, -⟩ -
     have hs19 : f 19 = .func (.func 88) #[] #[] := k0
     have hs25 : f 25 = Ix ((b.vx) + (gx)) := k1
     refine ob_start (L' := M) (by rfl) (up_cons (up_cons rfl hs19) hs25) ?_
     refine l_call rfl rfl rfl (cl_value (fst := []) (cap := []) (vs := [Ix ((b.vx) + (gx))]) (all := [Ix ((b.vx) + (gx))]) tf35 rfl rfl rfl) ?_
     intro w hw
     obtain ⟨β1, sb, kn, hw1, back⟩ := St.frame_all hw
     refine (clamp_ok β1 w hw1 ((b.vx) + (gx))).mono ?_
     rintro e w' ⟨rfl, hw'⟩
     refine ⟨_, rfl, _, back _ _ hw', ?_⟩
     clear hw hw1 hw' back kn sb
     refine l_nil ?_
     exact f_owes_d (up_cons (up_cons rfl hs19) hs25) rfl (List.Perm.refl _)
    ·rintro f M - ⟨i0, -⟩
     have hs5 : f 5 = .func (.func 88) #[] #[] := i0
     refine ob_start (L' := M) (by rfl) (up_cons rfl hs5) ?_
     refine l_val (v := .func (.func 88) #[] #[]) rfl rfl rfl (e_move) ?_
     refine l_nil ?_
     exact f_owes_d (up_cons rfl hs5) rfl (List.Perm.refl _)
    ·rintro f M - ⟨i0, -⟩
     have hs2 : f 2 = .pointer (some ⟨b1, 0, none⟩) := i0
     refine ob_start (L' := M) (by rfl) (up_cons rfl hs2) ?_
     refine l_val (v := .pointer (some ⟨b1, 3, none⟩)) rfl rfl rfl (e_fieldPt (b := b1) (o := 0) rfl tf9) ?_
     refine l_nil ?_
     exact f_owes_d (up_cons rfl hs2) rfl (List.Perm.refl _)
    ·rintro f M ⟨k0, -⟩ -
     have hs28 : f 28 = .pointer (some ⟨b1, 3, none⟩) := k0
     refine ob_start (L' := M) (by rfl) (up_cons rfl hs28) ?_
     refine l_val (v := .pointer (some ⟨b1, 4, none⟩)) rfl rfl rfl (e_fieldPt (b := b1) (o := 3) rfl tf8) ?_
     refine l_nil ?_
     exact f_owes_d (up_cons rfl hs28) rfl (List.Perm.refl _)
    ·rintro f M ⟨k0, -⟩ -
     have hs29 : f 29 = .pointer (some ⟨b1, 4, none⟩) := k0
     refine ob_start (L' := pt b1 (.cells (bC b) 52) :: M) (by rfl) (up_cons rfl hs29) ?_
     refine l_val (v := Ix (b.vy)) rfl rfl rfl (e_load1 tf2 (v := Ix (b.vy)) rfl (k_pt 0 (cs := (bC b)) (vs := [Ix (b.vy)]) rfl rfl)) ?_
     refine l_nil ?_
     exact f_owes_d (up_cons rfl hs29) rfl (perm_front 0 rfl)
    ·rintro f M - ⟨i0, -⟩
     have hs3 : f 3 = .pointer (some ⟨b2, 0, none⟩) := i0
     refine ob_start (L' := M) (by rfl) (up_cons rfl hs3) ?_
     refine l_val (v := .pointer (some ⟨b2, 1, none⟩)) rfl rfl rfl (e_fieldPt (b := b2) (o := 0) rfl tf8) ?_
     refine l_nil ?_
     exact f_owes_d (up_cons rfl hs3) rfl (List.Perm.refl _)
    ·rintro f M ⟨k0, -⟩ -
     have hs31 : f 31 = .pointer (some ⟨b2, 1, none⟩) := k0
     refine ob_start (L' := pt b2 (.cells #[Ix (gx), Ix (gy)] 28) :: M) (by rfl) (up_cons rfl hs31) ?_
     refine l_val (v := Ix (gy)) rfl rfl rfl (e_load1 tf2 (v := Ix (gy)) rfl (k_pt 0 (cs := #[Ix (gx), Ix (gy)]) (vs := [Ix (gy)]) rfl rfl)) ?_
     refine l_nil ?_
     exact f_owes_d (up_cons rfl hs31) rfl (perm_front 0 rfl)
    ·rintro f M ⟨k0, k1, -⟩ -
     have hs30 : f 30 = Ix (b.vy) := k0
     have hs32 : f 32 = Ix (gy) := k1
     refine ob_start (L' := M) (by rfl) (up_cons (up_cons rfl hs30) hs32) ?_
     refine l_val (v := Ix ((b.vy) + (gy))) rfl rfl rfl (e_add (a := (b.vy)) (b := (gy)) rfl rfl (i64w (by omega))) ?_
     refine l_nil ?_
     exact f_owes_d (up_cons (up_cons rfl hs30) hs32) rfl (List.Perm.refl _)
    ·rintro f M ⟨k0, k1, -⟩ -
     have hs27 : f 27 = .func (.func 88) #[] #[] := k0
     have hs33 : f 33 = Ix ((b.vy) + (gy)) := k1
     refine ob_start (L' := M) (by rfl) (up_cons (up_cons rfl hs27) hs33) ?_
     refine l_call rfl rfl rfl (cl_value (fst := []) (cap := []) (vs := [Ix ((b.vy) + (gy))]) (all := [Ix ((b.vy) + (gy))]) tf35 rfl rfl rfl) ?_
     intro w hw
     obtain ⟨β1, sb, kn, hw1, back⟩ := St.frame_all hw
     refine (clamp_ok β1 w hw1 ((b.vy) + (gy))).mono ?_
     rintro e w' ⟨rfl, hw'⟩
     refine ⟨_, rfl, _, back _ _ hw', ?_⟩
     clear hw hw1 hw' back kn sb
     refine l_nil ?_
     exact f_owes_d (up_cons (up_cons rfl hs27) hs33) rfl (List.Perm.refl _)
    ·rintro f M ⟨k0, k1, -⟩ -
     have hs26 : f 26 = Ix (clampS ((b.vx) + (gx))) := k0
     have hs34 : f 34 = Ix (clampS ((b.vy) + (gy))) := k1
     refine ob_start (L' := M) (by rfl) (up_cons (up_cons rfl hs26) hs34) ?_
     refine l_val (v := .agg #[Ix (clampS ((b.vx) + (gx))), Ix (clampS ((b.vy) + (gy)))]) rfl rfl rfl (e_build tf17 tf16 (vs := [(0, Ix (clampS ((b.vx) + (gx)))), (1, Ix (clampS ((b.vy) + (gy))))]) (cells := #[Ix (clampS ((b.vx) + (gx))), Ix (clampS ((b.vy) + (gy)))]) rfl rfl) ?_
     refine l_nil ?_
     exact f_owes_d (up_cons (up_cons rfl hs26) hs34) rfl (List.Perm.refl _)
    ·rintro f M ⟨k0, -⟩ ⟨i0, -⟩
     have hs4 : f 4 = .pointer (some ⟨b3, 0, none⟩) := i0
     have hs35 : f 35 = .agg #[Ix (clampS ((b.vx) + (gx))), Ix (clampS ((b.vy) + (gy)))] := k0
     refine ob_start (L' := pt b3 (.cells #[.int .i64 (0), .int .i64 (0)] 28) :: M) (by rfl) (up_cons (up_cons rfl hs4) hs35) ?_
     refine l_mu rfl rfl (m_store 0 tf15 (b := b3) (o := 0) (T := 28) (cs := #[.int .i64 (0), .int .i64 (0)]) (cs' := #[Ix (clampS ((b.vx) + (gx))), Ix (clampS ((b.vy) + (gy)))]) (v := .agg #[Ix (clampS ((b.vx) + (gx))), Ix (clampS ((b.vy) + (gy)))]) rfl rfl rfl rfl rfl rfl rfl) ?_
     refine l_nil ?_
     exact f_owes_n (up_cons (up_cons rfl hs4) hs35) trivial (perm_front 0 rfl)
    rintro fa7 ⟨-, -, -, -, -, -, -, -, -, -, -, -, -, -, -, -, -, -, -⟩ ⟨j0, -⟩
    refine f_re (L' := [pt b2 (.cells #[Ix (gx), Ix (gy)] 28), pt b1 (.cells (bC b) 52), pt b3 (.cells #[Ix (clampS ((b.vx) + (gx))), Ix (clampS ((b.vy) + (gy)))] 28)]) (by rfl) ?_
    refine f_rebase (d := 4) (v := .pointer (some ⟨b3, 0, none⟩)) j0 ?_
    refine f_then ?_
    refine c_ret ?_
    refine retG (l := [.cell 4 28]) (m := [.agg #[Ix (clampS ((b.vx) + (gx))), Ix (clampS ((b.vy) + (gy)))]]) (v := .agg #[Ix (clampS ((b.vx) + (gx))), Ix (clampS ((b.vy) + (gy)))]) Tryz.results39 ⟨rd_cell tf15 (cs := [Ix (clampS ((b.vx) + (gx))), Ix (clampS ((b.vy) + (gy)))]) rfl (k_pt 2 (cs := #[Ix (clampS ((b.vx) + (gx))), Ix (clampS ((b.vy) + (gy)))]) (vs := [Ix (clampS ((b.vx) + (gx))), Ix (clampS ((b.vy) + (gy)))]) rfl rfl) rfl, trivial⟩ rfl ?_
    intro w hw
    have hno : ¬ (b.fixed = true ∨ ¬ okB b ∨ ¬ okV gx gy) := fun h => h.elim (fun h => by rw [hg4] at h; cases h) fun h => h.elim (fun h => h hob) fun h => h hov
    exact ⟨by rw [show speedX b gx gy = clampS (b.vx + gx) from if_neg hno, show speedY b gx gy = clampS (b.vy + gy) from if_neg hno], st_mask [false, false, false] rfl hw⟩
theorem number_ok (β : Base) (w : World) (hw : St β [] w) (b : KB) : Calls Tryz.prog 49 #[.agg (bC b)] w fun r w' => r = .returned (Ix b.id) ∧ St β [] w' := by
 refine enter (n := 5) Tryz.func49 rfl Tryz.ntmps49 rfl ?_ hw
 refine c_seq ?_
 refine c_region ?_
 refine l_mv rfl rfl rfl (m_box (v := .agg (bC b)) rfl) ?_
 rintro _ _ ⟨b1, rfl, rfl⟩
 refine l_val (v := .int .i64 (0)) rfl rfl rfl (e_assign) ?_
 refine l_nil ?_
 refine f_then ?_
 refine c_seq ?_
 refine c_region ?_
 refine l_val (v := .pointer (some ⟨b1, 0, none⟩)) rfl rfl rfl (e_fieldPt (b := b1) (o := 0) rfl tf3) ?_
 refine l_val (v := Ix (b.id)) rfl rfl rfl (e_load1 tf2 (v := Ix (b.id)) rfl (k_pt 0 (cs := (bC b)) (vs := [Ix (b.id)]) rfl rfl)) ?_
 refine l_val (v := Ix (b.id)) rfl rfl rfl (e_assign) ?_
 refine l_nil ?_
 refine f_then ?_
 refine c_ret ?_
 refine ret1 Tryz.results49 (v := Ix (b.id)) rfl ?_
 intro w hw
 exact ⟨rfl, st_mask [false] rfl hw⟩
theorem isnanS_ok (β : Base) (w : World) (hw : St β [] w) (x : Int) : Calls Tryz.prog 161 #[Ix x] w fun r w' => r = .returned (.bool false) ∧ St β [] w' := by
 refine enter (n := 6) Tryz.func161 rfl Tryz.ntmps161 rfl ?_ hw
 refine c_seq ?_
 refine c_region ?_
 refine l_val (v := .bool false) rfl rfl rfl (e_assign) ?_
 refine l_nil ?_
 refine f_then ?_
 refine c_seq ?_
 refine c_region ?_
 refine l_val (v := Ix (x)) rfl rfl rfl (e_move) ?_
 refine l_val (v := Ix (x)) rfl rfl rfl (e_move) ?_
 refine l_val (v := .bool (decide ((x) ≠ (x)))) rfl rfl rfl (e_neq (a := (x)) (b := (x)) rfl rfl) ?_
 refine l_val (v := .bool (decide ((x) ≠ (x)))) rfl rfl rfl (e_assign) ?_
 refine l_nil ?_
 refine f_then ?_
 refine c_ret ?_
 refine ret1 Tryz.results161 (v := .bool (decide ((x) ≠ (x)))) rfl ?_
 intro w hw
 exact ⟨congrArg Ending.returned (congrArg Value.bool (decide_eq_false (by simp))), st_mask [] rfl hw⟩
set_option maxHeartbeats 4000000 in
theorem cmpS_ok (β : Base) (w : World) (hw : St β [] w) (x y : Int) : Calls Tryz.prog 103 #[Ix x, Ix y] w fun r w' => r = .returned (Ix (cmpI x y)) ∧ St β [] w' := by
 refine enter (n := 20) Tryz.func103 rfl Tryz.ntmps103 rfl ?_ hw
 refine c_seq ?_
 refine c_region ?_
 refine l_val (v := .int .i64 (0)) rfl rfl rfl (e_assign) ?_
 refine l_nil ?_
 refine f_then ?_
 refine c_seq ?_
 refine c_region ?_
 refine l_val (v := Ix (x)) rfl rfl rfl (e_move) ?_
 refine l_call rfl rfl rfl (cl_value (fst := []) (cap := []) (vs := [Ix (x)]) (all := [Ix (x)]) tf36 rfl rfl rfl) ?_
 intro w hw
 obtain ⟨β1, sb, kn, hw1, back⟩ := St.frame_all hw
 refine (isnanS_ok β1 w hw1 (x)).mono ?_
 rintro e w' ⟨rfl, hw'⟩
 refine ⟨_, rfl, _, back _ _ hw', ?_⟩
 clear hw hw1 hw' back kn sb
 refine l_val (v := .bool false) rfl rfl rfl (e_assign) ?_
 refine l_nil ?_
 refine f_then ?_
 refine c_seq ?_
 refine c_region ?_
 refine l_val (v := Ix (y)) rfl rfl rfl (e_move) ?_
 refine l_call rfl rfl rfl (cl_value (fst := []) (cap := []) (vs := [Ix (y)]) (all := [Ix (y)]) tf36 rfl rfl rfl) ?_
 intro w hw
 obtain ⟨β1, sb, kn, hw1, back⟩ := St.frame_all hw
 refine (isnanS_ok β1 w hw1 (y)).mono ?_
 rintro e w' ⟨rfl, hw'⟩
 refine ⟨_, rfl, _, back _ _ hw', ?_⟩
 clear hw hw1 hw' back kn sb
 refine l_val (v := .bool false) rfl rfl rfl (e_assign) ?_
 refine l_nil ?_
 refine f_then ?_
 refine c_seq ?_
 refine c_seq ?_
 refine c_region ?_
 refine l_val (v := .bool false) rfl rfl rfl (e_move) ?_
 refine l_nil ?_
 refine f_then ?_
 refine c_no rfl ?_
 refine c_skip ?_
 refine f_then ?_
 refine c_seq ?_
 refine c_seq ?_
 refine c_region ?_
 refine l_val (v := .bool false) rfl rfl rfl (e_move) ?_
 refine l_nil ?_
 refine f_then ?_
 refine c_no rfl ?_
 refine c_skip ?_
 refine f_then ?_
 refine c_seq ?_
 refine c_seq ?_
 refine c_region ?_
 refine l_val (v := Ix (x)) rfl rfl rfl (e_move) ?_
 refine l_val (v := Ix (y)) rfl rfl rfl (e_move) ?_
 refine l_val (v := .bool (decide ((x) < (y)))) rfl rfl rfl (e_lss (a := (x)) (b := (y)) rfl rfl) ?_
 refine l_nil ?_
 refine f_then ?_
 refine c_if ((x) < (y)) rfl (fun hc1 => ?_) (fun hc1 => ?_)
 ·
  refine c_seq ?_
  refine c_region ?_
  refine l_val (v := .int .i64 (-1)) rfl rfl rfl (e_assign) ?_
  refine l_nil ?_
  refine f_then ?_
  refine c_ret ?_
  refine f_then_ret ?_
  refine ret1 Tryz.results103 (v := .int .i64 (-1)) rfl ?_
  intro w hw
  exact ⟨congrArg Ending.returned (congrArg (Value.int .i64) (show (-1 : Int) = cmpI x y by unfold cmpI; split <;> (try split) <;> omega)), st_mask [] rfl hw⟩
 ·
  refine c_skip ?_
  refine f_then ?_
  refine c_seq ?_
  refine c_seq ?_
  refine c_region ?_
  refine l_val (v := Ix (x)) rfl rfl rfl (e_move) ?_
  refine l_val (v := Ix (y)) rfl rfl rfl (e_move) ?_
  refine l_val (v := .bool (decide ((y) < (x)))) rfl rfl rfl (e_gtr (a := (x)) (b := (y)) rfl rfl) ?_
  refine l_nil ?_
  refine f_then ?_
  refine c_if ((y) < (x)) rfl (fun hc2 => ?_) (fun hc2 => ?_)
  ·
   refine c_seq ?_
   refine c_region ?_
   refine l_val (v := .int .i64 (1)) rfl rfl rfl (e_assign) ?_
   refine l_nil ?_
   refine f_then ?_
   refine c_ret ?_
   refine f_then_ret ?_
   refine ret1 Tryz.results103 (v := .int .i64 (1)) rfl ?_
   intro w hw
   exact ⟨congrArg Ending.returned (congrArg (Value.int .i64) (show (1 : Int) = cmpI x y by unfold cmpI; split <;> (try split) <;> omega)), st_mask [] rfl hw⟩
  ·
   refine c_skip ?_
   refine f_then ?_
   refine c_seq ?_
   refine c_region ?_
   refine l_val (v := .int .i64 (0)) rfl rfl rfl (e_assign) ?_
   refine l_nil ?_
   refine f_then ?_
   refine c_ret ?_
   refine ret1 Tryz.results103 (v := .int .i64 (0)) rfl ?_
   intro w hw
   exact ⟨congrArg Ending.returned (congrArg (Value.int .i64) (show (0 : Int) = cmpI x y by unfold cmpI; split <;> (try split) <;> omega)), st_mask [] rfl hw⟩
theorem find1_fn (β : Base) (c : Nat) (hc : Cs β.heap ⟨c, 0, none⟩ [.func (.func 49) #[] #[]]) : FnV Tryz.prog β (.func (.func 102) #[] #[.pointer (some ⟨c, 0, none⟩)]) (fun z : KB × Int => [.agg (bC z.1), Ix z.2]) (fun _ => True) (fun z => Ix (cmpI z.1.id z.2)) := by
 refine ⟨102, [], [.pointer (some (⟨c, 0, none⟩))], rfl, by kernel_rfl, fun β₁ sb0 z_ hz_ w hw => ?_⟩
 have hc1 := Cs.mono _ _ _ _ sb0 hc
 obtain ⟨b, i⟩ := z_
 refine enter (n := 11) Tryz.func102 rfl Tryz.ntmps102 rfl ?_ hw
 refine c_seq ?_
 refine c_region ?_
 refine l_mv rfl rfl rfl (m_box (v := .agg (bC b)) rfl) ?_
 rintro _ _ ⟨b1, rfl, rfl⟩
 refine l_val (v := .int .i64 (0)) rfl rfl rfl (e_assign) ?_
 refine l_nil ?_
 refine f_then ?_
 refine c_seq ?_
 refine c_region ?_
 refine l_val (v := .func (.func 49) #[] #[]) rfl rfl rfl (e_load1 tf37 (v := .func (.func 49) #[] #[]) rfl (Knows.of_base (Cs.mono _ _) hc1)) ?_
 refine l_val (v := .agg (bC b)) rfl rfl rfl (e_load tf22 (cs := (bodyE b)) rfl (k_pt 0 (cs := (bC b)) (vs := (bodyE b)) rfl rfl) rfl) ?_
 refine l_call rfl rfl rfl (cl_value (fst := []) (cap := []) (vs := [.agg (bC b)]) (all := [.agg (bC b)]) tf38 rfl rfl rfl) ?_
 intro w hw
 obtain ⟨β1, sb, kn, hw1, back⟩ := St.frame_all hw
 refine (number_ok β1 w hw1 b).mono ?_
 rintro e w' ⟨rfl, hw'⟩
 refine ⟨_, rfl, _, back _ _ hw', ?_⟩
 clear hw hw1 hw' back kn sb
 refine l_val (v := Ix (i)) rfl rfl rfl (e_move) ?_
 refine l_call rfl rfl rfl (cl_value (fst := []) (cap := []) (vs := [Ix (b.id), Ix (i)]) (all := [Ix (b.id), Ix (i)]) tf39 rfl rfl rfl) ?_
 intro w hw
 obtain ⟨β1, sb, kn, hw1, back⟩ := St.frame_all hw
 refine (cmpS_ok β1 w hw1 (b.id) (i)).mono ?_
 rintro e w' ⟨rfl, hw'⟩
 refine ⟨_, rfl, _, back _ _ hw', ?_⟩
 clear hw hw1 hw' back kn sb
 refine l_val (v := Ix (cmpI (b.id) (i))) rfl rfl rfl (e_assign) ?_
 refine l_nil ?_
 refine f_then ?_
 refine c_ret ?_
 refine ret1 Tryz.results102 (v := Ix (cmpI (b.id) (i))) rfl ?_
 intro w hw
 exact ⟨rfl, st_mask [false] rfl hw⟩
set_option maxHeartbeats 4000000 in
theorem bsearch_ok (β : Base) (w : World) (hw : St β [] w) (v fn : Value) (bs : List KB) (hs : Sl KBR β.heap v bs) (id : Int) (ho : ordB bs) (hn : bs.length ≤ 1048576) (hfn : FnV Tryz.prog β fn (fun z : KB × Int => [.agg (bC z.1), Ix z.2]) (fun _ => True) (fun z => Ix (cmpI z.1.id z.2))) : Calls Tryz.prog 101 #[v, Ix id, fn] w fun r w' => r = .returned (.tuple #[Nx (lbN bs id), .bool (findB bs id).isSome]) ∧ St β [] w' := by
 obtain ⟨va, vc, rfl, vl, vm, ve⟩ := hs.get
 obtain ⟨gg, fst, cap, rfl, hcf, hf⟩ := hfn
 refine enter (n := 49) Tryz.func101 rfl Tryz.ntmps101 rfl ?_ hw
 refine c_seq ?_
 refine c_region ?_
 refine l_val (v := .int .i64 (0)) rfl rfl rfl (e_assign) ?_
 refine l_val (v := .bool false) rfl rfl rfl (e_assign) ?_
 refine l_nil ?_
 refine f_then ?_
 refine c_seq ?_
 refine c_region ?_
 refine l_val (v := .slice va (bs.length) (vc)) rfl rfl rfl (e_move) ?_
 refine l_val (v := Nx (bs.length)) rfl rfl rfl (e_len (a := va) (n := bs.length) (c := vc) rfl tf40) ?_
 refine l_val (v := Nx (bs.length)) rfl rfl rfl (e_assign) ?_
 refine l_nil ?_
 refine f_then ?_
 refine c_seq ?_
 refine c_region ?_
 refine l_val (v := Nx (bs.length)) rfl rfl rfl (e_move) ?_
 refine l_val (v := .int .i64 (0)) rfl rfl rfl (e_assign) ?_
 refine l_val (v := Nx (bs.length)) rfl rfl rfl (e_assign) ?_
 refine l_nil ?_
 refine f_then ?_
 refine c_seq ?_
 refine c_block ?_
 refine c_loop (fun (x_ : Nat × Nat) (f : Fm) (L : List Res) => match x_ with | (i, j) => (f 0 = .slice va (bs.length) (vc) ∧ f 1 = Ix (id) ∧ f 2 = .func (.func gg) fst.toArray cap.toArray ∧ f 8 = Nx (bs.length) ∧ f 9 = Nx (i) ∧ f 10 = Nx (j)) ∧ L = [] ∧ (i ≤ j ∧ j ≤ bs.length ∧ (∀ t, t < i → idAt bs t < id) ∧ (j < bs.length → id ≤ idAt bs j))) (fun (x_ : Nat × Nat) => match x_ with | (i, j) => j - i) (0, bs.length) ?_ ?_
 ·exact ⟨⟨rfl, rfl, rfl, rfl, rfl, rfl⟩, rfl, ⟨by omega, by omega, fun t ht => by omega, fun h => by omega⟩⟩
 rintro ⟨i, j⟩ f0 L0 ⟨⟨hs0, hs1, hs2, hs8, hs9, hs10⟩, hL, ⟨h1, h2, hp1, hp2⟩⟩
 subst L0
 refine rebase (d := 0) hs0 ?_
 refine rebase (d := 1) hs1 ?_
 refine rebase (d := 2) hs2 ?_
 refine rebase (d := 8) hs8 ?_
 refine rebase (d := 9) hs9 ?_
 refine rebase (d := 10) hs10 ?_
 clear hs0 hs1 hs2 hs8 hs9 hs10
 obtain ⟨h, hh⟩ : ∃ h, h = (U (((i + j : Nat)) : Int) >>> (1 : UInt64)).toNat := ⟨_, rfl⟩
 have hh2 := half_toNat (m := i + j) (by omega)
 refine c_seq ?_
 refine c_seq ?_
 refine c_region ?_
 refine l_val (v := Nx (i)) rfl rfl rfl (e_move) ?_
 refine l_val (v := Nx (j)) rfl rfl rfl (e_move) ?_
 refine l_val (v := .bool (decide (((i : Nat) : Int) < ((j : Nat) : Int)))) rfl rfl rfl (e_lss (a := ((i : Nat) : Int)) (b := ((j : Nat) : Int)) rfl rfl) ?_
 refine l_nil ?_
 refine f_then ?_
 refine c_if (((i : Nat) : Int) < ((j : Nat) : Int)) rfl (fun hc1 => ?_) (fun hc1 => ?_)
 ·
  refine c_skip ?_
  refine f_then ?_
  refine c_block ?_
  refine c_seq ?_
  refine c_region ?_
  refine l_val (v := Nx (i)) rfl rfl rfl (e_move) ?_
  refine l_val (v := Nx (j)) rfl rfl rfl (e_move) ?_
  refine l_val (v := Nx (i + j)) rfl rfl rfl (e_add (a := ((i : Nat) : Int)) (b := ((j : Nat) : Int)) rfl rfl (i64n (by omega) (by omega))) ?_
  refine l_val (v := Ux (U ((i + j : Nat) : Int))) rfl rfl rfl (e_conv (a := ((i + j : Nat) : Int)) rfl ⟨_, tf41⟩ tf42 (ux_of _)) ?_
  refine l_val (v := Ux ((U ((i + j : Nat) : Int)) >>> (1 : UInt64))) rfl rfl rfl (e_shr (a := ((U ((i + j : Nat) : Int)).toNat : Int)) (b := ((1 : Nat) : Int)) rfl rfl (by decide) (ux_shr _ 1 (by decide))) ?_
  refine l_val (v := Nx (h)) rfl rfl rfl (e_conv (a := (((U ((i + j : Nat) : Int)) >>> (1 : UInt64)).toNat : Int)) rfl ⟨_, tf42⟩ tf41 (i64n (by rw [hh]) (by omega))) ?_
  refine l_val (v := Nx (h)) rfl rfl rfl (e_assign) ?_
  refine l_nil ?_
  refine f_then ?_
  refine c_seq ?_
  refine c_region ?_
  refine l_val (v := .func (.func gg) fst.toArray cap.toArray) rfl rfl rfl (e_move) ?_
  refine l_val (v := .slice va (bs.length) (vc)) rfl rfl rfl (e_move) ?_
  refine l_val (v := Nx (h)) rfl rfl rfl (e_move) ?_
  obtain ⟨x2, hx3⟩ : ∃ x_, (bs)[h]? = some x_ := ⟨_, List.getElem?_eq_getElem (by omega)⟩
  obtain ⟨ha4, cs5, hc6, rfl⟩ := ve _ _ hx3
  refine l_val (v := .pointer (some ((ba va).add (h * 9)))) rfl rfl rfl (e_indexAddr (k := h) (len := bs.length) (cap := vc) (a := va) rfl rfl tf43 (by omega) ha4) ?_
  refine l_val (v := .agg (bC x2)) rfl rfl rfl (e_load tf22 (cs := (bodyE x2)) rfl (Knows.of_base (Cs.mono _ _) hc6) rfl) ?_
  refine l_val (v := Ix (id)) rfl rfl rfl (e_move) ?_
  refine l_call rfl rfl rfl (cl_value (fst := fst) (cap := cap) (vs := [.agg (bC x2), Ix (id)]) (all := fst ++ [.agg (bC x2), Ix (id)] ++ cap) hcf rfl rfl rfl) ?_
  intro w hw
  obtain ⟨β1, sb, kn, hw1, back⟩ := St.frame_all hw
  refine (hf β1 sb (x2, (id)) trivial w hw1).mono ?_
  rintro e w' ⟨rfl, hw'⟩
  refine ⟨_, rfl, _, back _ _ hw', ?_⟩
  clear hw hw1 hw' back kn sb
  refine l_val (v := .bool (decide ((cmpI x2.id (id)) < (0 : Int)))) rfl rfl rfl (e_lss (a := (cmpI x2.id (id))) (b := (0 : Int)) rfl rfl) ?_
  refine l_nil ?_
  refine f_then ?_
  refine c_if ((cmpI x2.id (id)) < (0 : Int)) rfl (fun hc8 => ?_) (fun hc8 => ?_)
  ·
   refine c_region ?_
   refine l_val (v := Nx (h)) rfl rfl rfl (e_move) ?_
   refine l_val (v := Nx (h + 1)) rfl rfl rfl (e_add (a := ((h : Nat) : Int)) (b := (1 : Int)) rfl rfl (i64n (by omega) (by omega))) ?_
   refine l_val (v := Nx (h + 1)) rfl rfl rfl (e_assign) ?_
   refine l_nil ?_
   refine f_block ?_
   exact f_cut ⟨(h + 1, j), ⟨⟨rfl, rfl, rfl, rfl, rfl, rfl⟩, rfl, ⟨by omega, by omega, fun t ht => lb_next ho hx3 (by have q := hc8; unfold cmpI at q; split at q <;> (try split at q) <;> omega) ht, hp2⟩⟩, (show j - (h + 1) < j - i from by omega)⟩
  ·
   refine c_region ?_
   refine l_val (v := Nx (h)) rfl rfl rfl (e_move) ?_
   refine l_val (v := Nx (h)) rfl rfl rfl (e_assign) ?_
   refine l_nil ?_
   refine f_block ?_
   exact f_cut ⟨(i, h), ⟨⟨rfl, rfl, rfl, rfl, rfl, rfl⟩, rfl, ⟨by omega, by omega, hp1, fun _ => by rw [idAt_eq hx3]; have q := hc8; unfold cmpI at q; split at q <;> (try split at q) <;> omega⟩⟩, (show h - i < j - i from by omega)⟩
 ·
  refine c_exit ?_
  refine f_then_exit ?_
  refine f_then_exit ?_
  refine f_exit ?_
  refine f_then ?_
  refine c_seq ?_
  have hij : i = j := by omega
  subst hij
  have hp2' := hp2
  refine c_region ?_
  refine l_val (v := Nx (i)) rfl rfl rfl (e_move) ?_
  refine l_val (v := Nx (i)) rfl rfl rfl (e_move) ?_
  refine l_val (v := Nx (bs.length)) rfl rfl rfl (e_move) ?_
  refine l_val (v := .bool (decide (((i : Nat) : Int) < ((bs.length : Nat) : Int)))) rfl rfl rfl (e_lss (a := ((i : Nat) : Int)) (b := ((bs.length : Nat) : Int)) rfl rfl) ?_
  refine l_val (v := .bool (decide (((i : Nat) : Int) < ((bs.length : Nat) : Int)))) rfl rfl rfl (e_move) ?_
  refine l_split (s := 39) (p := ((i : Nat) : Int) < ((bs.length : Nat) : Int)) rfl (fun hg9 => ?_) (fun hg9 => ?_)
  ·
   refine g_val (v := .func (.func gg) fst.toArray cap.toArray) rfl rfl rfl rfl rfl (e_move) ?_
   refine g_val (v := .slice va (bs.length) (vc)) rfl rfl rfl rfl rfl (e_move) ?_
   refine g_val (v := Nx (i)) rfl rfl rfl rfl rfl (e_move) ?_
   obtain ⟨x10, hx11⟩ : ∃ x_, (bs)[i]? = some x_ := ⟨_, List.getElem?_eq_getElem (by omega)⟩
   obtain ⟨ha12, cs13, hc14, rfl⟩ := ve _ _ hx11
   refine g_val (v := .pointer (some ((ba va).add (i * 9)))) rfl rfl rfl rfl rfl (e_indexAddr (k := i) (len := bs.length) (cap := vc) (a := va) rfl rfl tf43 (by omega) ha12) ?_
   refine g_val (v := .agg (bC x10)) rfl rfl rfl rfl rfl (e_load tf22 (cs := (bodyE x10)) rfl (Knows.of_base (Cs.mono _ _) hc14) rfl) ?_
   refine g_val (v := Ix (id)) rfl rfl rfl rfl rfl (e_move) ?_
   refine g_call rfl rfl rfl rfl rfl (cl_value (fst := fst) (cap := cap) (vs := [.agg (bC x10), Ix (id)]) (all := fst ++ [.agg (bC x10), Ix (id)] ++ cap) hcf rfl rfl rfl) ?_
   intro w hw
   obtain ⟨β1, sb, kn, hw1, back⟩ := St.frame_all hw
   refine (hf β1 sb (x10, (id)) trivial w hw1).mono ?_
   rintro e w' ⟨rfl, hw'⟩
   refine ⟨_, rfl, _, back _ _ hw', ?_⟩
   clear hw hw1 hw' back kn sb
   refine g_val (v := .bool (decide ((cmpI x10.id (id)) = (0 : Int)))) rfl rfl rfl rfl rfl (e_eql (a := (cmpI x10.id (id))) (b := (0 : Int)) rfl rfl) ?_
   refine l_val (v := .bool (decide ((cmpI x10.id (id)) = (0 : Int)))) rfl rfl rfl (e_pick_t rfl) ?_
   refine l_val (v := Nx (i)) rfl rfl rfl (e_assign) ?_
   refine l_val (v := .bool (decide ((cmpI x10.id (id)) = (0 : Int)))) rfl rfl rfl (e_assign) ?_
   refine l_nil ?_
   refine f_then ?_
   refine c_ret ?_
   refine ret2 (v := Nx (i)) (v' := .bool (decide ((cmpI x10.id (id)) = (0 : Int)))) Tryz.results101 rfl rfl ?_
   intro w hw
   exact ⟨by rw [lb_eq (by omega) hp1 (fun _ => by rw [idAt_eq hx11]; have := hp2 (by omega); rwa [idAt_eq hx11] at this), show decide ((cmpI x10.id (id)) = (0 : Int)) = (findB bs id).isSome from (by have hle := hp2 (by omega); rw [idAt_eq hx11] at hle; have q := lb_found ho hp1 hx11 hle; rw [Bool.eq_iff_iff, decide_eq_true_iff, ← q]; unfold cmpI; split <;> (try split) <;> omega)], st_mask [] rfl hw⟩
  ·
   refine l_skip rfl rfl rfl rfl rfl rfl ?_
   refine l_skip rfl rfl rfl rfl rfl rfl ?_
   refine l_skip rfl rfl rfl rfl rfl rfl ?_
   refine l_skip rfl rfl rfl rfl rfl rfl ?_
   refine l_skip rfl rfl rfl rfl rfl rfl ?_
   refine l_skip rfl rfl rfl rfl rfl rfl ?_
   refine l_skip rfl rfl rfl rfl rfl rfl ?_
   refine l_skip rfl rfl rfl rfl rfl rfl ?_
   refine l_val (v := .bool false) rfl rfl rfl (e_pick_f rfl) ?_
   refine l_val (v := Nx (i)) rfl rfl rfl (e_assign) ?_
   refine l_val (v := .bool false) rfl rfl rfl (e_assign) ?_
   refine l_nil ?_
   refine f_then ?_
   refine c_ret ?_
   refine ret2 (v := Nx (i)) (v' := .bool false) Tryz.results101 rfl rfl ?_
   intro w hw
   exact ⟨by rw [lb_eq (by omega) hp1 hp2', lb_none (by omega) hp1], st_mask [] rfl hw⟩
theorem find_ok (β : Base) (w : World) (hw : St β [] w) (v : Value) (bs : List KB) (hs : Sl KBR β.heap v bs) (id : Int) (ho : ordB bs) (hn : bs.length ≤ 1048576) : Calls Tryz.prog 48 #[v, Ix id, .func (.func 49) #[] #[]] w fun r w' => r = .returned (.tuple #[Nx (lbN bs id), .bool (findB bs id).isSome]) ∧ St β [] w' := by
 refine enter (n := 14) Tryz.func48 rfl Tryz.ntmps48 rfl ?_ hw
 refine c_seq ?_
 refine c_region ?_
 refine l_mv rfl rfl rfl (m_box (v := .func (.func 49) #[] #[]) rfl) ?_
 rintro _ _ ⟨b1, rfl, rfl⟩
 refine l_val (v := .int .i64 (0)) rfl rfl rfl (e_assign) ?_
 refine l_val (v := .bool false) rfl rfl rfl (e_assign) ?_
 refine l_nil ?_
 refine f_then ?_
 refine c_seq ?_
 refine c_region ?_
 refine l_val (v := v) rfl rfl rfl (e_move) ?_
 refine l_val (v := Ix (id)) rfl rfl rfl (e_move) ?_
 refine l_val (v := .func (.func 102) #[] #[.pointer (some ⟨b1, 0, none⟩)]) rfl rfl rfl (e_func (u := []) (v := [.pointer (some ⟨b1, 0, none⟩)]) rfl rfl) ?_
 refine l_call rfl rfl rfl (cl_value (fst := []) (cap := []) (vs := [v, Ix (id), .func (.func 102) #[] #[.pointer (some ⟨b1, 0, none⟩)]]) (all := [v, Ix (id), .func (.func 102) #[] #[.pointer (some ⟨b1, 0, none⟩)]]) tf44 rfl rfl rfl) ?_
 intro w hw
 obtain ⟨β1, sb, kn, hw1, back⟩ := St.frame_all hw
 refine (bsearch_ok β1 w hw1 _ _ bs (Sl.mono _ _ _ _ _ sb hs) (id) ho (by omega) (find1_fn β1 b1 (kn _ (k_pt 0 (o := 0) (cs := #[.func (.func 49) #[] #[]]) (vs := [.func (.func 49) #[] #[]]) rfl rfl)))).mono ?_
 rintro e w' ⟨rfl, hw'⟩
 refine ⟨_, rfl, _, back _ _ hw', ?_⟩
 clear hw hw1 hw' back kn sb
 refine l_val (v := Nx (lbN bs (id))) rfl rfl rfl (e_extract (vs := #[Nx (lbN bs (id)), .bool ((findB bs (id)).isSome)]) rfl rfl) ?_
 refine l_val (v := .bool ((findB bs (id)).isSome)) rfl rfl rfl (e_extract (vs := #[Nx (lbN bs (id)), .bool ((findB bs (id)).isSome)]) rfl rfl) ?_
 refine l_val (v := Nx (lbN bs (id))) rfl rfl rfl (e_assign) ?_
 refine l_val (v := .bool ((findB bs (id)).isSome)) rfl rfl rfl (e_assign) ?_
 refine l_nil ?_
 refine f_then ?_
 refine c_ret ?_
 refine ret2 (v := Nx (lbN bs (id))) (v' := .bool ((findB bs (id)).isSome)) Tryz.results48 rfl rfl ?_
 intro w hw
 exact ⟨rfl, st_mask [false] rfl hw⟩
end Go.Proofs
