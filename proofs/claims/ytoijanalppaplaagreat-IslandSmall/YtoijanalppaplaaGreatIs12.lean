/-
 IslandReach: walked. Printed by a program of my own.
-/
import Derived.Test.YtoijanalppaplaaGreatIs7
import Derived.Test.YtoijanalppaplaaGreatIsSt2
import Derived.Test.YtoijanalppaplaaGreatSlC
namespace Go.Isl
open Go.Sl Go.Brd Go.Stp Go.Proofs
def rightI (x : Int) : Prop := -2097152 ≤ x ∧ x ≤ 2097152
instance (x : Int) : Decidable (rightI x) := by unfold rightI; infer_instance
theorem reach_join {b : KB} {gx gy : Int} (hb : okB b) (hv : okV gx gy) : reachA b gx gy = joinR (⟨b.x - b.w, b.y - b.h, b.x + b.w, b.y + b.h⟩ : KA) (⟨b.x - b.w + speedX b gx gy, b.y - b.h + speedY b gx gy, b.x + b.w + speedX b gx gy, b.y + b.h + speedY b gx gy⟩ : KA) := by
 obtain ⟨⟨h1, h2⟩, h3, h4⟩ := speed_bd b gx gy
 unfold reachA joinR
 rw [if_pos ⟨hb, hv⟩]
 obtain ⟨b1, b2, b3, b4, b5, b6, b7, -, -⟩ := hb
 rw [if_pos ⟨by unfold okA okSpan; simp only; omega, by unfold okA okSpan; simp only; omega⟩]
 unfold joinA
 simp only [sB, rB, KA.mk.injEq]
 omega
end Go.Isl
namespace Go.Proofs
open Go Go.Sl Go.Brd Go.Stp Go.Isl
theorem tf81 : fldB Tryz.prog 36 0 0 2 true = true := by kernel_rfl
theorem tf82 : cfB Tryz.prog 103 = true := by kernel_rfl
theorem tf83 : fldB Tryz.prog 36 1 2 2 true = true := by kernel_rfl
theorem tf84 : cfB Tryz.prog 67 = true := by kernel_rfl
theorem tf85 : cfB Tryz.prog 33 = true := by kernel_rfl
theorem tf86 : cfB Tryz.prog 34 = true := by kernel_rfl
theorem tf87 : cfB Tryz.prog 37 = true := by kernel_rfl
theorem tf88 : cfB Tryz.prog 10 = true := by kernel_rfl
theorem tf89 : cfB Tryz.prog 38 = true := by kernel_rfl
theorem tf90 : lay Tryz.prog 10000 25 = some [.int .i64, .int .i64] := by kernel_rfl
theorem tf91 : isAggT Tryz.prog 25 = true := by kernel_rfl
theorem tf92 : Tryz.prog.eqGuardType Tryz.prog.depth 25 = false := by kernel_rfl
theorem tf93 : cfB Tryz.prog 12 = true := by kernel_rfl
theorem tf94 : cfB Tryz.prog 8 = true := by kernel_rfl
theorem rright_ok (β : Base) (w : World) (hw : St β [] w) (x : Int) : Calls Tryz.prog 103 #[Ix x] w fun r w' => r = .returned (.bool (decide (rightI x))) ∧ St β [] w' := by
 refine enter (n := 9) Tryz.func103 rfl Tryz.ntmps103 rfl ?_ hw
 refine csr ?_
 refine l_val (v := .bool false) rfl rfl rfl e_assign ?_
 refine lnc ?_
 refine lv (v := Ix (x)) e_move ?_
 refine lv (e_geq (a := (x)) (b := (-2097152 : Int)) rfl rfl) ?_
 refine lv (v := .bool (decide ((-2097152 : Int) ≤ (x)))) e_move ?_
 refine l_split (s := 5) (p := (-2097152 : Int) ≤ (x)) rfl (fun hg1 => ?_) (fun hg1 => ?_)
 ·refine g_val (v := Ix (x)) rfl rfl rfl rfl rfl e_move ?_
  refine g_val rfl rfl rfl rfl rfl (e_leq (a := (x)) (b := (2097152 : Int)) rfl rfl) ?_
  refine lv (v := .bool (decide ((x) ≤ (2097152 : Int)))) (e_pick_t rfl) ?_
  refine lv (v := .bool (decide ((x) ≤ (2097152 : Int)))) e_assign ?_
  refine lnf ?_
  refine c_ret ?_
  refine ret1 Tryz.results103 (v := .bool (decide ((x) ≤ (2097152 : Int)))) rfl ?_
  intro w hw
  exact ⟨congrArg (fun b : Bool => Ending.returned (.bool b)) (decide_eq_decide.2 ⟨fun q => by unfold rightI; omega, fun q => by unfold rightI at q; omega⟩), st_mask [] rfl hw⟩
 refine l_skip rfl rfl rfl rfl rfl rfl ?_
 refine l_skip rfl rfl rfl rfl rfl rfl ?_
 refine lv (v := .bool false) (e_pick_f rfl) ?_
 refine lv (v := .bool false) e_assign ?_
 refine lnf ?_
 refine c_ret ?_
 refine ret1 Tryz.results103 (v := .bool false) rfl ?_
 intro w hw
 exact ⟨congrArg (fun b : Bool => Ending.returned (.bool b)) ((decide_eq_false (fun q => by unfold rightI at q; omega)).symm), st_mask [] rfl hw⟩
set_option maxHeartbeats 4000000 in
theorem rvalid_ok (β : Base) (w : World) (hw : St β [] w) (a : KA) : Calls Tryz.prog 67 #[.agg (aC a)] w fun r w' => r = .returned (.bool (decide (okA a))) ∧ St β [] w' := by
 refine enter (n := 43) Tryz.func67 rfl Tryz.ntmps67 rfl ?_ hw
 refine csr ?_
 refine l_mv rfl rfl rfl (m_box (v := .agg (aC a)) rfl) ?_
 rintro _ _ ⟨b1, rfl, rfl⟩
 refine lv (v := .bool false) e_assign ?_
 refine lnc ?_
 refine lv (v := pp b1 0) (e_fieldPt rfl tf81) ?_
 refine lv (v := pp b1 0) (e_fieldPt rfl tf10) ?_
 refine lv (v := Ix (a.lx)) (e_load1 tf11 rfl (k_pt 0 rfl rfl)) ?_
 refine lcf (cl0 (vs := [Ix (a.lx)]) tf82 rfl rfl) rfl fun w β1 sb kn hw1 back => (rright_ok β1 w hw1 a.lx).mono ?_
 rintro e w' ⟨rfl, hw'⟩
 refine ⟨_, rfl, _, back _ _ hw', ?_⟩
 clear hw1 hw' back kn sb
 refine lv (v := .bool (decide (rightI a.lx))) e_move ?_
 refine l_split (s := 7) (p := rightI a.lx) rfl (fun hg2 => ?_) (fun hg2 => ?_)
 ·refine g_val (v := pp b1 0) rfl rfl rfl rfl rfl (e_fieldPt rfl tf81) ?_
  refine g_val (v := pp b1 1) rfl rfl rfl rfl rfl (e_fieldPt rfl tf12) ?_
  refine g_val (v := Ix (a.ly)) rfl rfl rfl rfl rfl (e_load1 tf11 rfl (k_pt 0 rfl rfl)) ?_
  refine g_call rfl rfl rfl rfl rfl (cl0 (vs := [Ix (a.ly)]) tf82 rfl rfl) ?_
  intro w hw
  obtain ⟨β1, sb, kn, hw1, back⟩ := St.frame_all hw
  refine (rright_ok β1 w hw1 a.ly).mono ?_
  rintro e w' ⟨rfl, hw'⟩
  refine ⟨_, rfl, _, back _ _ hw', ?_⟩
  clear hw hw1 hw' back kn sb
  refine lv (v := .bool (decide (rightI a.ly))) (e_pick_t rfl) ?_
  refine lv (v := .bool (decide (rightI a.ly))) e_move ?_
  refine l_split (s := 13) (p := rightI a.ly) rfl (fun hg3 => ?_) (fun hg3 => ?_)
  ·refine g_val (v := pp b1 2) rfl rfl rfl rfl rfl (e_fieldPt rfl tf83) ?_
   refine g_val (v := pp b1 2) rfl rfl rfl rfl rfl (e_fieldPt rfl tf10) ?_
   refine g_val (v := Ix (a.hx)) rfl rfl rfl rfl rfl (e_load1 tf11 rfl (k_pt 0 rfl rfl)) ?_
   refine g_call rfl rfl rfl rfl rfl (cl0 (vs := [Ix (a.hx)]) tf82 rfl rfl) ?_
   intro w hw
   obtain ⟨β1, sb, kn, hw1, back⟩ := St.frame_all hw
   refine (rright_ok β1 w hw1 a.hx).mono ?_
   rintro e w' ⟨rfl, hw'⟩
   refine ⟨_, rfl, _, back _ _ hw', ?_⟩
   clear hw hw1 hw' back kn sb
   refine lv (v := .bool (decide (rightI a.hx))) (e_pick_t rfl) ?_
   refine lv (v := .bool (decide (rightI a.hx))) e_move ?_
   refine l_split (s := 19) (p := rightI a.hx) rfl (fun hg4 => ?_) (fun hg4 => ?_)
   ·refine g_val (v := pp b1 2) rfl rfl rfl rfl rfl (e_fieldPt rfl tf83) ?_
    refine g_val (v := pp b1 3) rfl rfl rfl rfl rfl (e_fieldPt rfl tf12) ?_
    refine g_val (v := Ix (a.hy)) rfl rfl rfl rfl rfl (e_load1 tf11 rfl (k_pt 0 rfl rfl)) ?_
    refine g_call rfl rfl rfl rfl rfl (cl0 (vs := [Ix (a.hy)]) tf82 rfl rfl) ?_
    intro w hw
    obtain ⟨β1, sb, kn, hw1, back⟩ := St.frame_all hw
    refine (rright_ok β1 w hw1 a.hy).mono ?_
    rintro e w' ⟨rfl, hw'⟩
    refine ⟨_, rfl, _, back _ _ hw', ?_⟩
    clear hw hw1 hw' back kn sb
    refine lv (v := .bool (decide (rightI a.hy))) (e_pick_t rfl) ?_
    refine lv (v := .bool (decide (rightI a.hy))) e_move ?_
    refine l_split (s := 25) (p := rightI a.hy) rfl (fun hg5 => ?_) (fun hg5 => ?_)
    ·refine g_val (v := pp b1 0) rfl rfl rfl rfl rfl (e_fieldPt rfl tf81) ?_
     refine g_val (v := pp b1 0) rfl rfl rfl rfl rfl (e_fieldPt rfl tf10) ?_
     refine g_val (v := Ix (a.lx)) rfl rfl rfl rfl rfl (e_load1 tf11 rfl (k_pt 0 rfl rfl)) ?_
     refine g_val (v := pp b1 2) rfl rfl rfl rfl rfl (e_fieldPt rfl tf83) ?_
     refine g_val (v := pp b1 2) rfl rfl rfl rfl rfl (e_fieldPt rfl tf10) ?_
     refine g_val (v := Ix (a.hx)) rfl rfl rfl rfl rfl (e_load1 tf11 rfl (k_pt 0 rfl rfl)) ?_
     refine g_val rfl rfl rfl rfl rfl (e_leq (a := (a.lx)) (b := (a.hx)) rfl rfl) ?_
     refine lv (v := .bool (decide ((a.lx) ≤ (a.hx)))) (e_pick_t rfl) ?_
     refine lv (v := .bool (decide ((a.lx) ≤ (a.hx)))) e_move ?_
     refine l_split (s := 34) (p := (a.lx) ≤ (a.hx)) rfl (fun hg6 => ?_) (fun hg6 => ?_)
     ·refine g_val (v := pp b1 0) rfl rfl rfl rfl rfl (e_fieldPt rfl tf81) ?_
      refine g_val (v := pp b1 1) rfl rfl rfl rfl rfl (e_fieldPt rfl tf12) ?_
      refine g_val (v := Ix (a.ly)) rfl rfl rfl rfl rfl (e_load1 tf11 rfl (k_pt 0 rfl rfl)) ?_
      refine g_val (v := pp b1 2) rfl rfl rfl rfl rfl (e_fieldPt rfl tf83) ?_
      refine g_val (v := pp b1 3) rfl rfl rfl rfl rfl (e_fieldPt rfl tf12) ?_
      refine g_val (v := Ix (a.hy)) rfl rfl rfl rfl rfl (e_load1 tf11 rfl (k_pt 0 rfl rfl)) ?_
      refine g_val rfl rfl rfl rfl rfl (e_leq (a := (a.ly)) (b := (a.hy)) rfl rfl) ?_
      refine lv (v := .bool (decide ((a.ly) ≤ (a.hy)))) (e_pick_t rfl) ?_
      refine lv (v := .bool (decide ((a.ly) ≤ (a.hy)))) e_assign ?_
      refine lnf ?_
      refine c_ret ?_
      refine ret1 Tryz.results67 (v := .bool (decide ((a.ly) ≤ (a.hy)))) rfl ?_
      intro w hw
      exact ⟨congrArg (fun b : Bool => Ending.returned (.bool b)) (decide_eq_decide.2 ⟨fun q => by unfold okA okSpan; unfold rightI at *; omega, fun q => by unfold okA okSpan at q; unfold rightI at *; omega⟩), st_mask [false] rfl hw⟩
     refine l_skip rfl rfl rfl rfl rfl rfl ?_
     refine l_skip rfl rfl rfl rfl rfl rfl ?_
     refine l_skip rfl rfl rfl rfl rfl rfl ?_
     refine l_skip rfl rfl rfl rfl rfl rfl ?_
     refine l_skip rfl rfl rfl rfl rfl rfl ?_
     refine l_skip rfl rfl rfl rfl rfl rfl ?_
     refine l_skip rfl rfl rfl rfl rfl rfl ?_
     refine lv (v := .bool false) (e_pick_f rfl) ?_
     refine lv (v := .bool false) e_assign ?_
     refine lnf ?_
     refine c_ret ?_
     refine ret1 Tryz.results67 (v := .bool false) rfl ?_
     intro w hw
     exact ⟨congrArg (fun b : Bool => Ending.returned (.bool b)) ((decide_eq_false (fun q => by unfold okA okSpan at q; unfold rightI at *; omega)).symm), st_mask [false] rfl hw⟩
    refine l_skip rfl rfl rfl rfl rfl rfl ?_
    refine l_skip rfl rfl rfl rfl rfl rfl ?_
    refine l_skip rfl rfl rfl rfl rfl rfl ?_
    refine l_skip rfl rfl rfl rfl rfl rfl ?_
    refine l_skip rfl rfl rfl rfl rfl rfl ?_
    refine l_skip rfl rfl rfl rfl rfl rfl ?_
    refine l_skip rfl rfl rfl rfl rfl rfl ?_
    refine lv (v := .bool false) (e_pick_f rfl) ?_
    refine lv (v := .bool false) e_move ?_
    refine l_skip rfl rfl rfl rfl rfl rfl ?_
    refine l_skip rfl rfl rfl rfl rfl rfl ?_
    refine l_skip rfl rfl rfl rfl rfl rfl ?_
    refine l_skip rfl rfl rfl rfl rfl rfl ?_
    refine l_skip rfl rfl rfl rfl rfl rfl ?_
    refine l_skip rfl rfl rfl rfl rfl rfl ?_
    refine l_skip rfl rfl rfl rfl rfl rfl ?_
    refine lv (v := .bool false) (e_pick_f rfl) ?_
    refine lv (v := .bool false) e_assign ?_
    refine lnf ?_
    refine c_ret ?_
    refine ret1 Tryz.results67 (v := .bool false) rfl ?_
    intro w hw
    exact ⟨congrArg (fun b : Bool => Ending.returned (.bool b)) ((decide_eq_false (fun q => by unfold okA okSpan at q; unfold rightI at *; omega)).symm), st_mask [false] rfl hw⟩
   refine l_skip rfl rfl rfl rfl rfl rfl ?_
   refine l_skip rfl rfl rfl rfl rfl rfl ?_
   refine l_skip rfl rfl rfl rfl rfl rfl ?_
   refine l_skip rfl rfl rfl rfl rfl rfl ?_
   refine lv (v := .bool false) (e_pick_f rfl) ?_
   refine lv (v := .bool false) e_move ?_
   refine l_skip rfl rfl rfl rfl rfl rfl ?_
   refine l_skip rfl rfl rfl rfl rfl rfl ?_
   refine l_skip rfl rfl rfl rfl rfl rfl ?_
   refine l_skip rfl rfl rfl rfl rfl rfl ?_
   refine l_skip rfl rfl rfl rfl rfl rfl ?_
   refine l_skip rfl rfl rfl rfl rfl rfl ?_
   refine l_skip rfl rfl rfl rfl rfl rfl ?_
   refine lv (v := .bool false) (e_pick_f rfl) ?_
   refine lv (v := .bool false) e_move ?_
   refine l_skip rfl rfl rfl rfl rfl rfl ?_
   refine l_skip rfl rfl rfl rfl rfl rfl ?_
   refine l_skip rfl rfl rfl rfl rfl rfl ?_
   refine l_skip rfl rfl rfl rfl rfl rfl ?_
   refine l_skip rfl rfl rfl rfl rfl rfl ?_
   refine l_skip rfl rfl rfl rfl rfl rfl ?_
   refine l_skip rfl rfl rfl rfl rfl rfl ?_
   refine lv (v := .bool false) (e_pick_f rfl) ?_
   refine lv (v := .bool false) e_assign ?_
   refine lnf ?_
   refine c_ret ?_
   refine ret1 Tryz.results67 (v := .bool false) rfl ?_
   intro w hw
   exact ⟨congrArg (fun b : Bool => Ending.returned (.bool b)) ((decide_eq_false (fun q => by unfold okA okSpan at q; unfold rightI at *; omega)).symm), st_mask [false] rfl hw⟩
  refine l_skip rfl rfl rfl rfl rfl rfl ?_
  refine l_skip rfl rfl rfl rfl rfl rfl ?_
  refine l_skip rfl rfl rfl rfl rfl rfl ?_
  refine l_skip rfl rfl rfl rfl rfl rfl ?_
  refine lv (v := .bool false) (e_pick_f rfl) ?_
  refine lv (v := .bool false) e_move ?_
  refine l_skip rfl rfl rfl rfl rfl rfl ?_
  refine l_skip rfl rfl rfl rfl rfl rfl ?_
  refine l_skip rfl rfl rfl rfl rfl rfl ?_
  refine l_skip rfl rfl rfl rfl rfl rfl ?_
  refine lv (v := .bool false) (e_pick_f rfl) ?_
  refine lv (v := .bool false) e_move ?_
  refine l_skip rfl rfl rfl rfl rfl rfl ?_
  refine l_skip rfl rfl rfl rfl rfl rfl ?_
  refine l_skip rfl rfl rfl rfl rfl rfl ?_
  refine l_skip rfl rfl rfl rfl rfl rfl ?_
  refine l_skip rfl rfl rfl rfl rfl rfl ?_
  refine l_skip rfl rfl rfl rfl rfl rfl ?_
  refine l_skip rfl rfl rfl rfl rfl rfl ?_
  refine lv (v := .bool false) (e_pick_f rfl) ?_
  refine lv (v := .bool false) e_move ?_
  refine l_skip rfl rfl rfl rfl rfl rfl ?_
  refine l_skip rfl rfl rfl rfl rfl rfl ?_
  refine l_skip rfl rfl rfl rfl rfl rfl ?_
  refine l_skip rfl rfl rfl rfl rfl rfl ?_
  refine l_skip rfl rfl rfl rfl rfl rfl ?_
  refine l_skip rfl rfl rfl rfl rfl rfl ?_
  refine l_skip rfl rfl rfl rfl rfl rfl ?_
  refine lv (v := .bool false) (e_pick_f rfl) ?_
  refine lv (v := .bool false) e_assign ?_
  refine lnf ?_
  refine c_ret ?_
  refine ret1 Tryz.results67 (v := .bool false) rfl ?_
  intro w hw
  exact ⟨congrArg (fun b : Bool => Ending.returned (.bool b)) ((decide_eq_false (fun q => by unfold okA okSpan at q; unfold rightI at *; omega)).symm), st_mask [false] rfl hw⟩
 refine l_skip rfl rfl rfl rfl rfl rfl ?_
 refine l_skip rfl rfl rfl rfl rfl rfl ?_
 refine l_skip rfl rfl rfl rfl rfl rfl ?_
 refine l_skip rfl rfl rfl rfl rfl rfl ?_
 refine lv (v := .bool false) (e_pick_f rfl) ?_
 refine lv (v := .bool false) e_move ?_
 refine l_skip rfl rfl rfl rfl rfl rfl ?_
 refine l_skip rfl rfl rfl rfl rfl rfl ?_
 refine l_skip rfl rfl rfl rfl rfl rfl ?_
 refine l_skip rfl rfl rfl rfl rfl rfl ?_
 refine lv (v := .bool false) (e_pick_f rfl) ?_
 refine lv (v := .bool false) e_move ?_
 refine l_skip rfl rfl rfl rfl rfl rfl ?_
 refine l_skip rfl rfl rfl rfl rfl rfl ?_
 refine l_skip rfl rfl rfl rfl rfl rfl ?_
 refine l_skip rfl rfl rfl rfl rfl rfl ?_
 refine lv (v := .bool false) (e_pick_f rfl) ?_
 refine lv (v := .bool false) e_move ?_
 refine l_skip rfl rfl rfl rfl rfl rfl ?_
 refine l_skip rfl rfl rfl rfl rfl rfl ?_
 refine l_skip rfl rfl rfl rfl rfl rfl ?_
 refine l_skip rfl rfl rfl rfl rfl rfl ?_
 refine l_skip rfl rfl rfl rfl rfl rfl ?_
 refine l_skip rfl rfl rfl rfl rfl rfl ?_
 refine l_skip rfl rfl rfl rfl rfl rfl ?_
 refine lv (v := .bool false) (e_pick_f rfl) ?_
 refine lv (v := .bool false) e_move ?_
 refine l_skip rfl rfl rfl rfl rfl rfl ?_
 refine l_skip rfl rfl rfl rfl rfl rfl ?_
 refine l_skip rfl rfl rfl rfl rfl rfl ?_
 refine l_skip rfl rfl rfl rfl rfl rfl ?_
 refine l_skip rfl rfl rfl rfl rfl rfl ?_
 refine l_skip rfl rfl rfl rfl rfl rfl ?_
 refine l_skip rfl rfl rfl rfl rfl rfl ?_
 refine lv (v := .bool false) (e_pick_f rfl) ?_
 refine lv (v := .bool false) e_assign ?_
 refine lnf ?_
 refine c_ret ?_
 refine ret1 Tryz.results67 (v := .bool false) rfl ?_
 intro w hw
 exact ⟨congrArg (fun b : Bool => Ending.returned (.bool b)) ((decide_eq_false (fun q => by unfold okA okSpan at q; unfold rightI at *; omega)).symm), st_mask [false] rfl hw⟩
set_option maxHeartbeats 4000000 in
theorem rjoin_ok (β : Base) (w : World) (hw : St β [] w) (a b : KA) : Calls Tryz.prog 38 #[.agg (aC a), .agg (aC b)] w fun r w' => r = .returned (.agg (aC (joinR a b))) ∧ St β [] w' := by
 refine enter (n := 45) Tryz.func38 rfl Tryz.ntmps38 rfl ?_ hw
 refine csr ?_
 refine l_mv rfl rfl rfl (m_box (v := .agg (aC a)) rfl) ?_
 rintro _ _ ⟨b1, rfl, rfl⟩
 refine l_mv rfl rfl rfl (m_box (v := .agg (aC b)) rfl) ?_
 rintro _ _ ⟨b2, rfl, rfl⟩
 refine l_mv rfl rfl rfl (m_alloc tf0) ?_
 rintro _ _ ⟨b3, rfl, rfl⟩
 refine lnf ?_
 refine cs2 ?_
 refine c_region ?_
 refine lv (v := .agg (aC a)) (e_load tf4 rfl (k_pt 2 rfl rfl) rfl) ?_
 refine lcf (cl0 (vs := [.agg (aC a)]) tf84 rfl rfl) rfl fun w β1 sb kn hw1 back => (rvalid_ok β1 w hw1 a).mono ?_
 rintro e w' ⟨rfl, hw'⟩
 refine ⟨_, rfl, _, back _ _ hw', ?_⟩
 clear hw1 hw' back kn sb
 refine lv (v := .bool (decide (¬ (okA a)))) (e_not_p (p := okA a) rfl) ?_
 refine lv (v := .bool (decide (¬ (okA a)))) e_move ?_
 refine l_split (s := 8) (p := ¬ (okA a)) rfl (fun hg4 => ?_) (fun hg4 => ?_)
 ·refine l_skip rfl rfl rfl rfl rfl rfl ?_
  refine l_skip rfl rfl rfl rfl rfl rfl ?_
  refine l_skip rfl rfl rfl rfl rfl rfl ?_
  refine lv (v := .bool true) (e_pick_t rfl) ?_
  refine lnf ?_
  refine c_yes rfl ?_
  refine csr ?_
  refine lv (v := .agg #[.int .i64 (0), .int .i64 (0), .int .i64 (0), .int .i64 (0)]) (e_build tf0 tf3 (vs := []) (cells := #[.int .i64 (0), .int .i64 (0), .int .i64 (0), .int .i64 (0)]) rfl rfl) ?_
  refine lu (m_store 0 tf4 (cs' := #[.int .i64 (0), .int .i64 (0), .int .i64 (0), .int .i64 (0)]) rfl rfl rfl rfl rfl rfl rfl) ?_
  refine lnf ?_
  refine c_ret ?_
  refine f_then_ret ?_
  refine retG (m := [.agg #[.int .i64 (0), .int .i64 (0), .int .i64 (0), .int .i64 (0)]]) Tryz.results38 ⟨rd_cell tf4 rfl (k_pt 0 rfl rfl) rfl, trivial⟩ rfl ?_
  intro w hw
  exact ⟨by rw [show joinR a b = zeroA from if_neg (by simp_all)] <;> rfl, st_mask [false, false, false] rfl hw⟩
 refine g_val (v := .agg (aC b)) rfl rfl rfl rfl rfl (e_load tf4 rfl (k_pt 1 rfl rfl) rfl) ?_
 refine g_call rfl rfl rfl rfl rfl (cl0 (vs := [.agg (aC b)]) tf84 rfl rfl) ?_
 intro w hw
 obtain ⟨β1, sb, kn, hw1, back⟩ := St.frame_all hw
 refine (rvalid_ok β1 w hw1 b).mono ?_
 rintro e w' ⟨rfl, hw'⟩
 refine ⟨_, rfl, _, back _ _ hw', ?_⟩
 clear hw hw1 hw' back kn sb
 refine g_val (v := .bool (decide (¬ (okA b)))) rfl rfl rfl rfl rfl (e_not_p (p := okA b) rfl) ?_
 refine lv (v := .bool (decide (¬ (okA b)))) (e_pick_f rfl) ?_
 refine lnf ?_
 refine c_if (¬ (okA b)) rfl (fun hc5 => ?_) (fun hc5 => ?_)
 ·refine csr ?_
  refine lv (v := .agg #[.int .i64 (0), .int .i64 (0), .int .i64 (0), .int .i64 (0)]) (e_build tf0 tf3 (vs := []) (cells := #[.int .i64 (0), .int .i64 (0), .int .i64 (0), .int .i64 (0)]) rfl rfl) ?_
  refine lu (m_store 0 tf4 (cs' := #[.int .i64 (0), .int .i64 (0), .int .i64 (0), .int .i64 (0)]) rfl rfl rfl rfl rfl rfl rfl) ?_
  refine lnf ?_
  refine c_ret ?_
  refine f_then_ret ?_
  refine retG (m := [.agg #[.int .i64 (0), .int .i64 (0), .int .i64 (0), .int .i64 (0)]]) Tryz.results38 ⟨rd_cell tf4 rfl (k_pt 0 rfl rfl) rfl, trivial⟩ rfl ?_
  intro w hw
  exact ⟨by rw [show joinR a b = zeroA from if_neg (by simp_all)] <;> rfl, st_mask [false, false, false] rfl hw⟩
 refine csk ?_
 refine csr ?_
 refine lv (v := pp b1 0) (e_fieldPt rfl tf81) ?_
 refine lv (v := pp b1 0) (e_fieldPt rfl tf10) ?_
 refine lv (v := Ix (a.lx)) (e_load1 tf11 rfl (k_pt 2 rfl rfl)) ?_
 refine lv (v := pp b2 0) (e_fieldPt rfl tf81) ?_
 refine lv (v := pp b2 0) (e_fieldPt rfl tf10) ?_
 refine lv (v := Ix (b.lx)) (e_load1 tf11 rfl (k_pt 1 rfl rfl)) ?_
 refine lv (v := Ix (min (a.lx) (b.lx))) (e_min (a := (a.lx)) (b := (b.lx)) rfl rfl) ?_
 refine lv (v := pp b1 0) (e_fieldPt rfl tf81) ?_
 refine lv (v := pp b1 1) (e_fieldPt rfl tf12) ?_
 refine lv (v := Ix (a.ly)) (e_load1 tf11 rfl (k_pt 2 rfl rfl)) ?_
 refine lv (v := pp b2 0) (e_fieldPt rfl tf81) ?_
 refine lv (v := pp b2 1) (e_fieldPt rfl tf12) ?_
 refine lv (v := Ix (b.ly)) (e_load1 tf11 rfl (k_pt 1 rfl rfl)) ?_
 refine lv (v := Ix (min (a.ly) (b.ly))) (e_min (a := (a.ly)) (b := (b.ly)) rfl rfl) ?_
 refine lv (v := .agg #[Ix (min (a.lx) (b.lx)), Ix (min (a.ly) (b.ly))]) (e_build tf8 tf13 (vs := [(0, Ix (min (a.lx) (b.lx))), (1, Ix (min (a.ly) (b.ly)))]) (cells := #[Ix (min (a.lx) (b.lx)), Ix (min (a.ly) (b.ly))]) rfl rfl) ?_
 refine lv (v := pp b1 2) (e_fieldPt rfl tf83) ?_
 refine lv (v := pp b1 2) (e_fieldPt rfl tf10) ?_
 refine lv (v := Ix (a.hx)) (e_load1 tf11 rfl (k_pt 2 rfl rfl)) ?_
 refine lv (v := pp b2 2) (e_fieldPt rfl tf83) ?_
 refine lv (v := pp b2 2) (e_fieldPt rfl tf10) ?_
 refine lv (v := Ix (b.hx)) (e_load1 tf11 rfl (k_pt 1 rfl rfl)) ?_
 refine lv (v := Ix (max (a.hx) (b.hx))) (e_max (a := (a.hx)) (b := (b.hx)) rfl rfl) ?_
 refine lv (v := pp b1 2) (e_fieldPt rfl tf83) ?_
 refine lv (v := pp b1 3) (e_fieldPt rfl tf12) ?_
 refine lv (v := Ix (a.hy)) (e_load1 tf11 rfl (k_pt 2 rfl rfl)) ?_
 refine lv (v := pp b2 2) (e_fieldPt rfl tf83) ?_
 refine lv (v := pp b2 3) (e_fieldPt rfl tf12) ?_
 refine lv (v := Ix (b.hy)) (e_load1 tf11 rfl (k_pt 1 rfl rfl)) ?_
 refine lv (v := Ix (max (a.hy) (b.hy))) (e_max (a := (a.hy)) (b := (b.hy)) rfl rfl) ?_
 refine lv (v := .agg #[Ix (max (a.hx) (b.hx)), Ix (max (a.hy) (b.hy))]) (e_build tf8 tf13 (vs := [(0, Ix (max (a.hx) (b.hx))), (1, Ix (max (a.hy) (b.hy)))]) (cells := #[Ix (max (a.hx) (b.hx)), Ix (max (a.hy) (b.hy))]) rfl rfl) ?_
 refine lv (v := .agg #[Ix (min (a.lx) (b.lx)), Ix (min (a.ly) (b.ly)), Ix (max (a.hx) (b.hx)), Ix (max (a.hy) (b.hy))]) (e_build tf0 tf3 (vs := [(0, .agg #[Ix (min (a.lx) (b.lx)), Ix (min (a.ly) (b.ly))]), (1, .agg #[Ix (max (a.hx) (b.hx)), Ix (max (a.hy) (b.hy))])]) (cells := #[Ix (min (a.lx) (b.lx)), Ix (min (a.ly) (b.ly)), Ix (max (a.hx) (b.hx)), Ix (max (a.hy) (b.hy))]) rfl rfl) ?_
 refine lu (m_store 0 tf4 (cs' := #[Ix (min (a.lx) (b.lx)), Ix (min (a.ly) (b.ly)), Ix (max (a.hx) (b.hx)), Ix (max (a.hy) (b.hy))]) rfl rfl rfl rfl rfl rfl rfl) ?_
 refine lnf ?_
 refine c_ret ?_
 refine retG (m := [.agg #[Ix (min (a.lx) (b.lx)), Ix (min (a.ly) (b.ly)), Ix (max (a.hx) (b.hx)), Ix (max (a.hy) (b.hy))]]) Tryz.results38 ⟨rd_cell tf4 rfl (k_pt 0 rfl rfl) rfl, trivial⟩ rfl ?_
 intro w hw
 exact ⟨by rw [show joinR a b = joinA a b from if_pos (by simp_all)] <;> rfl, st_mask [false, false, false] rfl hw⟩
set_option maxHeartbeats 4000000 in
theorem rreach_ok (β : Base) (w : World) (hw : St β [] w) (b : KB) (gx gy : Int) (hgx : -9223372036854775808 ≤ gx ∧ gx ≤ 9223372036854775807) (hgy : -9223372036854775808 ≤ gy ∧ gy ≤ 9223372036854775807) : Calls Tryz.prog 12 #[.agg (bC b), .agg #[Ix gx, Ix gy]] w fun r w' => r = .returned (.agg (aC (reachA b gx gy))) ∧ St β [] w' := by
 refine enter (n := 54) Tryz.func12 rfl Tryz.ntmps12 rfl ?_ hw
 refine csr ?_
 refine l_mv rfl rfl rfl (m_box (v := .agg (bC b)) rfl) ?_
 rintro _ _ ⟨b1, rfl, rfl⟩
 refine l_mv rfl rfl rfl (m_box (v := .agg #[Ix (gx), Ix (gy)]) rfl) ?_
 rintro _ _ ⟨b2, rfl, rfl⟩
 refine l_mv rfl rfl rfl (m_alloc tf0) ?_
 rintro _ _ ⟨b3, rfl, rfl⟩
 refine lnf ?_
 refine cs2 ?_
 refine c_region ?_
 refine lv (v := .agg (bC b)) (e_load tf1 rfl (k_pt 2 rfl rfl) rfl) ?_
 refine lcf (cl0 (vs := [.agg (bC b)]) tf85 rfl rfl) rfl fun w β1 sb kn hw1 back => (valid5_ok β1 w hw1 b).mono ?_
 rintro e w' ⟨rfl, hw'⟩
 refine ⟨_, rfl, _, back _ _ hw', ?_⟩
 clear hw1 hw' back kn sb
 refine lv (v := .bool (decide (¬ (okB b)))) (e_not_p (p := okB b) rfl) ?_
 refine lv (v := .bool (decide (¬ (okB b)))) e_move ?_
 refine l_split (s := 12) (p := ¬ (okB b)) rfl (fun hg4 => ?_) (fun hg4 => ?_)
 ·refine l_skip rfl rfl rfl rfl rfl rfl ?_
  refine l_skip rfl rfl rfl rfl rfl rfl ?_
  refine l_skip rfl rfl rfl rfl rfl rfl ?_
  refine lv (v := .bool true) (e_pick_t rfl) ?_
  refine lnf ?_
  refine c_yes rfl ?_
  refine csr ?_
  refine lv (v := .agg #[.int .i64 (0), .int .i64 (0), .int .i64 (0), .int .i64 (0)]) (e_build tf0 tf3 (vs := []) (cells := #[.int .i64 (0), .int .i64 (0), .int .i64 (0), .int .i64 (0)]) rfl rfl) ?_
  refine lu (m_store 0 tf4 (cs' := #[.int .i64 (0), .int .i64 (0), .int .i64 (0), .int .i64 (0)]) rfl rfl rfl rfl rfl rfl rfl) ?_
  refine lnf ?_
  refine c_ret ?_
  refine f_then_ret ?_
  refine retG (m := [.agg #[.int .i64 (0), .int .i64 (0), .int .i64 (0), .int .i64 (0)]]) Tryz.results12 ⟨rd_cell tf4 rfl (k_pt 0 rfl rfl) rfl, trivial⟩ rfl ?_
  intro w hw
  exact ⟨by rw [show reachA b gx gy = zeroA from if_neg (fun q => by simp_all)] <;> rfl, st_mask [false, false, false] rfl hw⟩
 refine g_val (v := .agg #[Ix (gx), Ix (gy)]) rfl rfl rfl rfl rfl (e_load tf5 rfl (k_pt 1 rfl rfl) rfl) ?_
 refine g_call rfl rfl rfl rfl rfl (cl0 (vs := [.agg #[Ix (gx), Ix (gy)]]) tf86 rfl rfl) ?_
 intro w hw
 obtain ⟨β1, sb, kn, hw1, back⟩ := St.frame_all hw
 refine (pull7_ok β1 w hw1 gx gy).mono ?_
 rintro e w' ⟨rfl, hw'⟩
 refine ⟨_, rfl, _, back _ _ hw', ?_⟩
 clear hw hw1 hw' back kn sb
 refine g_val (v := .bool (decide (¬ (okV gx gy)))) rfl rfl rfl rfl rfl (e_not_p (p := okV gx gy) rfl) ?_
 refine lv (v := .bool (decide (¬ (okV gx gy)))) (e_pick_f rfl) ?_
 refine lnf ?_
 refine c_if (¬ (okV gx gy)) rfl (fun hc5 => ?_) (fun hc5 => ?_)
 ·refine csr ?_
  refine lv (v := .agg #[.int .i64 (0), .int .i64 (0), .int .i64 (0), .int .i64 (0)]) (e_build tf0 tf3 (vs := []) (cells := #[.int .i64 (0), .int .i64 (0), .int .i64 (0), .int .i64 (0)]) rfl rfl) ?_
  refine lu (m_store 0 tf4 (cs' := #[.int .i64 (0), .int .i64 (0), .int .i64 (0), .int .i64 (0)]) rfl rfl rfl rfl rfl rfl rfl) ?_
  refine lnf ?_
  refine c_ret ?_
  refine f_then_ret ?_
  refine retG (m := [.agg #[.int .i64 (0), .int .i64 (0), .int .i64 (0), .int .i64 (0)]]) Tryz.results12 ⟨rd_cell tf4 rfl (k_pt 0 rfl rfl) rfl, trivial⟩ rfl ?_
  intro w hw
  exact ⟨by rw [show reachA b gx gy = zeroA from if_neg (fun q => by simp_all)] <;> rfl, st_mask [false, false, false] rfl hw⟩
 refine csk ?_
 refine c_seq ?_
 have hokb : okB b := (Decidable.not_not.1 hg4)
 have hokv : okV gx gy := (Decidable.not_not.1 hc5)
 obtain ⟨⟨hs1, hs2⟩, hs3, hs4⟩ := speed_bd b gx gy
 obtain ⟨hb1, hb2, hb3, hb4, hb5, hb6, hb7, -, -⟩ := id hokb
 refine c_region ?_
 refine lv (v := .agg (bC b)) (e_load tf1 rfl (k_pt 2 rfl rfl) rfl) ?_
 refine lcf (cl0 (vs := [.agg (bC b)]) tf87 rfl rfl) rfl fun w β1 sb kn hw1 back => (bounds5_ok β1 w hw1 b (Decidable.not_not.1 hg4)).mono ?_
 rintro e w' ⟨rfl, hw'⟩
 refine ⟨_, rfl, _, back _ _ hw', ?_⟩
 clear hw1 hw' back kn sb
 refine lv (v := .tuple #[.agg #[Ix (b.x - b.w), Ix (b.y - b.h)], .agg #[Ix (b.x + b.w), Ix (b.y + b.h)]]) e_move ?_
 refine lv (v := .agg #[Ix (b.x - b.w), Ix (b.y - b.h)]) (e_extract (vs := #[.agg #[Ix (b.x - b.w), Ix (b.y - b.h)], .agg #[Ix (b.x + b.w), Ix (b.y + b.h)]]) rfl rfl) ?_
 refine lv (v := .agg #[Ix (b.x + b.w), Ix (b.y + b.h)]) (e_extract (vs := #[.agg #[Ix (b.x - b.w), Ix (b.y - b.h)], .agg #[Ix (b.x + b.w), Ix (b.y + b.h)]]) rfl rfl) ?_
 refine l_mv rfl rfl rfl (m_alloc tf8) ?_
 rintro _ _ ⟨b6, rfl, rfl⟩
 refine l_mv rfl rfl rfl (m_alloc tf8) ?_
 rintro _ _ ⟨b7, rfl, rfl⟩
 refine lu (m_store 1 tf5 (cs' := #[Ix (b.x - b.w), Ix (b.y - b.h)]) rfl rfl rfl rfl rfl rfl rfl) ?_
 refine lu (m_store 0 tf5 (cs' := #[Ix (b.x + b.w), Ix (b.y + b.h)]) rfl rfl rfl rfl rfl rfl rfl) ?_
 refine lnc ?_
 refine lv (v := .agg (bC b)) (e_load tf1 rfl (k_pt 4 rfl rfl) rfl) ?_
 refine lv (v := .agg #[Ix (gx), Ix (gy)]) (e_load tf5 rfl (k_pt 3 rfl rfl) rfl) ?_
 refine lcf (cl0 (vs := [.agg (bC b), .agg #[Ix (gx), Ix (gy)]]) tf88 rfl rfl) rfl fun w β1 sb kn hw1 back => (speed7_ok β1 w hw1 b gx gy).mono ?_
 rintro e w' ⟨rfl, hw'⟩
 refine ⟨_, rfl, _, back _ _ hw', ?_⟩
 clear hw1 hw' back kn sb
 refine l_mv rfl rfl rfl (m_alloc tf8) ?_
 rintro _ _ ⟨b8, rfl, rfl⟩
 refine lu (m_store 0 tf5 (cs' := #[Ix (speedX b gx gy), Ix (speedY b gx gy)]) rfl rfl rfl rfl rfl rfl rfl) ?_
 refine lnc ?_
 refine lv (v := pp b6 0) (e_fieldPt rfl tf10) ?_
 refine lv (v := Ix (b.x - b.w)) (e_load1 tf11 rfl (k_pt 2 rfl rfl)) ?_
 refine lv (v := pp b8 0) (e_fieldPt rfl tf10) ?_
 refine lv (v := Ix (speedX b gx gy)) (e_load1 tf11 rfl (k_pt 0 rfl rfl)) ?_
 refine lv (v := Ix ((b.x - b.w) + (speedX b gx gy))) (e_add (a := (b.x - b.w)) (b := (speedX b gx gy)) rfl rfl (i64w (by omega))) ?_
 refine lv (v := pp b6 1) (e_fieldPt rfl tf12) ?_
 refine lv (v := Ix (b.y - b.h)) (e_load1 tf11 rfl (k_pt 2 rfl rfl)) ?_
 refine lv (v := pp b8 1) (e_fieldPt rfl tf12) ?_
 refine lv (v := Ix (speedY b gx gy)) (e_load1 tf11 rfl (k_pt 0 rfl rfl)) ?_
 refine lv (v := Ix ((b.y - b.h) + (speedY b gx gy))) (e_add (a := (b.y - b.h)) (b := (speedY b gx gy)) rfl rfl (i64w (by omega))) ?_
 refine lv (v := .agg #[Ix ((b.x - b.w) + (speedX b gx gy)), Ix ((b.y - b.h) + (speedY b gx gy))]) (e_build tf8 tf13 (vs := [(0, Ix ((b.x - b.w) + (speedX b gx gy))), (1, Ix ((b.y - b.h) + (speedY b gx gy)))]) (cells := #[Ix ((b.x - b.w) + (speedX b gx gy)), Ix ((b.y - b.h) + (speedY b gx gy))]) rfl rfl) ?_
 refine lv (v := pp b7 0) (e_fieldPt rfl tf10) ?_
 refine lv (v := Ix (b.x + b.w)) (e_load1 tf11 rfl (k_pt 1 rfl rfl)) ?_
 refine lv (v := pp b8 0) (e_fieldPt rfl tf10) ?_
 refine lv (v := Ix (speedX b gx gy)) (e_load1 tf11 rfl (k_pt 0 rfl rfl)) ?_
 refine lv (v := Ix ((b.x + b.w) + (speedX b gx gy))) (e_add (a := (b.x + b.w)) (b := (speedX b gx gy)) rfl rfl (i64w (by omega))) ?_
 refine lv (v := pp b7 1) (e_fieldPt rfl tf12) ?_
 refine lv (v := Ix (b.y + b.h)) (e_load1 tf11 rfl (k_pt 1 rfl rfl)) ?_
 refine lv (v := pp b8 1) (e_fieldPt rfl tf12) ?_
 refine lv (v := Ix (speedY b gx gy)) (e_load1 tf11 rfl (k_pt 0 rfl rfl)) ?_
 refine lv (v := Ix ((b.y + b.h) + (speedY b gx gy))) (e_add (a := (b.y + b.h)) (b := (speedY b gx gy)) rfl rfl (i64w (by omega))) ?_
 refine lv (v := .agg #[Ix ((b.x + b.w) + (speedX b gx gy)), Ix ((b.y + b.h) + (speedY b gx gy))]) (e_build tf8 tf13 (vs := [(0, Ix ((b.x + b.w) + (speedX b gx gy))), (1, Ix ((b.y + b.h) + (speedY b gx gy)))]) (cells := #[Ix ((b.x + b.w) + (speedX b gx gy)), Ix ((b.y + b.h) + (speedY b gx gy))]) rfl rfl) ?_
 refine lv (v := .agg #[Ix ((b.x - b.w) + (speedX b gx gy)), Ix ((b.y - b.h) + (speedY b gx gy)), Ix ((b.x + b.w) + (speedX b gx gy)), Ix ((b.y + b.h) + (speedY b gx gy))]) (e_build tf0 tf3 (vs := [(0, .agg #[Ix ((b.x - b.w) + (speedX b gx gy)), Ix ((b.y - b.h) + (speedY b gx gy))]), (1, .agg #[Ix ((b.x + b.w) + (speedX b gx gy)), Ix ((b.y + b.h) + (speedY b gx gy))])]) (cells := #[Ix ((b.x - b.w) + (speedX b gx gy)), Ix ((b.y - b.h) + (speedY b gx gy)), Ix ((b.x + b.w) + (speedX b gx gy)), Ix ((b.y + b.h) + (speedY b gx gy))]) rfl rfl) ?_
 refine l_mv rfl rfl rfl (m_alloc tf0) ?_
 rintro _ _ ⟨b9, rfl, rfl⟩
 refine lu (m_store 0 tf4 (cs' := #[Ix ((b.x - b.w) + (speedX b gx gy)), Ix ((b.y - b.h) + (speedY b gx gy)), Ix ((b.x + b.w) + (speedX b gx gy)), Ix ((b.y + b.h) + (speedY b gx gy))]) rfl rfl rfl rfl rfl rfl rfl) ?_
 refine lnc ?_
 refine lv (v := .agg #[Ix (b.x - b.w), Ix (b.y - b.h)]) (e_load tf5 rfl (k_pt 3 rfl rfl) rfl) ?_
 refine lv (v := .agg #[Ix (b.x + b.w), Ix (b.y + b.h)]) (e_load tf5 rfl (k_pt 2 rfl rfl) rfl) ?_
 refine lv (v := .agg #[Ix (b.x - b.w), Ix (b.y - b.h), Ix (b.x + b.w), Ix (b.y + b.h)]) (e_build tf0 tf3 (vs := [(0, .agg #[Ix (b.x - b.w), Ix (b.y - b.h)]), (1, .agg #[Ix (b.x + b.w), Ix (b.y + b.h)])]) (cells := #[Ix (b.x - b.w), Ix (b.y - b.h), Ix (b.x + b.w), Ix (b.y + b.h)]) rfl rfl) ?_
 refine lv (v := .agg #[Ix ((b.x - b.w) + (speedX b gx gy)), Ix ((b.y - b.h) + (speedY b gx gy)), Ix ((b.x + b.w) + (speedX b gx gy)), Ix ((b.y + b.h) + (speedY b gx gy))]) (e_load tf4 rfl (k_pt 0 rfl rfl) rfl) ?_
 refine lcf (cl0 (vs := [.agg #[Ix (b.x - b.w), Ix (b.y - b.h), Ix (b.x + b.w), Ix (b.y + b.h)], .agg #[Ix ((b.x - b.w) + (speedX b gx gy)), Ix ((b.y - b.h) + (speedY b gx gy)), Ix ((b.x + b.w) + (speedX b gx gy)), Ix ((b.y + b.h) + (speedY b gx gy))]]) tf89 rfl rfl) rfl fun w β1 sb kn hw1 back => (rjoin_ok β1 w hw1 (⟨b.x - b.w, b.y - b.h, b.x + b.w, b.y + b.h⟩ : KA) (⟨b.x - b.w + speedX b gx gy, b.y - b.h + speedY b gx gy, b.x + b.w + speedX b gx gy, b.y + b.h + speedY b gx gy⟩ : KA)).mono ?_
 rintro e w' ⟨rfl, hw'⟩
 refine ⟨_, rfl, _, back _ _ hw', ?_⟩
 clear hw1 hw' back kn sb
 refine lu (m_store 4 tf4 (cs' := (aC (joinR (⟨b.x - b.w, b.y - b.h, b.x + b.w, b.y + b.h⟩ : KA) (⟨b.x - b.w + speedX b gx gy, b.y - b.h + speedY b gx gy, b.x + b.w + speedX b gx gy, b.y + b.h + speedY b gx gy⟩ : KA)))) rfl rfl rfl rfl rfl rfl rfl) ?_
 refine lnf ?_
 refine c_ret ?_
 refine retG (m := [.agg (aC (joinR (⟨b.x - b.w, b.y - b.h, b.x + b.w, b.y + b.h⟩ : KA) (⟨b.x - b.w + speedX b gx gy, b.y - b.h + speedY b gx gy, b.x + b.w + speedX b gx gy, b.y + b.h + speedY b gx gy⟩ : KA)))]) Tryz.results12 ⟨rd_cell tf4 rfl (k_pt 4 rfl rfl) rfl, trivial⟩ rfl ?_
 intro w hw
 exact ⟨by rw [← reach_join hokb hokv] <;> rfl, st_mask [false, false, false, false, false, false, false] rfl hw⟩
set_option maxHeartbeats 4000000 in
theorem reachL_ok (β : Base) (w : World) (hw : St β [] w) (b : KB) (gx gy : Int) (hgx : -9223372036854775808 ≤ gx ∧ gx ≤ 9223372036854775807) (hgy : -9223372036854775808 ≤ gy ∧ gy ≤ 9223372036854775807) : Calls Tryz.prog 4 #[.agg (bC b), .agg #[Ix gx, Ix gy]] w fun r w' => r = .returned (.bool true) ∧ St β [] w' := by
 refine enter (n := 24) Tryz.func4 rfl Tryz.ntmps4 rfl ?_ hw
 refine csr ?_
 refine l_mv rfl rfl rfl (m_box (v := .agg (bC b)) rfl) ?_
 rintro _ _ ⟨b1, rfl, rfl⟩
 refine l_mv rfl rfl rfl (m_box (v := .agg #[Ix (gx), Ix (gy)]) rfl) ?_
 rintro _ _ ⟨b2, rfl, rfl⟩
 refine lv (v := .bool false) e_assign ?_
 refine lnf ?_
 refine c_seq ?_
 refine c_any [⟨[], [], [0], [5], fun f => f 5 = .agg (bC b)⟩, ⟨[], [], [1], [6], fun f => f 6 = .agg #[Ix (gx), Ix (gy)]⟩, ⟨[0, 1], [0, 1], [], [7], fun f => f 7 = .agg #[Ix (speedX b gx gy), Ix (speedY b gx gy)]⟩, ⟨[], [], [0], [8], fun f => f 8 = .agg (bC b)⟩, ⟨[], [], [1], [9], fun f => f 9 = .agg #[Ix (gx), Ix (gy)]⟩, ⟨[0, 1, 2, 3, 4], [3, 4], [], [10], fun f => f 10 = .agg #[Ix (speedX b gx gy), Ix (speedY b gx gy)]⟩, ⟨(List.range 6), [2, 5], [], [11], fun f => f 11 = .bool true⟩, ⟨(List.range 7), [6], [], [12], fun f => f 12 = .bool true⟩, ⟨(List.range 8), [7], [0], [13], fun f => f 13 = .agg (bC b)⟩, ⟨(List.range 8), [7], [1], [14], fun f => f 14 = .agg #[Ix (gx), Ix (gy)]⟩, ⟨(List.range 10), [8, 9, 7], [], [15], fun f => f 15 = .agg (aC (reachA b gx gy))⟩, ⟨(List.range 8), [7], [0], [16], fun f => f 16 = .agg (bC b)⟩, ⟨(List.range 8), [7], [1], [17], fun f => f 17 = .agg #[Ix (gx), Ix (gy)]⟩, ⟨(List.range 13), [11, 12, 7], [], [18], fun f => f 18 = .agg (aC (reachA b gx gy))⟩, ⟨(List.range 14), [10, 13, 7], [], [19], fun f => f 19 = .bool true⟩, ⟨(List.range 15), [7, 14], [], [20], fun f => f 20 = .bool true⟩, ⟨(List.range 16), [15], [], [21], fun f => f 21 = .bool true⟩, ⟨(List.range 17), [16], [], [22], fun f => f 22 = .bool true⟩, ⟨(List.range 18), [16, 17], [], [23], fun f => f 23 = .bool true⟩, ⟨(List.range 19), [18], [], [4], fun f => f 4 = .bool true⟩] [⟨none, none, [1, 4, 9, 12], [], fun _ => pt b2 (.cells #[Ix (gx), Ix (gy)] 25)⟩, ⟨none, none, [0, 3, 8, 11], [], fun _ => pt b1 (.cells (bC b) 33)⟩] [(2, pp b1 0), (3, pp b2 0)] [] [] (by kernel_rfl) (by kernel_rfl) (by kernel_rfl) (by kernel_rfl) rfl ⟨rfl, rfl, trivial⟩ ⟨?_, ?_, ?_, ?_, ?_, ?_, ?_, ?_, ?_, ?_, ?_, ?_, ?_, ?_, ?_, ?_, ?_, ?_, ?_, ?_, trivial⟩ ?_
 ·rintro f M - ⟨i0, -⟩
  exact obv (L' := pt b1 (.cells (bC b) 33) :: M) (up_cons (d := 2) rfl i0) rfl (e_load tf1 rfl (k_pt 0 rfl rfl) rfl) (perm_front 0 rfl) (by rfl)
 ·rintro f M - ⟨i0, -⟩
  exact obv (L' := pt b2 (.cells #[Ix (gx), Ix (gy)] 25) :: M) (up_cons (d := 3) rfl i0) rfl (e_load tf5 rfl (k_pt 0 rfl rfl) rfl) (perm_front 0 rfl) (by rfl)
 ·rintro f M ⟨k0, k1, -⟩ -
  refine ob_start (L' := M) (by rfl) (up_cons (d := 6) (up_cons (d := 5) rfl k0) k1) ?_
  refine lcf (cl0 (vs := [.agg (bC b), .agg #[Ix (gx), Ix (gy)]]) tf9 rfl rfl) rfl fun w β1 sb kn hw1 back => (speed_ok β1 w hw1 b gx gy (by omega) (by omega)).mono ?_
  rintro e w' ⟨rfl, hw'⟩
  refine ⟨_, rfl, _, back _ _ hw', ?_⟩
  clear hw1 hw' back kn sb
  refine l_nil ?_
  exact f_owes_d (up_cons (d := 6) (up_cons (d := 5) rfl k0) k1) rfl (List.Perm.refl _)
 ·rintro f M - ⟨i0, -⟩
  exact obv (L' := pt b1 (.cells (bC b) 33) :: M) (up_cons (d := 2) rfl i0) rfl (e_load tf1 rfl (k_pt 0 rfl rfl) rfl) (perm_front 0 rfl) (by rfl)
 ·rintro f M - ⟨i0, -⟩
  exact obv (L' := pt b2 (.cells #[Ix (gx), Ix (gy)] 25) :: M) (up_cons (d := 3) rfl i0) rfl (e_load tf5 rfl (k_pt 0 rfl rfl) rfl) (perm_front 0 rfl) (by rfl)
 ·rintro f M ⟨k0, k1, -⟩ -
  refine ob_start (L' := M) (by rfl) (up_cons (d := 9) (up_cons (d := 8) rfl k0) k1) ?_
  refine lcf (cl0 (vs := [.agg (bC b), .agg #[Ix (gx), Ix (gy)]]) tf88 rfl rfl) rfl fun w β1 sb kn hw1 back => (speed7_ok β1 w hw1 b gx gy).mono ?_
  rintro e w' ⟨rfl, hw'⟩
  refine ⟨_, rfl, _, back _ _ hw', ?_⟩
  clear hw1 hw' back kn sb
  refine l_nil ?_
  exact f_owes_d (up_cons (d := 9) (up_cons (d := 8) rfl k0) k1) rfl (List.Perm.refl _)
 ·rintro f M ⟨k0, k1, -⟩ -
  exact ob0 (up_cons (d := 10) (up_cons (d := 7) rfl k0) k1) rfl ((ev_t ⟨rfl, rfl⟩ (e_eql_t (xs := [Ix (speedX b gx gy), Ix (speedY b gx gy)]) (ys := [Ix (speedX b gx gy), Ix (speedY b gx gy)]) tf90 tf91 tf92 rfl rfl rfl rfl vec_eq))) (.refl _)
 ·rintro f M ⟨k0, -⟩ -
  exact ob0 (up_cons (d := 11) rfl k0) rfl e_move (.refl _)
 ·rintro f M ⟨k0, -⟩ ⟨i0, -⟩
  exact obg (L' := pt b1 (.cells (bC b) 33) :: M) (v := .agg (bC b)) (up_cons (d := 12) (up_cons (d := 2) rfl i0) k0) (e_load tf1 rfl (k_pt 0 rfl rfl) rfl) rfl rfl rfl rfl (perm_front 0 rfl) (by rfl)
 ·rintro f M ⟨k0, -⟩ ⟨i0, -⟩
  exact obg (L' := pt b2 (.cells #[Ix (gx), Ix (gy)] 25) :: M) (v := .agg #[Ix (gx), Ix (gy)]) (up_cons (d := 12) (up_cons (d := 3) rfl i0) k0) (e_load tf5 rfl (k_pt 0 rfl rfl) rfl) rfl rfl rfl rfl (perm_front 0 rfl) (by rfl)
 ·rintro f M ⟨k0, k1, k2, -⟩ -
  refine ob_start (L' := M) (by rfl) (up_cons (d := 12) (up_cons (d := 14) (up_cons (d := 13) rfl k0) k1) k2) ?_
  refine g_call rfl rfl rfl rfl rfl (cl0 (vs := [.agg (bC b), .agg #[Ix (gx), Ix (gy)]]) tf41 rfl rfl) ?_
  intro w hw
  obtain ⟨β1, sb, kn, hw1, back⟩ := St.frame_all hw
  refine (reachA_ok β1 w hw1 b gx gy (by omega) (by omega)).mono ?_
  rintro e w' ⟨rfl, hw'⟩
  refine ⟨_, rfl, _, back _ _ hw', ?_⟩
  clear hw hw1 hw' back kn sb
  refine l_nil ?_
  exact f_owes_d (up_cons (d := 12) (up_cons (d := 14) (up_cons (d := 13) rfl k0) k1) k2) rfl (List.Perm.refl _)
 ·rintro f M ⟨k0, -⟩ ⟨i0, -⟩
  exact obg (L' := pt b1 (.cells (bC b) 33) :: M) (v := .agg (bC b)) (up_cons (d := 12) (up_cons (d := 2) rfl i0) k0) (e_load tf1 rfl (k_pt 0 rfl rfl) rfl) rfl rfl rfl rfl (perm_front 0 rfl) (by rfl)
 ·rintro f M ⟨k0, -⟩ ⟨i0, -⟩
  exact obg (L' := pt b2 (.cells #[Ix (gx), Ix (gy)] 25) :: M) (v := .agg #[Ix (gx), Ix (gy)]) (up_cons (d := 12) (up_cons (d := 3) rfl i0) k0) (e_load tf5 rfl (k_pt 0 rfl rfl) rfl) rfl rfl rfl rfl (perm_front 0 rfl) (by rfl)
 ·rintro f M ⟨k0, k1, k2, -⟩ -
  refine ob_start (L' := M) (by rfl) (up_cons (d := 12) (up_cons (d := 17) (up_cons (d := 16) rfl k0) k1) k2) ?_
  refine g_call rfl rfl rfl rfl rfl (cl0 (vs := [.agg (bC b), .agg #[Ix (gx), Ix (gy)]]) tf93 rfl rfl) ?_
  intro w hw
  obtain ⟨β1, sb, kn, hw1, back⟩ := St.frame_all hw
  refine (rreach_ok β1 w hw1 b gx gy (by omega) (by omega)).mono ?_
  rintro e w' ⟨rfl, hw'⟩
  refine ⟨_, rfl, _, back _ _ hw', ?_⟩
  clear hw hw1 hw' back kn sb
  refine l_nil ?_
  exact f_owes_d (up_cons (d := 12) (up_cons (d := 17) (up_cons (d := 16) rfl k0) k1) k2) rfl (List.Perm.refl _)
 ·rintro f M ⟨k0, k1, k2, -⟩ -
  exact obg (L' := M) (v := .bool true) (up_cons (d := 12) (up_cons (d := 18) (up_cons (d := 15) rfl k0) k1) k2) ((ev_t rfl (e_eql_t (xs := (areaE (reachA b gx gy))) (ys := (areaE (reachA b gx gy))) tf78 tf79 tf80 rfl rfl rfl rfl area_eq))) rfl rfl rfl rfl (.refl _) (by rfl)
 ·rintro f M ⟨k0, k1, -⟩ -
  exact ob0 (up_cons (d := 19) (up_cons (d := 12) rfl k0) k1) rfl (e_pick_t rfl) (.refl _)
 ·rintro f M ⟨k0, -⟩ -
  exact ob0 (up_cons (d := 20) rfl k0) rfl e_move (.refl _)
 ·rintro f M ⟨k0, -⟩ -
  refine ob_start (L' := M) (by rfl) (up_cons (d := 21) rfl k0) ?_
  refine g_call rfl rfl rfl rfl rfl (cl0 (vs := []) tf94 rfl rfl) ?_
  intro w hw
  obtain ⟨β1, sb, kn, hw1, back⟩ := St.frame_all hw
  refine (awake_ok β1 w hw1).mono ?_
  rintro e w' ⟨rfl, hw'⟩
  refine ⟨_, rfl, _, back _ _ hw', ?_⟩
  clear hw hw1 hw' back kn sb
  refine l_nil ?_
  exact f_owes_d (up_cons (d := 21) rfl k0) rfl (List.Perm.refl _)
 ·rintro f M ⟨k0, k1, -⟩ -
  exact ob0 (up_cons (d := 22) (up_cons (d := 21) rfl k0) k1) rfl (e_pick_t rfl) (.refl _)
 ·rintro f M ⟨k0, -⟩ -
  exact ob0 (up_cons (d := 23) rfl k0) rfl e_assign (.refl _)
 rintro fa3 ⟨-, -, -, -, -, -, -, -, -, -, -, -, -, -, -, -, -, -, -, k19, -⟩ -
 refine f_re (L' := [pt b2 (.cells #[Ix (gx), Ix (gy)] 25), pt b1 (.cells (bC b) 33)]) (by rfl) ?_
 refine f_rebase (d := 4) k19 ?_
 refine ftr ?_
 refine ret1 Tryz.results4 (v := .bool true) rfl ?_
 intro w hw
 exact ⟨rfl, st_mask [false, false] rfl hw⟩
end Go.Proofs
