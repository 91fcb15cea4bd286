/-
  IslandReach: walked. Printed by a program of my own.
-/
import Derived.Test.YtoijanalppaplaaGreatIs7
namespace Go.Isl
open Go.Sl Go.Brd Go.Stp Go.Proofs
def rightI (x : Int) : Prop := -2097152 ≤ x ∧ x ≤ 2097152
instance (x : Int) : Decidable (rightI x) := by unfold rightI; infer_instance
theorem reach_join {b : KB} {gx gy : Int} (hb : okB b) (hv : okV gx gy) : reachA b gx gy = joinR (⟨b.x - b.w, b.y - b.h, b.x + b.w, b.y + b.h⟩ : KA) (⟨b.x - b.w + speedX b gx gy, b.y - b.h + speedY b gx gy, b.x + b.w + speedX b gx gy, b.y + b.h + speedY b gx gy⟩ : KA) := by
  obtain ⟨⟨h1, h2⟩, h3, h4⟩ := speed_bd b gx gy
  unfold reachA joinR
  rw [if_pos ⟨hb, hv⟩]
  obtain ⟨b1, b2, b3, b4, b5, b6, b7, -, -⟩ := hb
  rw [if_pos ⟨by unfold okA okSpan; simp only; omega, by unfold okA okSpan; simp only; omega⟩]
  unfold joinA
  simp only [KA.mk.injEq]
  omega
end Go.Isl
namespace Go.Proofs
open Go Go.Sl Go.Brd Go.Stp Go.Isl
theorem tf81 : fldB Tryz.prog 36 0 0 2 true = true := by kernel_rfl
theorem tf82 : cfB Tryz.prog 103 = true := by kernel_rfl
theorem tf83 : fldB Tryz.prog 36 1 2 2 true = true := by kernel_rfl
theorem tf84 : cfB Tryz.prog 67 = true := by kernel_rfl
theorem tf85 : cfB Tryz.prog 33 = true := by kernel_rfl
theorem tf86 : cfB Tryz.prog 34 = true := by kernel_rfl
theorem tf87 : cfB Tryz.prog 37 = true := by kernel_rfl
theorem tf88 : cfB Tryz.prog 10 = true := by kernel_rfl
theorem tf89 : cfB Tryz.prog 38 = true := by kernel_rfl
theorem tf90 : lay Tryz.prog 10000 25 = some [.int .i64, .int .i64] := by kernel_rfl
theorem tf91 : isAggT Tryz.prog 25 = true := by kernel_rfl
theorem tf92 : Tryz.prog.eqGuardType Tryz.prog.depth 25 = false := by kernel_rfl
theorem tf93 : cfB Tryz.prog 12 = true := by kernel_rfl
theorem tf94 : cfB Tryz.prog 8 = true := by kernel_rfl
theorem rright_ok (β : Base) (w : World) (hw : St β [] w) (x : Int) : Calls Tryz.prog 103 #[Ix x] w fun r w' => r = .returned (.bool (decide (rightI x))) ∧ St β [] w' := by
  refine enter (n := 9) Tryz.func103 rfl Tryz.ntmps103 rfl ?_ hw
  refine c_seq ?_
  refine c_region ?_
  refine l_val (v := .bool false) rfl rfl rfl (e_assign) ?_
  refine l_nil ?_
  refine f_then ?_
  refine c_seq ?_
  refine c_region ?_
  refine l_val (v := Ix (x)) rfl rfl rfl (e_move) ?_
  refine l_val (v := .bool (decide ((-2097152 : Int) ≤ (x)))) rfl rfl rfl (e_geq (a := (x)) (b := (-2097152 : Int)) rfl rfl) ?_
  refine l_val (v := .bool (decide ((-2097152 : Int) ≤ (x)))) rfl rfl rfl (e_move) ?_
  refine l_split (s := 5) (p := (-2097152 : Int) ≤ (x)) rfl (fun hg1 => ?_) (fun hg1 => ?_)
  ·
    refine g_val (v := Ix (x)) rfl rfl rfl rfl rfl (e_move) ?_
    refine g_val (v := .bool (decide ((x) ≤ (2097152 : Int)))) rfl rfl rfl rfl rfl (e_leq (a := (x)) (b := (2097152 : Int)) rfl rfl) ?_
    refine l_val (v := .bool (decide ((x) ≤ (2097152 : Int)))) rfl rfl rfl (e_pick_t rfl) ?_
    refine l_val (v := .bool (decide ((x) ≤ (2097152 : Int)))) rfl rfl rfl (e_assign) ?_
    refine l_nil ?_
    refine f_then ?_
    refine c_ret ?_
    refine ret1 Tryz.results103 (v := .bool (decide ((x) ≤ (2097152 : Int)))) rfl ?_
    intro w hw
    exact ⟨congrArg (fun b : Bool => Ending.returned (.bool b)) (decide_eq_decide.2 ⟨fun q => by unfold rightI; omega, fun q => by unfold rightI at q; omega⟩), st_mask [] rfl hw⟩
  ·
    refine l_skip rfl rfl rfl rfl rfl rfl ?_
    refine l_skip rfl rfl rfl rfl rfl rfl ?_
    refine l_val (v := .bool false) rfl rfl rfl (e_pick_f rfl) ?_
    refine l_val (v := .bool false) rfl rfl rfl (e_assign) ?_
    refine l_nil ?_
    refine f_then ?_
    refine c_ret ?_
    refine ret1 Tryz.results103 (v := .bool false) rfl ?_
    intro w hw
    exact ⟨congrArg (fun b : Bool => Ending.returned (.bool b)) ((decide_eq_false (fun q => by unfold rightI at q; omega)).symm), st_mask [] rfl hw⟩
set_option maxHeartbeats 4000000 in
theorem rvalid_ok (β : Base) (w : World) (hw : St β [] w) (a : KA) : Calls Tryz.prog 67 #[.agg (aC a)] w fun r w' => r = .returned (.bool (decide (okA a))) ∧ St β [] w' := by
  refine enter (n := 43) Tryz.func67 rfl Tryz.ntmps67 rfl ?_ hw
  refine c_seq ?_
  refine c_region ?_
  refine l_mv rfl rfl rfl (m_box (v := .agg (aC a)) rfl) ?_
  rintro _ _ ⟨b1, rfl, rfl⟩
  refine l_val (v := .bool false) rfl rfl rfl (e_assign) ?_
  refine l_nil ?_
  refine f_then ?_
  refine c_seq ?_
  refine c_region ?_
  refine l_val (v := .pointer (some ⟨b1, 0, none⟩)) rfl rfl rfl (e_fieldPt (b := b1) (o := 0) rfl tf81) ?_
  refine l_val (v := .pointer (some ⟨b1, 0, none⟩)) rfl rfl rfl (e_fieldPt (b := b1) (o := 0) rfl tf10) ?_
  refine l_val (v := Ix (a.lx)) rfl rfl rfl (e_load1 tf11 (v := Ix (a.lx)) rfl (k_pt 0 (cs := (aC a)) (vs := [Ix (a.lx)]) rfl rfl)) ?_
  refine l_call rfl rfl rfl (cl_value (fst := []) (cap := []) (vs := [Ix (a.lx)]) (all := [Ix (a.lx)]) tf82 rfl rfl rfl) ?_
  intro w hw
  obtain ⟨β1, sb, kn, hw1, back⟩ := St.frame_all hw
  refine (rright_ok β1 w hw1 a.lx).mono ?_
  rintro e w' ⟨rfl, hw'⟩
  refine ⟨_, rfl, _, back _ _ hw', ?_⟩
  clear hw hw1 hw' back kn sb
  refine l_val (v := .bool (decide (rightI a.lx))) rfl rfl rfl (e_move) ?_
  refine l_split (s := 7) (p := rightI a.lx) rfl (fun hg2 => ?_) (fun hg2 => ?_)
  ·
    refine g_val (v := .pointer (some ⟨b1, 0, none⟩)) rfl rfl rfl rfl rfl (e_fieldPt (b := b1) (o := 0) rfl tf81) ?_
    refine g_val (v := .pointer (some ⟨b1, 1, none⟩)) rfl rfl rfl rfl rfl (e_fieldPt (b := b1) (o := 0) rfl tf12) ?_
    refine g_val (v := Ix (a.ly)) rfl rfl rfl rfl rfl (e_load1 tf11 (v := Ix (a.ly)) rfl (k_pt 0 (cs := (aC a)) (vs := [Ix (a.ly)]) rfl rfl)) ?_
    refine g_call rfl rfl rfl rfl rfl (cl_value (fst := []) (cap := []) (vs := [Ix (a.ly)]) (all := [Ix (a.ly)]) tf82 rfl rfl rfl) ?_
    intro w hw
    obtain ⟨β1, sb, kn, hw1, back⟩ := St.frame_all hw
    refine (rright_ok β1 w hw1 a.ly).mono ?_
    rintro e w' ⟨rfl, hw'⟩
    refine ⟨_, rfl, _, back _ _ hw', ?_⟩
    clear hw hw1 hw' back kn sb
    refine l_val (v := .bool (decide (rightI a.ly))) rfl rfl rfl (e_pick_t rfl) ?_
    refine l_val (v := .bool (decide (rightI a.ly))) rfl rfl rfl (e_move) ?_
    refine l_split (s := 13) (p := rightI a.ly) rfl (fun hg3 => ?_) (fun hg3 => ?_)
    ·
      refine g_val (v := .pointer (some ⟨b1, 2, none⟩)) rfl rfl rfl rfl rfl (e_fieldPt (b := b1) (o := 0) rfl tf83) ?_
      refine g_val (v := .pointer (some ⟨b1, 2, none⟩)) rfl rfl rfl rfl rfl (e_fieldPt (b := b1) (o := 2) rfl tf10) ?_
      refine g_val (v := Ix (a.hx)) rfl rfl rfl rfl rfl (e_load1 tf11 (v := Ix (a.hx)) rfl (k_pt 0 (cs := (aC a)) (vs := [Ix (a.hx)]) rfl rfl)) ?_
      refine g_call rfl rfl rfl rfl rfl (cl_value (fst := []) (cap := []) (vs := [Ix (a.hx)]) (all := [Ix (a.hx)]) tf82 rfl rfl rfl) ?_
      intro w hw
      obtain ⟨β1, sb, kn, hw1, back⟩ := St.frame_all hw
      refine (rright_ok β1 w hw1 a.hx).mono ?_
      rintro e w' ⟨rfl, hw'⟩
      refine ⟨_, rfl, _, back _ _ hw', ?_⟩
      clear hw hw1 hw' back kn sb
      refine l_val (v := .bool (decide (rightI a.hx))) rfl rfl rfl (e_pick_t rfl) ?_
      refine l_val (v := .bool (decide (rightI a.hx))) rfl rfl rfl (e_move) ?_
      refine l_split (s := 19) (p := rightI a.hx) rfl (fun hg4 => ?_) (fun hg4 => ?_)
      ·
        refine g_val (v := .pointer (some ⟨b1, 2, none⟩)) rfl rfl rfl rfl rfl (e_fieldPt (b := b1) (o := 0) rfl tf83) ?_
        refine g_val (v := .pointer (some ⟨b1, 3, none⟩)) rfl rfl rfl rfl rfl (e_fieldPt (b := b1) (o := 2) rfl tf12) ?_
        refine g_val (v := Ix (a.hy)) rfl rfl rfl rfl rfl (e_load1 tf11 (v := Ix (a.hy)) rfl (k_pt 0 (cs := (aC a)) (vs := [Ix (a.hy)]) rfl rfl)) ?_
        refine g_call rfl rfl rfl rfl rfl (cl_value (fst := []) (cap := []) (vs := [Ix (a.hy)]) (all := [Ix (a.hy)]) tf82 rfl rfl rfl) ?_
        intro w hw
        obtain ⟨β1, sb, kn, hw1, back⟩ := St.frame_all hw
        refine (rright_ok β1 w hw1 a.hy).mono ?_
        rintro e w' ⟨rfl, hw'⟩
        refine ⟨_, rfl, _, back _ _ hw', ?_⟩
        clear hw hw1 hw' back kn sb
        refine l_val (v := .bool (decide (rightI a.hy))) rfl rfl rfl (e_pick_t rfl) ?_
        refine l_val (v := .bool (decide (rightI a.hy))) rfl rfl rfl (e_move) ?_
        refine l_split (s := 25) (p := rightI a.hy) rfl (fun hg5 => ?_) (fun hg5 => ?_)
        ·
          refine g_val (v := .pointer (some ⟨b1, 0, none⟩)) rfl rfl rfl rfl rfl (e_fieldPt (b := b1) (o := 0) rfl tf81) ?_
          refine g_val (v := .pointer (some ⟨b1, 0, none⟩)) rfl rfl rfl rfl rfl (e_fieldPt (b := b1) (o := 0) rfl tf10) ?_
          refine g_val (v := Ix (a.lx)) rfl rfl rfl rfl rfl (e_load1 tf11 (v := Ix (a.lx)) rfl (k_pt 0 (cs := (aC a)) (vs := [Ix (a.lx)]) rfl rfl)) ?_
          refine g_val (v := .pointer (some ⟨b1, 2, none⟩)) rfl rfl rfl rfl rfl (e_fieldPt (b := b1) (o := 0) rfl tf83) ?_
          refine g_val (v := .pointer (some ⟨b1, 2, none⟩)) rfl rfl rfl rfl rfl (e_fieldPt (b := b1) (o := 2) rfl tf10) ?_
          refine g_val (v := Ix (a.hx)) rfl rfl rfl rfl rfl (e_load1 tf11 (v := Ix (a.hx)) rfl (k_pt 0 (cs := (aC a)) (vs := [Ix (a.hx)]) rfl rfl)) ?_
          refine g_val (v := .bool (decide ((a.lx) ≤ (a.hx)))) rfl rfl rfl rfl rfl (e_leq (a := (a.lx)) (b := (a.hx)) rfl rfl) ?_
          refine l_val (v := .bool (decide ((a.lx) ≤ (a.hx)))) rfl rfl rfl (e_pick_t rfl) ?_
          refine l_val (v := .bool (decide ((a.lx) ≤ (a.hx)))) rfl rfl rfl (e_move) ?_
          refine l_split (s := 34) (p := (a.lx) ≤ (a.hx)) rfl (fun hg6 => ?_) (fun hg6 => ?_)
          ·
            refine g_val (v := .pointer (some ⟨b1, 0, none⟩)) rfl rfl rfl rfl rfl (e_fieldPt (b := b1) (o := 0) rfl tf81) ?_
            refine g_val (v := .pointer (some ⟨b1, 1, none⟩)) rfl rfl rfl rfl rfl (e_fieldPt (b := b1) (o := 0) rfl tf12) ?_
            refine g_val (v := Ix (a.ly)) rfl rfl rfl rfl rfl (e_load1 tf11 (v := Ix (a.ly)) rfl (k_pt 0 (cs := (aC a)) (vs := [Ix (a.ly)]) rfl rfl)) ?_
            refine g_val (v := .pointer (some ⟨b1, 2, none⟩)) rfl rfl rfl rfl rfl (e_fieldPt (b := b1) (o := 0) rfl tf83) ?_
            refine g_val (v := .pointer (some ⟨b1, 3, none⟩)) rfl rfl rfl rfl rfl (e_fieldPt (b := b1) (o := 2) rfl tf12) ?_
            refine g_val (v := Ix (a.hy)) rfl rfl rfl rfl rfl (e_load1 tf11 (v := Ix (a.hy)) rfl (k_pt 0 (cs := (aC a)) (vs := [Ix (a.hy)]) rfl rfl)) ?_
            refine g_val (v := .bool (decide ((a.ly) ≤ (a.hy)))) rfl rfl rfl rfl rfl (e_leq (a := (a.ly)) (b := (a.hy)) rfl rfl) ?_
            refine l_val (v := .bool (decide ((a.ly) ≤ (a.hy)))) rfl rfl rfl (e_pick_t rfl) ?_
            refine l_val (v := .bool (decide ((a.ly) ≤ (a.hy)))) rfl rfl rfl (e_assign) ?_
            refine l_nil ?_
            refine f_then ?_
            refine c_ret ?_
            refine ret1 Tryz.results67 (v := .bool (decide ((a.ly) ≤ (a.hy)))) rfl ?_
            intro w hw
            exact ⟨congrArg (fun b : Bool => Ending.returned (.bool b)) (decide_eq_decide.2 ⟨fun q => by unfold okA okSpan; unfold rightI at *; omega, fun q => by unfold okA okSpan at q; unfold rightI at *; omega⟩), st_mask [false] rfl hw⟩
          ·
            refine l_skip rfl rfl rfl rfl rfl rfl ?_
            refine l_skip rfl rfl rfl rfl rfl rfl ?_
            refine l_skip rfl rfl rfl rfl rfl rfl ?_
            refine l_skip rfl rfl rfl rfl rfl rfl ?_
            refine l_skip rfl rfl rfl rfl rfl rfl ?_
            refine l_skip rfl rfl rfl rfl rfl rfl ?_
            refine l_skip rfl rfl rfl rfl rfl rfl ?_
            refine l_val (v := .bool false) rfl rfl rfl (e_pick_f rfl) ?_
            refine l_val (v := .bool false) rfl rfl rfl (e_assign) ?_
            refine l_nil ?_
            refine f_then ?_
            refine c_ret ?_
            refine ret1 Tryz.results67 (v := .bool false) rfl ?_
            intro w hw
            exact ⟨congrArg (fun b : Bool => Ending.returned (.bool b)) ((decide_eq_false (fun q => by unfold okA okSpan at q; unfold rightI at *; omega)).symm), st_mask [false] rfl hw⟩
        ·
          refine l_skip rfl rfl rfl rfl rfl rfl ?_
          refine l_skip rfl rfl rfl rfl rfl rfl ?_
          refine l_skip rfl rfl rfl rfl rfl rfl ?_
          refine l_skip rfl rfl rfl rfl rfl rfl ?_
          refine l_skip rfl rfl rfl rfl rfl rfl ?_
          refine l_skip rfl rfl rfl rfl rfl rfl ?_
          refine l_skip rfl rfl rfl rfl rfl rfl ?_
          refine l_val (v := .bool false) rfl rfl rfl (e_pick_f rfl) ?_
          refine l_val (v := .bool false) rfl rfl rfl (e_move) ?_
          refine l_skip rfl rfl rfl rfl rfl rfl ?_
          refine l_skip rfl rfl rfl rfl rfl rfl ?_
          refine l_skip rfl rfl rfl rfl rfl rfl ?_
          refine l_skip rfl rfl rfl rfl rfl rfl ?_
          refine l_skip rfl rfl rfl rfl rfl rfl ?_
          refine l_skip rfl rfl rfl rfl rfl rfl ?_
          refine l_skip rfl rfl rfl rfl rfl rfl ?_
          refine l_val (v := .bool false) rfl rfl rfl (e_pick_f rfl) ?_
          refine l_val (v := .bool false) rfl rfl rfl (e_assign) ?_
          refine l_nil ?_
          refine f_then ?_
          refine c_ret ?_
          refine ret1 Tryz.results67 (v := .bool false) rfl ?_
          intro w hw
          exact ⟨congrArg (fun b : Bool => Ending.returned (.bool b)) ((decide_eq_false (fun q => by unfold okA okSpan at q; unfold rightI at *; omega)).symm), st_mask [false] rfl hw⟩
      ·
        refine l_skip rfl rfl rfl rfl rfl rfl ?_
        refine l_skip rfl rfl rfl rfl rfl rfl ?_
        refine l_skip rfl rfl rfl rfl rfl rfl ?_
        refine l_skip rfl rfl rfl rfl rfl rfl ?_
        refine l_val (v := .bool false) rfl rfl rfl (e_pick_f rfl) ?_
        refine l_val (v := .bool false) rfl rfl rfl (e_move) ?_
        refine l_skip rfl rfl rfl rfl rfl rfl ?_
        refine l_skip rfl rfl rfl rfl rfl rfl ?_
        refine l_skip rfl rfl rfl rfl rfl rfl ?_
        refine l_skip rfl rfl rfl rfl rfl rfl ?_
        refine l_skip rfl rfl rfl rfl rfl rfl ?_
        refine l_skip rfl rfl rfl rfl rfl rfl ?_
        refine l_skip rfl rfl rfl rfl rfl rfl ?_
        refine l_val (v := .bool false) rfl rfl rfl (e_pick_f rfl) ?_
        refine l_val (v := .bool false) rfl rfl rfl (e_move) ?_
        refine l_skip rfl rfl rfl rfl rfl rfl ?_
        refine l_skip rfl rfl rfl rfl rfl rfl ?_
        refine l_skip rfl rfl rfl rfl rfl rfl ?_
        refine l_skip rfl rfl rfl rfl rfl rfl ?_
        refine l_skip rfl rfl rfl rfl rfl rfl ?_
        refine l_skip rfl rfl rfl rfl rfl rfl ?_
        refine l_skip rfl rfl rfl rfl rfl rfl ?_
        refine l_val (v := .bool false) rfl rfl rfl (e_pick_f rfl) ?_
        refine l_val (v := .bool false) rfl rfl rfl (e_assign) ?_
        refine l_nil ?_
        refine f_then ?_
        refine c_ret ?_
        refine ret1 Tryz.results67 (v := .bool false) rfl ?_
        intro w hw
        exact ⟨congrArg (fun b : Bool => Ending.returned (.bool b)) ((decide_eq_false (fun q => by unfold okA okSpan at q; unfold rightI at *; omega)).symm), st_mask [false] rfl hw⟩
    ·
      refine l_skip rfl rfl rfl rfl rfl rfl ?_
      refine l_skip rfl rfl rfl rfl rfl rfl ?_
      refine l_skip rfl rfl rfl rfl rfl rfl ?_
      refine l_skip rfl rfl rfl rfl rfl rfl ?_
      refine l_val (v := .bool false) rfl rfl rfl (e_pick_f rfl) ?_
      refine l_val (v := .bool false) rfl rfl rfl (e_move) ?_
      refine l_skip rfl rfl rfl rfl rfl rfl ?_
      refine l_skip rfl rfl rfl rfl rfl rfl ?_
      refine l_skip rfl rfl rfl rfl rfl rfl ?_
      refine l_skip rfl rfl rfl rfl rfl rfl ?_
      refine l_val (v := .bool false) rfl rfl rfl (e_pick_f rfl) ?_
      refine l_val (v := .bool false) rfl rfl rfl (e_move) ?_
      refine l_skip rfl rfl rfl rfl rfl rfl ?_
      refine l_skip rfl rfl rfl rfl rfl rfl ?_
      refine l_skip rfl rfl rfl rfl rfl rfl ?_
      refine l_skip rfl rfl rfl rfl rfl rfl ?_
      refine l_skip rfl rfl rfl rfl rfl rfl ?_
      refine l_skip rfl rfl rfl rfl rfl rfl ?_
      refine l_skip rfl rfl rfl rfl rfl rfl ?_
      refine l_val (v := .bool false) rfl rfl rfl (e_pick_f rfl) ?_
      refine l_val (v := .bool false) rfl rfl rfl (e_move) ?_
      refine l_skip rfl rfl rfl rfl rfl rfl ?_
      refine l_skip rfl rfl rfl rfl rfl rfl ?_
      refine l_skip rfl rfl rfl rfl rfl rfl ?_
      refine l_skip rfl rfl rfl rfl rfl rfl ?_
      refine l_skip rfl rfl rfl rfl rfl rfl ?_
      refine l_skip rfl rfl rfl rfl rfl rfl ?_
      refine l_skip rfl rfl rfl rfl rfl rfl ?_
      refine l_val (v := .bool false) rfl rfl rfl (e_pick_f rfl) ?_
      refine l_val (v := .bool false) rfl rfl rfl (e_assign) ?_
      refine l_nil ?_
      refine f_then ?_
      refine c_ret ?_
      refine ret1 Tryz.results67 (v := .bool false) rfl ?_
      intro w hw
      exact ⟨congrArg (fun b : Bool => Ending.returned (.bool b)) ((decide_eq_false (fun q => by unfold okA okSpan at q; unfold rightI at *; omega)).symm), st_mask [false] rfl hw⟩
  ·
    refine l_skip rfl rfl rfl rfl rfl rfl ?_
    refine l_skip rfl rfl rfl rfl rfl rfl ?_
    refine l_skip rfl rfl rfl rfl rfl rfl ?_
    refine l_skip rfl rfl rfl rfl rfl rfl ?_
    refine l_val (v := .bool false) rfl rfl rfl (e_pick_f rfl) ?_
    refine l_val (v := .bool false) rfl rfl rfl (e_move) ?_
    refine l_skip rfl rfl rfl rfl rfl rfl ?_
    refine l_skip rfl rfl rfl rfl rfl rfl ?_
    refine l_skip rfl rfl rfl rfl rfl rfl ?_
    refine l_skip rfl rfl rfl rfl rfl rfl ?_
    refine l_val (v := .bool false) rfl rfl rfl (e_pick_f rfl) ?_
    refine l_val (v := .bool false) rfl rfl rfl (e_move) ?_
    refine l_skip rfl rfl rfl rfl rfl rfl ?_
    refine l_skip rfl rfl rfl rfl rfl rfl ?_
    refine l_skip rfl rfl rfl rfl rfl rfl ?_
    refine l_skip rfl rfl rfl rfl rfl rfl ?_
    refine l_val (v := .bool false) rfl rfl rfl (e_pick_f rfl) ?_
    refine l_val (v := .bool false) rfl rfl rfl (e_move) ?_
    refine l_skip rfl rfl rfl rfl rfl rfl ?_
    refine l_skip rfl rfl rfl rfl rfl rfl ?_
    refine l_skip rfl rfl rfl rfl rfl rfl ?_
    refine l_skip rfl rfl rfl rfl rfl rfl ?_
    refine l_skip rfl rfl rfl rfl rfl rfl ?_
    refine l_skip rfl rfl rfl rfl rfl rfl ?_
    refine l_skip rfl rfl rfl rfl rfl rfl ?_
    refine l_val (v := .bool false) rfl rfl rfl (e_pick_f rfl) ?_
    refine l_val (v := .bool false) rfl rfl rfl (e_move) ?_
    refine l_skip rfl rfl rfl rfl rfl rfl ?_
    refine l_skip rfl rfl rfl rfl rfl rfl ?_
    refine l_skip rfl rfl rfl rfl rfl rfl ?_
    refine l_skip rfl rfl rfl rfl rfl rfl ?_
    refine l_skip rfl rfl rfl rfl rfl rfl ?_
    refine l_skip rfl rfl rfl rfl rfl rfl ?_
    refine l_skip rfl rfl rfl rfl rfl rfl ?_
    refine l_val (v := .bool false) rfl rfl rfl (e_pick_f rfl) ?_
    refine l_val (v := .bool false) rfl rfl rfl (e_assign) ?_
    refine l_nil ?_
    refine f_then ?_
    refine c_ret ?_
    refine ret1 Tryz.results67 (v := .bool false) rfl ?_
    intro w hw
    exact ⟨congrArg (fun b : Bool => Ending.returned (.bool b)) ((decide_eq_false (fun q => by unfold okA okSpan at q; unfold rightI at *; omega)).symm), st_mask [false] rfl hw⟩
set_option maxHeartbeats 4000000 in
theorem rjoin_ok (β : Base) (w : World) (hw : St β [] w) (a b : KA) : Calls Tryz.prog 38 #[.agg (aC a), .agg (aC b)] w fun r w' => r = .returned (.agg (aC (joinR a b))) ∧ St β [] w' := by
  refine enter (n := 45) Tryz.func38 rfl Tryz.ntmps38 rfl ?_ hw
  refine c_seq ?_
  refine c_region ?_
  refine l_mv rfl rfl rfl (m_box (v := .agg (aC a)) rfl) ?_
  rintro _ _ ⟨b1, rfl, rfl⟩
  refine l_mv rfl rfl rfl (m_box (v := .agg (aC b)) rfl) ?_
  rintro _ _ ⟨b2, rfl, rfl⟩
  refine l_mv rfl rfl rfl (m_alloc tf0) ?_
  rintro _ _ ⟨b3, rfl, rfl⟩
  refine l_nil ?_
  refine f_then ?_
  refine c_seq ?_
  refine c_seq ?_
  refine c_region ?_
  refine l_val (v := .agg (aC a)) rfl rfl rfl (e_load tf4 (cs := (areaE a)) rfl (k_pt 2 (cs := (aC a)) (vs := (areaE a)) rfl rfl) rfl) ?_
  refine l_call rfl rfl rfl (cl_value (fst := []) (cap := []) (vs := [.agg (aC a)]) (all := [.agg (aC a)]) tf84 rfl rfl rfl) ?_
  intro w hw
  obtain ⟨β1, sb, kn, hw1, back⟩ := St.frame_all hw
  refine (rvalid_ok β1 w hw1 a).mono ?_
  rintro e w' ⟨rfl, hw'⟩
  refine ⟨_, rfl, _, back _ _ hw', ?_⟩
  clear hw hw1 hw' back kn sb
  refine l_val (v := .bool (decide (¬ (okA a)))) rfl rfl rfl (e_not_p (p := okA a) rfl) ?_
  refine l_val (v := .bool (decide (¬ (okA a)))) rfl rfl rfl (e_move) ?_
  refine l_split (s := 8) (p := ¬ (okA a)) rfl (fun hg4 => ?_) (fun hg4 => ?_)
  ·
    refine l_skip rfl rfl rfl rfl rfl rfl ?_
    refine l_skip rfl rfl rfl rfl rfl rfl ?_
    refine l_skip rfl rfl rfl rfl rfl rfl ?_
    refine l_val (v := .bool true) rfl rfl rfl (e_pick_t rfl) ?_
    refine l_nil ?_
    refine f_then ?_
    refine c_yes rfl ?_
    refine c_seq ?_
    refine c_region ?_
    refine l_val (v := .agg #[.int .i64 (0), .int .i64 (0), .int .i64 (0), .int .i64 (0)]) rfl rfl rfl (e_build tf0 tf3 (vs := []) (cells := #[.int .i64 (0), .int .i64 (0), .int .i64 (0), .int .i64 (0)]) rfl rfl) ?_
    refine l_mu rfl rfl (m_store 0 tf4 (b := b3) (o := 0) (T := 36) (cs := #[.int .i64 (0), .int .i64 (0), .int .i64 (0), .int .i64 (0)]) (cs' := #[.int .i64 (0), .int .i64 (0), .int .i64 (0), .int .i64 (0)]) (v := .agg #[.int .i64 (0), .int .i64 (0), .int .i64 (0), .int .i64 (0)]) rfl rfl rfl rfl rfl rfl rfl) ?_
    refine l_nil ?_
    refine f_then ?_
    refine c_ret ?_
    refine f_then_ret ?_
    refine retG (l := [.cell 4 36]) (m := [.agg #[.int .i64 (0), .int .i64 (0), .int .i64 (0), .int .i64 (0)]]) (v := .agg #[.int .i64 (0), .int .i64 (0), .int .i64 (0), .int .i64 (0)]) Tryz.results38 ⟨rd_cell tf4 (cs := [.int .i64 (0), .int .i64 (0), .int .i64 (0), .int .i64 (0)]) rfl (k_pt 0 (cs := #[.int .i64 (0), .int .i64 (0), .int .i64 (0), .int .i64 (0)]) (vs := [.int .i64 (0), .int .i64 (0), .int .i64 (0), .int .i64 (0)]) rfl rfl) rfl, trivial⟩ rfl ?_
    intro w hw
    exact ⟨by rw [show joinR a b = zeroA from if_neg (by simp_all)] <;> rfl, st_mask [false, false, false] rfl hw⟩
  ·
    refine g_val (v := .agg (aC b)) rfl rfl rfl rfl rfl (e_load tf4 (cs := (areaE b)) rfl (k_pt 1 (cs := (aC b)) (vs := (areaE b)) rfl rfl) rfl) ?_
    refine g_call rfl rfl rfl rfl rfl (cl_value (fst := []) (cap := []) (vs := [.agg (aC b)]) (all := [.agg (aC b)]) tf84 rfl rfl rfl) ?_
    intro w hw
    obtain ⟨β1, sb, kn, hw1, back⟩ := St.frame_all hw
    refine (rvalid_ok β1 w hw1 b).mono ?_
    rintro e w' ⟨rfl, hw'⟩
    refine ⟨_, rfl, _, back _ _ hw', ?_⟩
    clear hw hw1 hw' back kn sb
    refine g_val (v := .bool (decide (¬ (okA b)))) rfl rfl rfl rfl rfl (e_not_p (p := okA b) rfl) ?_
    refine l_val (v := .bool (decide (¬ (okA b)))) rfl rfl rfl (e_pick_f rfl) ?_
    refine l_nil ?_
    refine f_then ?_
    refine c_if (¬ (okA b)) rfl (fun hc5 => ?_) (fun hc5 => ?_)
    ·
      refine c_seq ?_
      refine c_region ?_
      refine l_val (v := .agg #[.int .i64 (0), .int .i64 (0), .int .i64 (0), .int .i64 (0)]) rfl rfl rfl (e_build tf0 tf3 (vs := []) (cells := #[.int .i64 (0), .int .i64 (0), .int .i64 (0), .int .i64 (0)]) rfl rfl) ?_
      refine l_mu rfl rfl (m_store 0 tf4 (b := b3) (o := 0) (T := 36) (cs := #[.int .i64 (0), .int .i64 (0), .int .i64 (0), .int .i64 (0)]) (cs' := #[.int .i64 (0), .int .i64 (0), .int .i64 (0), .int .i64 (0)]) (v := .agg #[.int .i64 (0), .int .i64 (0), .int .i64 (0), .int .i64 (0)]) rfl rfl rfl rfl rfl rfl rfl) ?_
      refine l_nil ?_
      refine f_then ?_
      refine c_ret ?_
      refine f_then_ret ?_
      refine retG (l := [.cell 4 36]) (m := [.agg #[.int .i64 (0), .int .i64 (0), .int .i64 (0), .int .i64 (0)]]) (v := .agg #[.int .i64 (0), .int .i64 (0), .int .i64 (0), .int .i64 (0)]) Tryz.results38 ⟨rd_cell tf4 (cs := [.int .i64 (0), .int .i64 (0), .int .i64 (0), .int .i64 (0)]) rfl (k_pt 0 (cs := #[.int .i64 (0), .int .i64 (0), .int .i64 (0), .int .i64 (0)]) (vs := [.int .i64 (0), .int .i64 (0), .int .i64 (0), .int .i64 (0)]) rfl rfl) rfl, trivial⟩ rfl ?_
      intro w hw
      exact ⟨by rw [show joinR a b = zeroA from if_neg (by simp_all)] <;> rfl, st_mask [false, false, false] rfl hw⟩
    ·
      refine c_skip ?_
      refine f_then ?_
      refine c_seq ?_
      refine c_region ?_
      refine l_val (v := .pointer (some ⟨b1, 0, none⟩)) rfl rfl rfl (e_fieldPt (b := b1) (o := 0) rfl tf81) ?_
      refine l_val (v := .pointer (some ⟨b1, 0, none⟩)) rfl rfl rfl (e_fieldPt (b := b1) (o := 0) rfl tf10) ?_
      refine l_val (v := Ix (a.lx)) rfl rfl rfl (e_load1 tf11 (v := Ix (a.lx)) rfl (k_pt 2 (cs := (aC a)) (vs := [Ix (a.lx)]) rfl rfl)) ?_
      refine l_val (v := .pointer (some ⟨b2, 0, none⟩)) rfl rfl rfl (e_fieldPt (b := b2) (o := 0) rfl tf81) ?_
      refine l_val (v := .pointer (some ⟨b2, 0, none⟩)) rfl rfl rfl (e_fieldPt (b := b2) (o := 0) rfl tf10) ?_
      refine l_val (v := Ix (b.lx)) rfl rfl rfl (e_load1 tf11 (v := Ix (b.lx)) rfl (k_pt 1 (cs := (aC b)) (vs := [Ix (b.lx)]) rfl rfl)) ?_
      refine l_val (v := Ix (min (a.lx) (b.lx))) rfl rfl rfl (e_min (a := (a.lx)) (b := (b.lx)) rfl rfl) ?_
      refine l_val (v := .pointer (some ⟨b1, 0, none⟩)) rfl rfl rfl (e_fieldPt (b := b1) (o := 0) rfl tf81) ?_
      refine l_val (v := .pointer (some ⟨b1, 1, none⟩)) rfl rfl rfl (e_fieldPt (b := b1) (o := 0) rfl tf12) ?_
      refine l_val (v := Ix (a.ly)) rfl rfl rfl (e_load1 tf11 (v := Ix (a.ly)) rfl (k_pt 2 (cs := (aC a)) (vs := [Ix (a.ly)]) rfl rfl)) ?_
      refine l_val (v := .pointer (some ⟨b2, 0, none⟩)) rfl rfl rfl (e_fieldPt (b := b2) (o := 0) rfl tf81) ?_
      refine l_val (v := .pointer (some ⟨b2, 1, none⟩)) rfl rfl rfl (e_fieldPt (b := b2) (o := 0) rfl tf12) ?_
      refine l_val (v := Ix (b.ly)) rfl rfl rfl (e_load1 tf11 (v := Ix (b.ly)) rfl (k_pt 1 (cs := (aC b)) (vs := [Ix (b.ly)]) rfl rfl)) ?_
      refine l_val (v := Ix (min (a.ly) (b.ly))) rfl rfl rfl (e_min (a := (a.ly)) (b := (b.ly)) rfl rfl) ?_
      refine l_val (v := .agg #[Ix (min (a.lx) (b.lx)), Ix (min (a.ly) (b.ly))]) rfl rfl rfl (e_build tf8 tf13 (vs := [(0, Ix (min (a.lx) (b.lx))), (1, Ix (min (a.ly) (b.ly)))]) (cells := #[Ix (min (a.lx) (b.lx)), Ix (min (a.ly) (b.ly))]) rfl rfl) ?_
      refine l_val (v := .pointer (some ⟨b1, 2, none⟩)) rfl rfl rfl (e_fieldPt (b := b1) (o := 0) rfl tf83) ?_
      refine l_val (v := .pointer (some ⟨b1, 2, none⟩)) rfl rfl rfl (e_fieldPt (b := b1) (o := 2) rfl tf10) ?_
      refine l_val (v := Ix (a.hx)) rfl rfl rfl (e_load1 tf11 (v := Ix (a.hx)) rfl (k_pt 2 (cs := (aC a)) (vs := [Ix (a.hx)]) rfl rfl)) ?_
      refine l_val (v := .pointer (some ⟨b2, 2, none⟩)) rfl rfl rfl (e_fieldPt (b := b2) (o := 0) rfl tf83) ?_
      refine l_val (v := .pointer (some ⟨b2, 2, none⟩)) rfl rfl rfl (e_fieldPt (b := b2) (o := 2) rfl tf10) ?_
      refine l_val (v := Ix (b.hx)) rfl rfl rfl (e_load1 tf11 (v := Ix (b.hx)) rfl (k_pt 1 (cs := (aC b)) (vs := [Ix (b.hx)]) rfl rfl)) ?_
      refine l_val (v := Ix (max (a.hx) (b.hx))) rfl rfl rfl (e_max (a := (a.hx)) (b := (b.hx)) rfl rfl) ?_
      refine l_val (v := .pointer (some ⟨b1, 2, none⟩)) rfl rfl rfl (e_fieldPt (b := b1) (o := 0) rfl tf83) ?_
      refine l_val (v := .pointer (some ⟨b1, 3, none⟩)) rfl rfl rfl (e_fieldPt (b := b1) (o := 2) rfl tf12) ?_
      refine l_val (v := Ix (a.hy)) rfl rfl rfl (e_load1 tf11 (v := Ix (a.hy)) rfl (k_pt 2 (cs := (aC a)) (vs := [Ix (a.hy)]) rfl rfl)) ?_
      refine l_val (v := .pointer (some ⟨b2, 2, none⟩)) rfl rfl rfl (e_fieldPt (b := b2) (o := 0) rfl tf83) ?_
      refine l_val (v := .pointer (some ⟨b2, 3, none⟩)) rfl rfl rfl (e_fieldPt (b := b2) (o := 2) rfl tf12) ?_
      refine l_val (v := Ix (b.hy)) rfl rfl rfl (e_load1 tf11 (v := Ix (b.hy)) rfl (k_pt 1 (cs := (aC b)) (vs := [Ix (b.hy)]) rfl rfl)) ?_
      refine l_val (v := Ix (max (a.hy) (b.hy))) rfl rfl rfl (e_max (a := (a.hy)) (b := (b.hy)) rfl rfl) ?_
      refine l_val (v := .agg #[Ix (max (a.hx) (b.hx)), Ix (max (a.hy) (b.hy))]) rfl rfl rfl (e_build tf8 tf13 (vs := [(0, Ix (max (a.hx) (b.hx))), (1, Ix (max (a.hy) (b.hy)))]) (cells := #[Ix (max (a.hx) (b.hx)), Ix (max (a.hy) (b.hy))]) rfl rfl) ?_
      refine l_val (v := .agg #[Ix (min (a.lx) (b.lx)), Ix (min (a.ly) (b.ly)), Ix (max (a.hx) (b.hx)), Ix (max (a.hy) (b.hy))]) rfl rfl rfl (e_build tf0 tf3 (vs := [(0, .agg #[Ix (min (a.lx) (b.lx)), Ix (min (a.ly) (b.ly))]), (1, .agg #[Ix (max (a.hx) (b.hx)), Ix (max (a.hy) (b.hy))])]) (cells := #[Ix (min (a.lx) (b.lx)), Ix (min (a.ly) (b.ly)), Ix (max (a.hx) (b.hx)), Ix (max (a.hy) (b.hy))]) rfl rfl) ?_
      refine l_mu rfl rfl (m_store 0 tf4 (b := b3) (o := 0) (T := 36) (cs := #[.int .i64 (0), .int .i64 (0), .int .i64 (0), .int .i64 (0)]) (cs' := #[Ix (min (a.lx) (b.lx)), Ix (min (a.ly) (b.ly)), Ix (max (a.hx) (b.hx)), Ix (max (a.hy) (b.hy))]) (v := .agg #[Ix (min (a.lx) (b.lx)), Ix (min (a.ly) (b.ly)), Ix (max (a.hx) (b.hx)), Ix (max (a.hy) (b.hy))]) rfl rfl rfl rfl rfl rfl rfl) ?_
      refine l_nil ?_
      refine f_then ?_
      refine c_ret ?_
      refine retG (l := [.cell 4 36]) (m := [.agg #[Ix (min (a.lx) (b.lx)), Ix (min (a.ly) (b.ly)), Ix (max (a.hx) (b.hx)), Ix (max (a.hy) (b.hy))]]) (v := .agg #[Ix (min (a.lx) (b.lx)), Ix (min (a.ly) (b.ly)), Ix (max (a.hx) (b.hx)), Ix (max (a.hy) (b.hy))]) Tryz.results38 ⟨rd_cell tf4 (cs := [Ix (min (a.lx) (b.lx)), Ix (min (a.ly) (b.ly)), Ix (max (a.hx) (b.hx)), Ix (max (a.hy) (b.hy))]) rfl (k_pt 0 (cs := #[Ix (min (a.lx) (b.lx)), Ix (min (a.ly) (b.ly)), Ix (max (a.hx) (b.hx)), Ix (max (a.hy) (b.hy))]) (vs := [Ix (min (a.lx) (b.lx)), Ix (min (a.ly) (b.ly)), Ix (max (a.hx) (b.hx)), Ix (max (a.hy) (b.hy))]) rfl rfl) rfl, trivial⟩ rfl ?_
      intro w hw
      exact ⟨by rw [show joinR a b = joinA a b from if_pos (by simp_all)] <;> rfl, st_mask [false, false, false] rfl hw⟩
set_option maxHeartbeats 4000000 in
theorem rreach_ok (β : Base) (w : World) (hw : St β [] w) (b : KB) (gx gy : Int) (hgx : -9223372036854775808 ≤ gx ∧ gx ≤ 9223372036854775807) (hgy : -9223372036854775808 ≤ gy ∧ gy ≤ 9223372036854775807) : Calls Tryz.prog 12 #[.agg (bC b), .agg #[Ix gx, Ix gy]] w fun r w' => r = .returned (.agg (aC (reachA b gx gy))) ∧ St β [] w' := by
  refine enter (n := 54) Tryz.func12 rfl Tryz.ntmps12 rfl ?_ hw
  refine c_seq ?_
  refine c_region ?_
  refine l_mv rfl rfl rfl (m_box (v := .agg (bC b)) rfl) ?_
  rintro _ _ ⟨b1, rfl, rfl⟩
  refine l_mv rfl rfl rfl (m_box (v := .agg #[Ix (gx), Ix (gy)]) rfl) ?_
  rintro _ _ ⟨b2, rfl, rfl⟩
  refine l_mv rfl rfl rfl (m_alloc tf0) ?_
  rintro _ _ ⟨b3, rfl, rfl⟩
  refine l_nil ?_
  refine f_then ?_
  refine c_seq ?_
  refine c_seq ?_
  refine c_region ?_
  refine l_val (v := .agg (bC b)) rfl rfl rfl (e_load tf1 (cs := (bodyE b)) rfl (k_pt 2 (cs := (bC b)) (vs := (bodyE b)) rfl rfl) rfl) ?_
  refine l_call rfl rfl rfl (cl_value (fst := []) (cap := []) (vs := [.agg (bC b)]) (all := [.agg (bC b)]) tf85 rfl rfl rfl) ?_
  intro w hw
  obtain ⟨β1, sb, kn, hw1, back⟩ := St.frame_all hw
  refine (valid5_ok β1 w hw1 b).mono ?_
  rintro e w' ⟨rfl, hw'⟩
  refine ⟨_, rfl, _, back _ _ hw', ?_⟩
  clear hw hw1 hw' back kn sb
  refine l_val (v := .bool (decide (¬ (okB b)))) rfl rfl rfl (e_not_p (p := okB b) rfl) ?_
  refine l_val (v := .bool (decide (¬ (okB b)))) rfl rfl rfl (e_move) ?_
  refine l_split (s := 12) (p := ¬ (okB b)) rfl (fun hg4 => ?_) (fun hg4 => ?_)
  ·
    refine l_skip rfl rfl rfl rfl rfl rfl ?_
    refine l_skip rfl rfl rfl rfl rfl rfl ?_
    refine l_skip rfl rfl rfl rfl rfl rfl ?_
    refine l_val (v := .bool true) rfl rfl rfl (e_pick_t rfl) ?_
    refine l_nil ?_
    refine f_then ?_
    refine c_yes rfl ?_
    refine c_seq ?_
    refine c_region ?_
    refine l_val (v := .agg #[.int .i64 (0), .int .i64 (0), .int .i64 (0), .int .i64 (0)]) rfl rfl rfl (e_build tf0 tf3 (vs := []) (cells := #[.int .i64 (0), .int .i64 (0), .int .i64 (0), .int .i64 (0)]) rfl rfl) ?_
    refine l_mu rfl rfl (m_store 0 tf4 (b := b3) (o := 0) (T := 36) (cs := #[.int .i64 (0), .int .i64 (0), .int .i64 (0), .int .i64 (0)]) (cs' := #[.int .i64 (0), .int .i64 (0), .int .i64 (0), .int .i64 (0)]) (v := .agg #[.int .i64 (0), .int .i64 (0), .int .i64 (0), .int .i64 (0)]) rfl rfl rfl rfl rfl rfl rfl) ?_
    refine l_nil ?_
    refine f_then ?_
    refine c_ret ?_
    refine f_then_ret ?_
    refine retG (l := [.cell 4 36]) (m := [.agg #[.int .i64 (0), .int .i64 (0), .int .i64 (0), .int .i64 (0)]]) (v := .agg #[.int .i64 (0), .int .i64 (0), .int .i64 (0), .int .i64 (0)]) Tryz.results12 ⟨rd_cell tf4 (cs := [.int .i64 (0), .int .i64 (0), .int .i64 (0), .int .i64 (0)]) rfl (k_pt 0 (cs := #[.int .i64 (0), .int .i64 (0), .int .i64 (0), .int .i64 (0)]) (vs := [.int .i64 (0), .int .i64 (0), .int .i64 (0), .int .i64 (0)]) rfl rfl) rfl, trivial⟩ rfl ?_
    intro w hw
    exact ⟨by rw [show reachA b gx gy = zeroA from if_neg (fun q => by simp_all)] <;> rfl, st_mask [false, false, false] rfl hw⟩
  ·
    refine g_val (v := .agg #[Ix (gx), Ix (gy)]) rfl rfl rfl rfl rfl (e_load tf5 (cs := [Ix (gx), Ix (gy)]) rfl (k_pt 1 (cs := #[Ix (gx), Ix (gy)]) (vs := [Ix (gx), Ix (gy)]) rfl rfl) rfl) ?_
    refine g_call rfl rfl rfl rfl rfl (cl_value (fst := []) (cap := []) (vs := [.agg #[Ix (gx), Ix (gy)]]) (all := [.agg #[Ix (gx), Ix (gy)]]) tf86 rfl rfl rfl) ?_
    intro w hw
    obtain ⟨β1, sb, kn, hw1, back⟩ := St.frame_all hw
    refine (pull7_ok β1 w hw1 gx gy).mono ?_
    rintro e w' ⟨rfl, hw'⟩
    refine ⟨_, rfl, _, back _ _ hw', ?_⟩
    clear hw hw1 hw' back kn sb
    refine g_val (v := .bool (decide (¬ (okV gx gy)))) rfl rfl rfl rfl rfl (e_not_p (p := okV gx gy) rfl) ?_
    refine l_val (v := .bool (decide (¬ (okV gx gy)))) rfl rfl rfl (e_pick_f rfl) ?_
    refine l_nil ?_
    refine f_then ?_
    refine c_if (¬ (okV gx gy)) rfl (fun hc5 => ?_) (fun hc5 => ?_)
    ·
      refine c_seq ?_
      refine c_region ?_
      refine l_val (v := .agg #[.int .i64 (0), .int .i64 (0), .int .i64 (0), .int .i64 (0)]) rfl rfl rfl (e_build tf0 tf3 (vs := []) (cells := #[.int .i64 (0), .int .i64 (0), .int .i64 (0), .int .i64 (0)]) rfl rfl) ?_
      refine l_mu rfl rfl (m_store 0 tf4 (b := b3) (o := 0) (T := 36) (cs := #[.int .i64 (0), .int .i64 (0), .int .i64 (0), .int .i64 (0)]) (cs' := #[.int .i64 (0), .int .i64 (0), .int .i64 (0), .int .i64 (0)]) (v := .agg #[.int .i64 (0), .int .i64 (0), .int .i64 (0), .int .i64 (0)]) rfl rfl rfl rfl rfl rfl rfl) ?_
      refine l_nil ?_
      refine f_then ?_
      refine c_ret ?_
      refine f_then_ret ?_
      refine retG (l := [.cell 4 36]) (m := [.agg #[.int .i64 (0), .int .i64 (0), .int .i64 (0), .int .i64 (0)]]) (v := .agg #[.int .i64 (0), .int .i64 (0), .int .i64 (0), .int .i64 (0)]) Tryz.results12 ⟨rd_cell tf4 (cs := [.int .i64 (0), .int .i64 (0), .int .i64 (0), .int .i64 (0)]) rfl (k_pt 0 (cs := #[.int .i64 (0), .int .i64 (0), .int .i64 (0), .int .i64 (0)]) (vs := [.int .i64 (0), .int .i64 (0), .int .i64 (0), .int .i64 (0)]) rfl rfl) rfl, trivial⟩ rfl ?_
      intro w hw
      exact ⟨by rw [show reachA b gx gy = zeroA from if_neg (fun q => by simp_all)] <;> rfl, st_mask [false, false, false] rfl hw⟩
    ·
      refine c_skip ?_
      refine f_then ?_
      refine c_seq ?_
      have hokb : okB b := (Decidable.not_not.1 hg4)
      have hokv : okV gx gy := (Decidable.not_not.1 hc5)
      obtain ⟨⟨hs1, hs2⟩, hs3, hs4⟩ := speed_bd b gx gy
      obtain ⟨hb1, hb2, hb3, hb4, hb5, hb6, hb7, -, -⟩ := id hokb
      refine c_region ?_
      refine l_val (v := .agg (bC b)) rfl rfl rfl (e_load tf1 (cs := (bodyE b)) rfl (k_pt 2 (cs := (bC b)) (vs := (bodyE b)) rfl rfl) rfl) ?_
      refine l_call rfl rfl rfl (cl_value (fst := []) (cap := []) (vs := [.agg (bC b)]) (all := [.agg (bC b)]) tf87 rfl rfl rfl) ?_
      intro w hw
      obtain ⟨β1, sb, kn, hw1, back⟩ := St.frame_all hw
      refine (bounds5_ok β1 w hw1 b (Decidable.not_not.1 hg4)).mono ?_
      rintro e w' ⟨rfl, hw'⟩
      refine ⟨_, rfl, _, back _ _ hw', ?_⟩
      clear hw hw1 hw' back kn sb
      refine l_val (v := .tuple #[.agg #[Ix (b.x - b.w), Ix (b.y - b.h)], .agg #[Ix (b.x + b.w), Ix (b.y + b.h)]]) rfl rfl rfl (e_move) ?_
      refine l_val (v := .agg #[Ix (b.x - b.w), Ix (b.y - b.h)]) rfl rfl rfl (e_extract (vs := #[.agg #[Ix (b.x - b.w), Ix (b.y - b.h)], .agg #[Ix (b.x + b.w), Ix (b.y + b.h)]]) rfl rfl) ?_
      refine l_val (v := .agg #[Ix (b.x + b.w), Ix (b.y + b.h)]) rfl rfl rfl (e_extract (vs := #[.agg #[Ix (b.x - b.w), Ix (b.y - b.h)], .agg #[Ix (b.x + b.w), Ix (b.y + b.h)]]) rfl rfl) ?_
      refine l_mv rfl rfl rfl (m_alloc tf8) ?_
      rintro _ _ ⟨b6, rfl, rfl⟩
      refine l_mv rfl rfl rfl (m_alloc tf8) ?_
      rintro _ _ ⟨b7, rfl, rfl⟩
      refine l_mu rfl rfl (m_store 1 tf5 (b := b6) (o := 0) (T := 25) (cs := #[.int .i64 (0), .int .i64 (0)]) (cs' := #[Ix (b.x - b.w), Ix (b.y - b.h)]) (v := .agg #[Ix (b.x - b.w), Ix (b.y - b.h)]) rfl rfl rfl rfl rfl rfl rfl) ?_
      refine l_mu rfl rfl (m_store 0 tf5 (b := b7) (o := 0) (T := 25) (cs := #[.int .i64 (0), .int .i64 (0)]) (cs' := #[Ix (b.x + b.w), Ix (b.y + b.h)]) (v := .agg #[Ix (b.x + b.w), Ix (b.y + b.h)]) rfl rfl rfl rfl rfl rfl rfl) ?_
      refine l_nil ?_
      refine f_then ?_
      refine c_seq ?_
      refine c_region ?_
      refine l_val (v := .agg (bC b)) rfl rfl rfl (e_load tf1 (cs := (bodyE b)) rfl (k_pt 4 (cs := (bC b)) (vs := (bodyE b)) rfl rfl) rfl) ?_
      refine l_val (v := .agg #[Ix (gx), Ix (gy)]) rfl rfl rfl (e_load tf5 (cs := [Ix (gx), Ix (gy)]) rfl (k_pt 3 (cs := #[Ix (gx), Ix (gy)]) (vs := [Ix (gx), Ix (gy)]) rfl rfl) rfl) ?_
      refine l_call rfl rfl rfl (cl_value (fst := []) (cap := []) (vs := [.agg (bC b), .agg #[Ix (gx), Ix (gy)]]) (all := [.agg (bC b), .agg #[Ix (gx), Ix (gy)]]) tf88 rfl rfl rfl) ?_
      intro w hw
      obtain ⟨β1, sb, kn, hw1, back⟩ := St.frame_all hw
      refine (speed7_ok β1 w hw1 b gx gy).mono ?_
      rintro e w' ⟨rfl, hw'⟩
      refine ⟨_, rfl, _, back _ _ hw', ?_⟩
      clear hw hw1 hw' back kn sb
      refine l_mv rfl rfl rfl (m_alloc tf8) ?_
      rintro _ _ ⟨b8, rfl, rfl⟩
      refine l_mu rfl rfl (m_store 0 tf5 (b := b8) (o := 0) (T := 25) (cs := #[.int .i64 (0), .int .i64 (0)]) (cs' := #[Ix (speedX b gx gy), Ix (speedY b gx gy)]) (v := .agg #[Ix (speedX b gx gy), Ix (speedY b gx gy)]) rfl rfl rfl rfl rfl rfl rfl) ?_
      refine l_nil ?_
      refine f_then ?_
      refine c_seq ?_
      refine c_region ?_
      refine l_val (v := .pointer (some ⟨b6, 0, none⟩)) rfl rfl rfl (e_fieldPt (b := b6) (o := 0) rfl tf10) ?_
      refine l_val (v := Ix (b.x - b.w)) rfl rfl rfl (e_load1 tf11 (v := Ix (b.x - b.w)) rfl (k_pt 2 (cs := #[Ix (b.x - b.w), Ix (b.y - b.h)]) (vs := [Ix (b.x - b.w)]) rfl rfl)) ?_
      refine l_val (v := .pointer (some ⟨b8, 0, none⟩)) rfl rfl rfl (e_fieldPt (b := b8) (o := 0) rfl tf10) ?_
      refine l_val (v := Ix (speedX b gx gy)) rfl rfl rfl (e_load1 tf11 (v := Ix (speedX b gx gy)) rfl (k_pt 0 (cs := #[Ix (speedX b gx gy), Ix (speedY b gx gy)]) (vs := [Ix (speedX b gx gy)]) rfl rfl)) ?_
      refine l_val (v := Ix ((b.x - b.w) + (speedX b gx gy))) rfl rfl rfl (e_add (a := (b.x - b.w)) (b := (speedX b gx gy)) rfl rfl (i64w (by omega))) ?_
      refine l_val (v := .pointer (some ⟨b6, 1, none⟩)) rfl rfl rfl (e_fieldPt (b := b6) (o := 0) rfl tf12) ?_
      refine l_val (v := Ix (b.y - b.h)) rfl rfl rfl (e_load1 tf11 (v := Ix (b.y - b.h)) rfl (k_pt 2 (cs := #[Ix (b.x - b.w), Ix (b.y - b.h)]) (vs := [Ix (b.y - b.h)]) rfl rfl)) ?_
      refine l_val (v := .pointer (some ⟨b8, 1, none⟩)) rfl rfl rfl (e_fieldPt (b := b8) (o := 0) rfl tf12) ?_
      refine l_val (v := Ix (speedY b gx gy)) rfl rfl rfl (e_load1 tf11 (v := Ix (speedY b gx gy)) rfl (k_pt 0 (cs := #[Ix (speedX b gx gy), Ix (speedY b gx gy)]) (vs := [Ix (speedY b gx gy)]) rfl rfl)) ?_
      refine l_val (v := Ix ((b.y - b.h) + (speedY b gx gy))) rfl rfl rfl (e_add (a := (b.y - b.h)) (b := (speedY b gx gy)) rfl rfl (i64w (by omega))) ?_
      refine l_val (v := .agg #[Ix ((b.x - b.w) + (speedX b gx gy)), Ix ((b.y - b.h) + (speedY b gx gy))]) rfl rfl rfl (e_build tf8 tf13 (vs := [(0, Ix ((b.x - b.w) + (speedX b gx gy))), (1, Ix ((b.y - b.h) + (speedY b gx gy)))]) (cells := #[Ix ((b.x - b.w) + (speedX b gx gy)), Ix ((b.y - b.h) + (speedY b gx gy))]) rfl rfl) ?_
      refine l_val (v := .pointer (some ⟨b7, 0, none⟩)) rfl rfl rfl (e_fieldPt (b := b7) (o := 0) rfl tf10) ?_
      refine l_val (v := Ix (b.x + b.w)) rfl rfl rfl (e_load1 tf11 (v := Ix (b.x + b.w)) rfl (k_pt 1 (cs := #[Ix (b.x + b.w), Ix (b.y + b.h)]) (vs := [Ix (b.x + b.w)]) rfl rfl)) ?_
      refine l_val (v := .pointer (some ⟨b8, 0, none⟩)) rfl rfl rfl (e_fieldPt (b := b8) (o := 0) rfl tf10) ?_
      refine l_val (v := Ix (speedX b gx gy)) rfl rfl rfl (e_load1 tf11 (v := Ix (speedX b gx gy)) rfl (k_pt 0 (cs := #[Ix (speedX b gx gy), Ix (speedY b gx gy)]) (vs := [Ix (speedX b gx gy)]) rfl rfl)) ?_
      refine l_val (v := Ix ((b.x + b.w) + (speedX b gx gy))) rfl rfl rfl (e_add (a := (b.x + b.w)) (b := (speedX b gx gy)) rfl rfl (i64w (by omega))) ?_
      refine l_val (v := .pointer (some ⟨b7, 1, none⟩)) rfl rfl rfl (e_fieldPt (b := b7) (o := 0) rfl tf12) ?_
      refine l_val (v := Ix (b.y + b.h)) rfl rfl rfl (e_load1 tf11 (v := Ix (b.y + b.h)) rfl (k_pt 1 (cs := #[Ix (b.x + b.w), Ix (b.y + b.h)]) (vs := [Ix (b.y + b.h)]) rfl rfl)) ?_
      refine l_val (v := .pointer (some ⟨b8, 1, none⟩)) rfl rfl rfl (e_fieldPt (b := b8) (o := 0) rfl tf12) ?_
      refine l_val (v := Ix (speedY b gx gy)) rfl rfl rfl (e_load1 tf11 (v := Ix (speedY b gx gy)) rfl (k_pt 0 (cs := #[Ix (speedX b gx gy), Ix (speedY b gx gy)]) (vs := [Ix (speedY b gx gy)]) rfl rfl)) ?_
      refine l_val (v := Ix ((b.y + b.h) + (speedY b gx gy))) rfl rfl rfl (e_add (a := (b.y + b.h)) (b := (speedY b gx gy)) rfl rfl (i64w (by omega))) ?_
      refine l_val (v := .agg #[Ix ((b.x + b.w) + (speedX b gx gy)), Ix ((b.y + b.h) + (speedY b gx gy))]) rfl rfl rfl (e_build tf8 tf13 (vs := [(0, Ix ((b.x + b.w) + (speedX b gx gy))), (1, Ix ((b.y + b.h) + (speedY b gx gy)))]) (cells := #[Ix ((b.x + b.w) + (speedX b gx gy)), Ix ((b.y + b.h) + (speedY b gx gy))]) rfl rfl) ?_
      refine l_val (v := .agg #[Ix ((b.x - b.w) + (speedX b gx gy)), Ix ((b.y - b.h) + (speedY b gx gy)), Ix ((b.x + b.w) + (speedX b gx gy)), Ix ((b.y + b.h) + (speedY b gx gy))]) rfl rfl rfl (e_build tf0 tf3 (vs := [(0, .agg #[Ix ((b.x - b.w) + (speedX b gx gy)), Ix ((b.y - b.h) + (speedY b gx gy))]), (1, .agg #[Ix ((b.x + b.w) + (speedX b gx gy)), Ix ((b.y + b.h) + (speedY b gx gy))])]) (cells := #[Ix ((b.x - b.w) + (speedX b gx gy)), Ix ((b.y - b.h) + (speedY b gx gy)), Ix ((b.x + b.w) + (speedX b gx gy)), Ix ((b.y + b.h) + (speedY b gx gy))]) rfl rfl) ?_
      refine l_mv rfl rfl rfl (m_alloc tf0) ?_
      rintro _ _ ⟨b9, rfl, rfl⟩
      refine l_mu rfl rfl (m_store 0 tf4 (b := b9) (o := 0) (T := 36) (cs := #[.int .i64 (0), .int .i64 (0), .int .i64 (0), .int .i64 (0)]) (cs' := #[Ix ((b.x - b.w) + (speedX b gx gy)), Ix ((b.y - b.h) + (speedY b gx gy)), Ix ((b.x + b.w) + (speedX b gx gy)), Ix ((b.y + b.h) + (speedY b gx gy))]) (v := .agg #[Ix ((b.x - b.w) + (speedX b gx gy)), Ix ((b.y - b.h) + (speedY b gx gy)), Ix ((b.x + b.w) + (speedX b gx gy)), Ix ((b.y + b.h) + (speedY b gx gy))]) rfl rfl rfl rfl rfl rfl rfl) ?_
      refine l_nil ?_
      refine f_then ?_
      refine c_seq ?_
      refine c_region ?_
      refine l_val (v := .agg #[Ix (b.x - b.w), Ix (b.y - b.h)]) rfl rfl rfl (e_load tf5 (cs := [Ix (b.x - b.w), Ix (b.y - b.h)]) rfl (k_pt 3 (cs := #[Ix (b.x - b.w), Ix (b.y - b.h)]) (vs := [Ix (b.x - b.w), Ix (b.y - b.h)]) rfl rfl) rfl) ?_
      refine l_val (v := .agg #[Ix (b.x + b.w), Ix (b.y + b.h)]) rfl rfl rfl (e_load tf5 (cs := [Ix (b.x + b.w), Ix (b.y + b.h)]) rfl (k_pt 2 (cs := #[Ix (b.x + b.w), Ix (b.y + b.h)]) (vs := [Ix (b.x + b.w), Ix (b.y + b.h)]) rfl rfl) rfl) ?_
      refine l_val (v := .agg #[Ix (b.x - b.w), Ix (b.y - b.h), Ix (b.x + b.w), Ix (b.y + b.h)]) rfl rfl rfl (e_build tf0 tf3 (vs := [(0, .agg #[Ix (b.x - b.w), Ix (b.y - b.h)]), (1, .agg #[Ix (b.x + b.w), Ix (b.y + b.h)])]) (cells := #[Ix (b.x - b.w), Ix (b.y - b.h), Ix (b.x + b.w), Ix (b.y + b.h)]) rfl rfl) ?_
      refine l_val (v := .agg #[Ix ((b.x - b.w) + (speedX b gx gy)), Ix ((b.y - b.h) + (speedY b gx gy)), Ix ((b.x + b.w) + (speedX b gx gy)), Ix ((b.y + b.h) + (speedY b gx gy))]) rfl rfl rfl (e_load tf4 (cs := [Ix ((b.x - b.w) + (speedX b gx gy)), Ix ((b.y - b.h) + (speedY b gx gy)), Ix ((b.x + b.w) + (speedX b gx gy)), Ix ((b.y + b.h) + (speedY b gx gy))]) rfl (k_pt 0 (cs := #[Ix ((b.x - b.w) + (speedX b gx gy)), Ix ((b.y - b.h) + (speedY b gx gy)), Ix ((b.x + b.w) + (speedX b gx gy)), Ix ((b.y + b.h) + (speedY b gx gy))]) (vs := [Ix ((b.x - b.w) + (speedX b gx gy)), Ix ((b.y - b.h) + (speedY b gx gy)), Ix ((b.x + b.w) + (speedX b gx gy)), Ix ((b.y + b.h) + (speedY b gx gy))]) rfl rfl) rfl) ?_
      refine l_call rfl rfl rfl (cl_value (fst := []) (cap := []) (vs := [.agg #[Ix (b.x - b.w), Ix (b.y - b.h), Ix (b.x + b.w), Ix (b.y + b.h)], .agg #[Ix ((b.x - b.w) + (speedX b gx gy)), Ix ((b.y - b.h) + (speedY b gx gy)), Ix ((b.x + b.w) + (speedX b gx gy)), Ix ((b.y + b.h) + (speedY b gx gy))]]) (all := [.agg #[Ix (b.x - b.w), Ix (b.y - b.h), Ix (b.x + b.w), Ix (b.y + b.h)], .agg #[Ix ((b.x - b.w) + (speedX b gx gy)), Ix ((b.y - b.h) + (speedY b gx gy)), Ix ((b.x + b.w) + (speedX b gx gy)), Ix ((b.y + b.h) + (speedY b gx gy))]]) tf89 rfl rfl rfl) ?_
      intro w hw
      obtain ⟨β1, sb, kn, hw1, back⟩ := St.frame_all hw
      refine (rjoin_ok β1 w hw1 (⟨b.x - b.w, b.y - b.h, b.x + b.w, b.y + b.h⟩ : KA) (⟨b.x - b.w + speedX b gx gy, b.y - b.h + speedY b gx gy, b.x + b.w + speedX b gx gy, b.y + b.h + speedY b gx gy⟩ : KA)).mono ?_
      rintro e w' ⟨rfl, hw'⟩
      refine ⟨_, rfl, _, back _ _ hw', ?_⟩
      clear hw hw1 hw' back kn sb
      refine l_mu rfl rfl (m_store 4 tf4 (b := b3) (o := 0) (T := 36) (cs := #[.int .i64 (0), .int .i64 (0), .int .i64 (0), .int .i64 (0)]) (cs' := (aC (joinR (⟨b.x - b.w, b.y - b.h, b.x + b.w, b.y + b.h⟩ : KA) (⟨b.x - b.w + speedX b gx gy, b.y - b.h + speedY b gx gy, b.x + b.w + speedX b gx gy, b.y + b.h + speedY b gx gy⟩ : KA)))) (v := .agg (aC (joinR (⟨b.x - b.w, b.y - b.h, b.x + b.w, b.y + b.h⟩ : KA) (⟨b.x - b.w + speedX b gx gy, b.y - b.h + speedY b gx gy, b.x + b.w + speedX b gx gy, b.y + b.h + speedY b gx gy⟩ : KA)))) rfl rfl rfl rfl rfl rfl rfl) ?_
      refine l_nil ?_
      refine f_then ?_
      refine c_ret ?_
      refine retG (l := [.cell 4 36]) (m := [.agg (aC (joinR (⟨b.x - b.w, b.y - b.h, b.x + b.w, b.y + b.h⟩ : KA) (⟨b.x - b.w + speedX b gx gy, b.y - b.h + speedY b gx gy, b.x + b.w + speedX b gx gy, b.y + b.h + speedY b gx gy⟩ : KA)))]) (v := .agg (aC (joinR (⟨b.x - b.w, b.y - b.h, b.x + b.w, b.y + b.h⟩ : KA) (⟨b.x - b.w + speedX b gx gy, b.y - b.h + speedY b gx gy, b.x + b.w + speedX b gx gy, b.y + b.h + speedY b gx gy⟩ : KA)))) Tryz.results12 ⟨rd_cell tf4 (cs := (areaE (joinR (⟨b.x - b.w, b.y - b.h, b.x + b.w, b.y + b.h⟩ : KA) (⟨b.x - b.w + speedX b gx gy, b.y - b.h + speedY b gx gy, b.x + b.w + speedX b gx gy, b.y + b.h + speedY b gx gy⟩ : KA)))) rfl (k_pt 4 (cs := (aC (joinR (⟨b.x - b.w, b.y - b.h, b.x + b.w, b.y + b.h⟩ : KA) (⟨b.x - b.w + speedX b gx gy, b.y - b.h + speedY b gx gy, b.x + b.w + speedX b gx gy, b.y + b.h + speedY b gx gy⟩ : KA)))) (vs := (areaE (joinR (⟨b.x - b.w, b.y - b.h, b.x + b.w, b.y + b.h⟩ : KA) (⟨b.x - b.w + speedX b gx gy, b.y - b.h + speedY b gx gy, b.x + b.w + speedX b gx gy, b.y + b.h + speedY b gx gy⟩ : KA)))) rfl rfl) rfl, trivial⟩ rfl ?_
      intro w hw
      exact ⟨by rw [← reach_join hokb hokv], st_mask [false, false, false, false, false, false, false] rfl hw⟩
set_option maxHeartbeats 4000000 in
theorem reachL_ok (β : Base) (w : World) (hw : St β [] w) (b : KB) (gx gy : Int) (hgx : -9223372036854775808 ≤ gx ∧ gx ≤ 9223372036854775807) (hgy : -9223372036854775808 ≤ gy ∧ gy ≤ 9223372036854775807) : Calls Tryz.prog 4 #[.agg (bC b), .agg #[Ix gx, Ix gy]] w fun r w' => r = .returned (.bool true) ∧ St β [] w' := by
  refine enter (n := 24) Tryz.func4 rfl Tryz.ntmps4 rfl ?_ hw
  refine c_seq ?_
  refine c_region ?_
  refine l_mv rfl rfl rfl (m_box (v := .agg (bC b)) rfl) ?_
  rintro _ _ ⟨b1, rfl, rfl⟩
  refine l_mv rfl rfl rfl (m_box (v := .agg #[Ix (gx), Ix (gy)]) rfl) ?_
  rintro _ _ ⟨b2, rfl, rfl⟩
  refine l_val (v := .bool false) rfl rfl rfl (e_assign) ?_
  refine l_nil ?_
  refine f_then ?_
  refine c_seq ?_
  refine c_any [⟨[], [], [0], [5], fun f => f 5 = .agg (bC b)⟩, ⟨[], [], [1], [6], fun f => f 6 = .agg #[Ix (gx), Ix (gy)]⟩, ⟨[0, 1], [0, 1], [], [7], fun f => f 7 = .agg #[Ix (speedX b gx gy), Ix (speedY b gx gy)]⟩, ⟨[], [], [0], [8], fun f => f 8 = .agg (bC b)⟩, ⟨[], [], [1], [9], fun f => f 9 = .agg #[Ix (gx), Ix (gy)]⟩, ⟨[0, 1, 2, 3, 4], [3, 4], [], [10], fun f => f 10 = .agg #[Ix (speedX b gx gy), Ix (speedY b gx gy)]⟩, ⟨[0, 1, 2, 3, 4, 5], [2, 5], [], [11], fun f => f 11 = .bool true⟩, ⟨[0, 1, 2, 3, 4, 5, 6], [6], [], [12], fun f => f 12 = .bool true⟩, ⟨[0, 1, 2, 3, 4, 5, 6, 7], [7], [0], [13], fun f => f 13 = .agg (bC b)⟩, ⟨[0, 1, 2, 3, 4, 5, 6, 7], [7], [1], [14], fun f => f 14 = .agg #[Ix (gx), Ix (gy)]⟩, ⟨[0, 1, 2, 3, 4, 5, 6, 7, 8, 9], [8, 9, 7], [], [15], fun f => f 15 = .agg (aC (reachA b gx gy))⟩, ⟨[0, 1, 2, 3, 4, 5, 6, 7], [7], [0], [16], fun f => f 16 = .agg (bC b)⟩, ⟨[0, 1, 2, 3, 4, 5, 6, 7], [7], [1], [17], fun f => f 17 = .agg #[Ix (gx), Ix (gy)]⟩, ⟨[0, 1, 2, 3, 4, 5, 6, 7, 8, 9, 10, 11, 12], [11, 12, 7], [], [18], fun f => f 18 = .agg (aC (reachA b gx gy))⟩, ⟨[0, 1, 2, 3, 4, 5, 6, 7, 8, 9, 10, 11, 12, 13], [10, 13, 7], [], [19], fun f => f 19 = .bool true⟩, ⟨[0, 1, 2, 3, 4, 5, 6, 7, 8, 9, 10, 11, 12, 13, 14], [7, 14], [], [20], fun f => f 20 = .bool true⟩, ⟨[0, 1, 2, 3, 4, 5, 6, 7, 8, 9, 10, 11, 12, 13, 14, 15], [15], [], [21], fun f => f 21 = .bool true⟩, ⟨[0, 1, 2, 3, 4, 5, 6, 7, 8, 9, 10, 11, 12, 13, 14, 15, 16], [16], [], [22], fun f => f 22 = .bool true⟩, ⟨[0, 1, 2, 3, 4, 5, 6, 7, 8, 9, 10, 11, 12, 13, 14, 15, 16, 17], [16, 17], [], [23], fun f => f 23 = .bool true⟩, ⟨[0, 1, 2, 3, 4, 5, 6, 7, 8, 9, 10, 11, 12, 13, 14, 15, 16, 17, 18], [18], [], [4], fun f => f 4 = .bool true⟩] [⟨none, none, [1, 4, 9, 12], [], fun _ => pt b2 (.cells #[Ix (gx), Ix (gy)] 25)⟩, ⟨none, none, [0, 3, 8, 11], [], fun _ => pt b1 (.cells (bC b) 33)⟩] [(2, .pointer (some ⟨b1, 0, none⟩)), (3, .pointer (some ⟨b2, 0, none⟩))] [] [] (by kernel_rfl) (by kernel_rfl) (by kernel_rfl) (by kernel_rfl) rfl ⟨rfl, rfl, trivial⟩ ⟨?_, ?_, ?_, ?_, ?_, ?_, ?_, ?_, ?_, ?_, ?_, ?_, ?_, ?_, ?_, ?_, ?_, ?_, ?_, ?_, trivial⟩ ?_
  · rintro f M - ⟨i0, -⟩
    have hs2 : f 2 = .pointer (some ⟨b1, 0, none⟩) := i0
    refine ob_start (L' := pt b1 (.cells (bC b) 33) :: M) (by rfl) (up_cons rfl hs2) ?_
    refine l_val (v := .agg (bC b)) rfl rfl rfl (e_load tf1 (cs := (bodyE b)) rfl (k_pt 0 (cs := (bC b)) (vs := (bodyE b)) rfl rfl) rfl) ?_
    refine l_nil ?_
    exact f_owes_d (up_cons rfl hs2) rfl (perm_front 0 rfl)
  · rintro f M - ⟨i0, -⟩
    have hs3 : f 3 = .pointer (some ⟨b2, 0, none⟩) := i0
    refine ob_start (L' := pt b2 (.cells #[Ix (gx), Ix (gy)] 25) :: M) (by rfl) (up_cons rfl hs3) ?_
    refine l_val (v := .agg #[Ix (gx), Ix (gy)]) rfl rfl rfl (e_load tf5 (cs := [Ix (gx), Ix (gy)]) rfl (k_pt 0 (cs := #[Ix (gx), Ix (gy)]) (vs := [Ix (gx), Ix (gy)]) rfl rfl) rfl) ?_
    refine l_nil ?_
    exact f_owes_d (up_cons rfl hs3) rfl (perm_front 0 rfl)
  · rintro f M ⟨k0, k1, -⟩ -
    have hs5 : f 5 = .agg (bC b) := k0
    have hs6 : f 6 = .agg #[Ix (gx), Ix (gy)] := k1
    refine ob_start (L' := M) (by rfl) (up_cons (up_cons rfl hs5) hs6) ?_
    refine l_call rfl rfl rfl (cl_value (fst := []) (cap := []) (vs := [.agg (bC b), .agg #[Ix (gx), Ix (gy)]]) (all := [.agg (bC b), .agg #[Ix (gx), Ix (gy)]]) tf9 rfl rfl rfl) ?_
    intro w hw
    obtain ⟨β1, sb, kn, hw1, back⟩ := St.frame_all hw
    refine (speed_ok β1 w hw1 b gx gy (by omega) (by omega)).mono ?_
    rintro e w' ⟨rfl, hw'⟩
    refine ⟨_, rfl, _, back _ _ hw', ?_⟩
    clear hw hw1 hw' back kn sb
    refine l_nil ?_
    exact f_owes_d (up_cons (up_cons rfl hs5) hs6) rfl (List.Perm.refl _)
  · rintro f M - ⟨i0, -⟩
    have hs2 : f 2 = .pointer (some ⟨b1, 0, none⟩) := i0
    refine ob_start (L' := pt b1 (.cells (bC b) 33) :: M) (by rfl) (up_cons rfl hs2) ?_
    refine l_val (v := .agg (bC b)) rfl rfl rfl (e_load tf1 (cs := (bodyE b)) rfl (k_pt 0 (cs := (bC b)) (vs := (bodyE b)) rfl rfl) rfl) ?_
    refine l_nil ?_
    exact f_owes_d (up_cons rfl hs2) rfl (perm_front 0 rfl)
  · rintro f M - ⟨i0, -⟩
    have hs3 : f 3 = .pointer (some ⟨b2, 0, none⟩) := i0
    refine ob_start (L' := pt b2 (.cells #[Ix (gx), Ix (gy)] 25) :: M) (by rfl) (up_cons rfl hs3) ?_
    refine l_val (v := .agg #[Ix (gx), Ix (gy)]) rfl rfl rfl (e_load tf5 (cs := [Ix (gx), Ix (gy)]) rfl (k_pt 0 (cs := #[Ix (gx), Ix (gy)]) (vs := [Ix (gx), Ix (gy)]) rfl rfl) rfl) ?_
    refine l_nil ?_
    exact f_owes_d (up_cons rfl hs3) rfl (perm_front 0 rfl)
  · rintro f M ⟨k0, k1, -⟩ -
    have hs8 : f 8 = .agg (bC b) := k0
    have hs9 : f 9 = .agg #[Ix (gx), Ix (gy)] := k1
    refine ob_start (L' := M) (by rfl) (up_cons (up_cons rfl hs8) hs9) ?_
    refine l_call rfl rfl rfl (cl_value (fst := []) (cap := []) (vs := [.agg (bC b), .agg #[Ix (gx), Ix (gy)]]) (all := [.agg (bC b), .agg #[Ix (gx), Ix (gy)]]) tf88 rfl rfl rfl) ?_
    intro w hw
    obtain ⟨β1, sb, kn, hw1, back⟩ := St.frame_all hw
    refine (speed7_ok β1 w hw1 b gx gy).mono ?_
    rintro e w' ⟨rfl, hw'⟩
    refine ⟨_, rfl, _, back _ _ hw', ?_⟩
    clear hw hw1 hw' back kn sb
    refine l_nil ?_
    exact f_owes_d (up_cons (up_cons rfl hs8) hs9) rfl (List.Perm.refl _)
  · rintro f M ⟨k0, k1, -⟩ -
    have hs7 : f 7 = .agg #[Ix (speedX b gx gy), Ix (speedY b gx gy)] := k0
    have hs10 : f 10 = .agg #[Ix (speedX b gx gy), Ix (speedY b gx gy)] := k1
    refine ob_start (L' := M) (by rfl) (up_cons (up_cons rfl hs7) hs10) ?_
    refine l_val (v := .bool true) rfl rfl rfl ((ev_t ⟨rfl, rfl⟩ (e_eql_t (xs := [Ix (speedX b gx gy), Ix (speedY b gx gy)]) (ys := [Ix (speedX b gx gy), Ix (speedY b gx gy)]) tf90 tf91 tf92 rfl rfl rfl rfl vec_eq))) ?_
    refine l_nil ?_
    exact f_owes_d (up_cons (up_cons rfl hs7) hs10) rfl (List.Perm.refl _)
  · rintro f M ⟨k0, -⟩ -
    have hs11 : f 11 = .bool true := k0
    refine ob_start (L' := M) (by rfl) (up_cons rfl hs11) ?_
    refine l_val (v := .bool true) rfl rfl rfl (e_move) ?_
    refine l_nil ?_
    exact f_owes_d (up_cons rfl hs11) rfl (List.Perm.refl _)
  · rintro f M ⟨k0, -⟩ ⟨i0, -⟩
    have hs2 : f 2 = .pointer (some ⟨b1, 0, none⟩) := i0
    have hs12 : f 12 = .bool true := k0
    refine ob_start (L' := pt b1 (.cells (bC b) 33) :: M) (by rfl) (up_cons (up_cons rfl hs2) hs12) ?_
    refine g_val (v := .agg (bC b)) rfl rfl rfl rfl rfl (e_load tf1 (cs := (bodyE b)) rfl (k_pt 0 (cs := (bC b)) (vs := (bodyE b)) rfl rfl) rfl) ?_
    refine l_nil ?_
    exact f_owes_d (up_cons (up_cons rfl hs2) hs12) rfl (perm_front 0 rfl)
  · rintro f M ⟨k0, -⟩ ⟨i0, -⟩
    have hs3 : f 3 = .pointer (some ⟨b2, 0, none⟩) := i0
    have hs12 : f 12 = .bool true := k0
    refine ob_start (L' := pt b2 (.cells #[Ix (gx), Ix (gy)] 25) :: M) (by rfl) (up_cons (up_cons rfl hs3) hs12) ?_
    refine g_val (v := .agg #[Ix (gx), Ix (gy)]) rfl rfl rfl rfl rfl (e_load tf5 (cs := [Ix (gx), Ix (gy)]) rfl (k_pt 0 (cs := #[Ix (gx), Ix (gy)]) (vs := [Ix (gx), Ix (gy)]) rfl rfl) rfl) ?_
    refine l_nil ?_
    exact f_owes_d (up_cons (up_cons rfl hs3) hs12) rfl (perm_front 0 rfl)
  · rintro f M ⟨k0, k1, k2, -⟩ -
    have hs13 : f 13 = .agg (bC b) := k0
    have hs14 : f 14 = .agg #[Ix (gx), Ix (gy)] := k1
    have hs12 : f 12 = .bool true := k2
    refine ob_start (L' := M) (by rfl) (up_cons (up_cons (up_cons rfl hs13) hs14) hs12) ?_
    refine g_call rfl rfl rfl rfl rfl (cl_value (fst := []) (cap := []) (vs := [.agg (bC b), .agg #[Ix (gx), Ix (gy)]]) (all := [.agg (bC b), .agg #[Ix (gx), Ix (gy)]]) tf41 rfl rfl rfl) ?_
    intro w hw
    obtain ⟨β1, sb, kn, hw1, back⟩ := St.frame_all hw
    refine (reachA_ok β1 w hw1 b gx gy (by omega) (by omega)).mono ?_
    rintro e w' ⟨rfl, hw'⟩
    refine ⟨_, rfl, _, back _ _ hw', ?_⟩
    clear hw hw1 hw' back kn sb
    refine l_nil ?_
    exact f_owes_d (up_cons (up_cons (up_cons rfl hs13) hs14) hs12) rfl (List.Perm.refl _)
  · rintro f M ⟨k0, -⟩ ⟨i0, -⟩
    have hs2 : f 2 = .pointer (some ⟨b1, 0, none⟩) := i0
    have hs12 : f 12 = .bool true := k0
    refine ob_start (L' := pt b1 (.cells (bC b) 33) :: M) (by rfl) (up_cons (up_cons rfl hs2) hs12) ?_
    refine g_val (v := .agg (bC b)) rfl rfl rfl rfl rfl (e_load tf1 (cs := (bodyE b)) rfl (k_pt 0 (cs := (bC b)) (vs := (bodyE b)) rfl rfl) rfl) ?_
    refine l_nil ?_
    exact f_owes_d (up_cons (up_cons rfl hs2) hs12) rfl (perm_front 0 rfl)
  · rintro f M ⟨k0, -⟩ ⟨i0, -⟩
    have hs3 : f 3 = .pointer (some ⟨b2, 0, none⟩) := i0
    have hs12 : f 12 = .bool true := k0
    refine ob_start (L' := pt b2 (.cells #[Ix (gx), Ix (gy)] 25) :: M) (by rfl) (up_cons (up_cons rfl hs3) hs12) ?_
    refine g_val (v := .agg #[Ix (gx), Ix (gy)]) rfl rfl rfl rfl rfl (e_load tf5 (cs := [Ix (gx), Ix (gy)]) rfl (k_pt 0 (cs := #[Ix (gx), Ix (gy)]) (vs := [Ix (gx), Ix (gy)]) rfl rfl) rfl) ?_
    refine l_nil ?_
    exact f_owes_d (up_cons (up_cons rfl hs3) hs12) rfl (perm_front 0 rfl)
  · rintro f M ⟨k0, k1, k2, -⟩ -
    have hs16 : f 16 = .agg (bC b) := k0
    have hs17 : f 17 = .agg #[Ix (gx), Ix (gy)] := k1
    have hs12 : f 12 = .bool true := k2
    refine ob_start (L' := M) (by rfl) (up_cons (up_cons (up_cons rfl hs16) hs17) hs12) ?_
    refine g_call rfl rfl rfl rfl rfl (cl_value (fst := []) (cap := []) (vs := [.agg (bC b), .agg #[Ix (gx), Ix (gy)]]) (all := [.agg (bC b), .agg #[Ix (gx), Ix (gy)]]) tf93 rfl rfl rfl) ?_
    intro w hw
    obtain ⟨β1, sb, kn, hw1, back⟩ := St.frame_all hw
    refine (rreach_ok β1 w hw1 b gx gy (by omega) (by omega)).mono ?_
    rintro e w' ⟨rfl, hw'⟩
    refine ⟨_, rfl, _, back _ _ hw', ?_⟩
    clear hw hw1 hw' back kn sb
    refine l_nil ?_
    exact f_owes_d (up_cons (up_cons (up_cons rfl hs16) hs17) hs12) rfl (List.Perm.refl _)
  · rintro f M ⟨k0, k1, k2, -⟩ -
    have hs15 : f 15 = .agg (aC (reachA b gx gy)) := k0
    have hs18 : f 18 = .agg (aC (reachA b gx gy)) := k1
    have hs12 : f 12 = .bool true := k2
    refine ob_start (L' := M) (by rfl) (up_cons (up_cons (up_cons rfl hs15) hs18) hs12) ?_
    refine g_val (v := .bool true) rfl rfl rfl rfl rfl ((ev_t rfl (e_eql_t (xs := (areaE (reachA b gx gy))) (ys := (areaE (reachA b gx gy))) tf78 tf79 tf80 rfl rfl rfl rfl area_eq))) ?_
    refine l_nil ?_
    exact f_owes_d (up_cons (up_cons (up_cons rfl hs15) hs18) hs12) rfl (List.Perm.refl _)
  · rintro f M ⟨k0, k1, -⟩ -
    have hs12 : f 12 = .bool true := k0
    have hs19 : f 19 = .bool true := k1
    refine ob_start (L' := M) (by rfl) (up_cons (up_cons rfl hs12) hs19) ?_
    refine l_val (v := .bool true) rfl rfl rfl (e_pick_t rfl) ?_
    refine l_nil ?_
    exact f_owes_d (up_cons (up_cons rfl hs12) hs19) rfl (List.Perm.refl _)
  · rintro f M ⟨k0, -⟩ -
    have hs20 : f 20 = .bool true := k0
    refine ob_start (L' := M) (by rfl) (up_cons rfl hs20) ?_
    refine l_val (v := .bool true) rfl rfl rfl (e_move) ?_
    refine l_nil ?_
    exact f_owes_d (up_cons rfl hs20) rfl (List.Perm.refl _)
  · rintro f M ⟨k0, -⟩ -
    have hs21 : f 21 = .bool true := k0
    refine ob_start (L' := M) (by rfl) (up_cons rfl hs21) ?_
    refine g_call rfl rfl rfl rfl rfl (cl_value (fst := []) (cap := []) (vs := []) (all := []) tf94 rfl rfl rfl) ?_
    intro w hw
    obtain ⟨β1, sb, kn, hw1, back⟩ := St.frame_all hw
    refine (awake_ok β1 w hw1).mono ?_
    rintro e w' ⟨rfl, hw'⟩
    refine ⟨_, rfl, _, back _ _ hw', ?_⟩
    clear hw hw1 hw' back kn sb
    refine l_nil ?_
    exact f_owes_d (up_cons rfl hs21) rfl (List.Perm.refl _)
  · rintro f M ⟨k0, k1, -⟩ -
    have hs21 : f 21 = .bool true := k0
    have hs22 : f 22 = .bool true := k1
    refine ob_start (L' := M) (by rfl) (up_cons (up_cons rfl hs21) hs22) ?_
    refine l_val (v := .bool true) rfl rfl rfl (e_pick_t rfl) ?_
    refine l_nil ?_
    exact f_owes_d (up_cons (up_cons rfl hs21) hs22) rfl (List.Perm.refl _)
  · rintro f M ⟨k0, -⟩ -
    have hs23 : f 23 = .bool true := k0
    refine ob_start (L' := M) (by rfl) (up_cons rfl hs23) ?_
    refine l_val (v := .bool true) rfl rfl rfl (e_assign) ?_
    refine l_nil ?_
    exact f_owes_d (up_cons rfl hs23) rfl (List.Perm.refl _)
  rintro fa3 ⟨-, -, -, -, -, -, -, -, -, -, -, -, -, -, -, -, -, -, -, k19, -⟩ -
  refine f_re (L' := [pt b2 (.cells #[Ix (gx), Ix (gy)] 25), pt b1 (.cells (bC b) 33)]) (by rfl) ?_
  refine f_rebase (d := 4) (v := .bool true) k19 ?_
  refine f_then ?_
  refine c_ret ?_
  refine ret1 Tryz.results4 (v := .bool true) rfl ?_
  intro w hw
  exact ⟨rfl, st_mask [false, false] rfl hw⟩
end Go.Proofs
