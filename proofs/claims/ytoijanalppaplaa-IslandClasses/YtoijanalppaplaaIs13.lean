/-
  meets: walked. Printed by a program of my own.
-/
import Derived.Test.YtoijanalppaplaaIs11
namespace Go.Proofs
open Go Go.Sl Go.Brd Go.Stp Go.Isl
theorem tf84 : fldB Try.prog 46 0 0 2 true = true := by kernel_rfl
theorem tf85 : fldB Try.prog 46 1 2 2 true = true := by kernel_rfl
set_option maxHeartbeats 4000000 in
theorem meets_ok (β : Base) (w : World) (hw : St β [] w) (a b : KA) : Calls Try.prog 14 #[.agg (aC a), .agg (aC b)] w fun r w' => r = .returned (.bool (decide (touchA a b))) ∧ St β [] w' := by
  refine enter (n := 39) Try.func14 rfl Try.ntmps14 rfl ?_ hw
  refine c_seq ?_
  refine c_region ?_
  refine l_mv rfl rfl rfl (m_box (v := .agg (aC a)) rfl) ?_
  rintro _ _ ⟨b1, rfl, rfl⟩
  refine l_mv rfl rfl rfl (m_box (v := .agg (aC b)) rfl) ?_
  rintro _ _ ⟨b2, rfl, rfl⟩
  refine l_val (v := .bool false) rfl rfl rfl (e_assign) ?_
  refine l_nil ?_
  refine f_then ?_
  refine c_seq ?_
  refine c_region ?_
  refine l_val (v := .pointer (some ⟨b1, 0, none⟩)) rfl rfl rfl (e_fieldPt (b := b1) (o := 0) rfl tf84) ?_
  refine l_val (v := .pointer (some ⟨b1, 0, none⟩)) rfl rfl rfl (e_fieldPt (b := b1) (o := 0) rfl tf10) ?_
  refine l_val (v := Ix (a.lx)) rfl rfl rfl (e_load1 tf11 (v := Ix (a.lx)) rfl (k_pt 1 (cs := (aC a)) (vs := [Ix (a.lx)]) rfl rfl)) ?_
  refine l_val (v := .pointer (some ⟨b2, 2, none⟩)) rfl rfl rfl (e_fieldPt (b := b2) (o := 0) rfl tf85) ?_
  refine l_val (v := .pointer (some ⟨b2, 2, none⟩)) rfl rfl rfl (e_fieldPt (b := b2) (o := 2) rfl tf10) ?_
  refine l_val (v := Ix (b.hx)) rfl rfl rfl (e_load1 tf11 (v := Ix (b.hx)) rfl (k_pt 0 (cs := (aC b)) (vs := [Ix (b.hx)]) rfl rfl)) ?_
  refine l_val (v := .bool (decide ((a.lx) ≤ (b.hx)))) rfl rfl rfl (e_leq (a := (a.lx)) (b := (b.hx)) rfl rfl) ?_
  refine l_val (v := .bool (decide ((a.lx) ≤ (b.hx)))) rfl rfl rfl (e_move) ?_
  refine l_split (s := 12) (p := (a.lx) ≤ (b.hx)) rfl (fun hg3 => ?_) (fun hg3 => ?_)
  ·
    refine g_val (v := .pointer (some ⟨b2, 0, none⟩)) rfl rfl rfl rfl rfl (e_fieldPt (b := b2) (o := 0) rfl tf84) ?_
    refine g_val (v := .pointer (some ⟨b2, 0, none⟩)) rfl rfl rfl rfl rfl (e_fieldPt (b := b2) (o := 0) rfl tf10) ?_
    refine g_val (v := Ix (b.lx)) rfl rfl rfl rfl rfl (e_load1 tf11 (v := Ix (b.lx)) rfl (k_pt 0 (cs := (aC b)) (vs := [Ix (b.lx)]) rfl rfl)) ?_
    refine g_val (v := .pointer (some ⟨b1, 2, none⟩)) rfl rfl rfl rfl rfl (e_fieldPt (b := b1) (o := 0) rfl tf85) ?_
    refine g_val (v := .pointer (some ⟨b1, 2, none⟩)) rfl rfl rfl rfl rfl (e_fieldPt (b := b1) (o := 2) rfl tf10) ?_
    refine g_val (v := Ix (a.hx)) rfl rfl rfl rfl rfl (e_load1 tf11 (v := Ix (a.hx)) rfl (k_pt 1 (cs := (aC a)) (vs := [Ix (a.hx)]) rfl rfl)) ?_
    refine g_val (v := .bool (decide ((b.lx) ≤ (a.hx)))) rfl rfl rfl rfl rfl (e_leq (a := (b.lx)) (b := (a.hx)) rfl rfl) ?_
    refine l_val (v := .bool (decide ((b.lx) ≤ (a.hx)))) rfl rfl rfl (e_pick_t rfl) ?_
    refine l_val (v := .bool (decide ((b.lx) ≤ (a.hx)))) rfl rfl rfl (e_move) ?_
    refine l_split (s := 21) (p := (b.lx) ≤ (a.hx)) rfl (fun hg4 => ?_) (fun hg4 => ?_)
    ·
      refine g_val (v := .pointer (some ⟨b1, 0, none⟩)) rfl rfl rfl rfl rfl (e_fieldPt (b := b1) (o := 0) rfl tf84) ?_
      refine g_val (v := .pointer (some ⟨b1, 1, none⟩)) rfl rfl rfl rfl rfl (e_fieldPt (b := b1) (o := 0) rfl tf12) ?_
      refine g_val (v := Ix (a.ly)) rfl rfl rfl rfl rfl (e_load1 tf11 (v := Ix (a.ly)) rfl (k_pt 1 (cs := (aC a)) (vs := [Ix (a.ly)]) rfl rfl)) ?_
      refine g_val (v := .pointer (some ⟨b2, 2, none⟩)) rfl rfl rfl rfl rfl (e_fieldPt (b := b2) (o := 0) rfl tf85) ?_
      refine g_val (v := .pointer (some ⟨b2, 3, none⟩)) rfl rfl rfl rfl rfl (e_fieldPt (b := b2) (o := 2) rfl tf12) ?_
      refine g_val (v := Ix (b.hy)) rfl rfl rfl rfl rfl (e_load1 tf11 (v := Ix (b.hy)) rfl (k_pt 0 (cs := (aC b)) (vs := [Ix (b.hy)]) rfl rfl)) ?_
      refine g_val (v := .bool (decide ((a.ly) ≤ (b.hy)))) rfl rfl rfl rfl rfl (e_leq (a := (a.ly)) (b := (b.hy)) rfl rfl) ?_
      refine l_val (v := .bool (decide ((a.ly) ≤ (b.hy)))) rfl rfl rfl (e_pick_t rfl) ?_
      refine l_val (v := .bool (decide ((a.ly) ≤ (b.hy)))) rfl rfl rfl (e_move) ?_
      refine l_split (s := 30) (p := (a.ly) ≤ (b.hy)) rfl (fun hg5 => ?_) (fun hg5 => ?_)
      ·
        refine g_val (v := .pointer (some ⟨b2, 0, none⟩)) rfl rfl rfl rfl rfl (e_fieldPt (b := b2) (o := 0) rfl tf84) ?_
        refine g_val (v := .pointer (some ⟨b2, 1, none⟩)) rfl rfl rfl rfl rfl (e_fieldPt (b := b2) (o := 0) rfl tf12) ?_
        refine g_val (v := Ix (b.ly)) rfl rfl rfl rfl rfl (e_load1 tf11 (v := Ix (b.ly)) rfl (k_pt 0 (cs := (aC b)) (vs := [Ix (b.ly)]) rfl rfl)) ?_
        refine g_val (v := .pointer (some ⟨b1, 2, none⟩)) rfl rfl rfl rfl rfl (e_fieldPt (b := b1) (o := 0) rfl tf85) ?_
        refine g_val (v := .pointer (some ⟨b1, 3, none⟩)) rfl rfl rfl rfl rfl (e_fieldPt (b := b1) (o := 2) rfl tf12) ?_
        refine g_val (v := Ix (a.hy)) rfl rfl rfl rfl rfl (e_load1 tf11 (v := Ix (a.hy)) rfl (k_pt 1 (cs := (aC a)) (vs := [Ix (a.hy)]) rfl rfl)) ?_
        refine g_val (v := .bool (decide ((b.ly) ≤ (a.hy)))) rfl rfl rfl rfl rfl (e_leq (a := (b.ly)) (b := (a.hy)) rfl rfl) ?_
        refine l_val (v := .bool (decide ((b.ly) ≤ (a.hy)))) rfl rfl rfl (e_pick_t rfl) ?_
        refine l_val (v := .bool (decide ((b.ly) ≤ (a.hy)))) rfl rfl rfl (e_assign) ?_
        refine l_nil ?_
        refine f_then ?_
        refine c_ret ?_
        refine ret1 Try.results14 (v := .bool (decide ((b.ly) ≤ (a.hy)))) rfl ?_
        intro w hw
        exact ⟨congrArg (fun b : Bool => Ending.returned (.bool b)) (decide_eq_decide.2 ⟨fun q => by unfold touchA; omega, fun q => by unfold touchA at q; omega⟩), st_mask [false, false] rfl hw⟩
      ·
        refine l_skip rfl rfl rfl rfl rfl rfl ?_
        refine l_skip rfl rfl rfl rfl rfl rfl ?_
        refine l_skip rfl rfl rfl rfl rfl rfl ?_
        refine l_skip rfl rfl rfl rfl rfl rfl ?_
        refine l_skip rfl rfl rfl rfl rfl rfl ?_
        refine l_skip rfl rfl rfl rfl rfl rfl ?_
        refine l_skip rfl rfl rfl rfl rfl rfl ?_
        refine l_val (v := .bool false) rfl rfl rfl (e_pick_f rfl) ?_
        refine l_val (v := .bool false) rfl rfl rfl (e_assign) ?_
        refine l_nil ?_
        refine f_then ?_
        refine c_ret ?_
        refine ret1 Try.results14 (v := .bool false) rfl ?_
        intro w hw
        exact ⟨congrArg (fun b : Bool => Ending.returned (.bool b)) ((decide_eq_false (fun q => by unfold touchA at q; omega)).symm), st_mask [false, false] rfl hw⟩
    ·
      refine l_skip rfl rfl rfl rfl rfl rfl ?_
      refine l_skip rfl rfl rfl rfl rfl rfl ?_
      refine l_skip rfl rfl rfl rfl rfl rfl ?_
      refine l_skip rfl rfl rfl rfl rfl rfl ?_
      refine l_skip rfl rfl rfl rfl rfl rfl ?_
      refine l_skip rfl rfl rfl rfl rfl rfl ?_
      refine l_skip rfl rfl rfl rfl rfl rfl ?_
      refine l_val (v := .bool false) rfl rfl rfl (e_pick_f rfl) ?_
      refine l_val (v := .bool false) rfl rfl rfl (e_move) ?_
      refine l_skip rfl rfl rfl rfl rfl rfl ?_
      refine l_skip rfl rfl rfl rfl rfl rfl ?_
      refine l_skip rfl rfl rfl rfl rfl rfl ?_
      refine l_skip rfl rfl rfl rfl rfl rfl ?_
      refine l_skip rfl rfl rfl rfl rfl rfl ?_
      refine l_skip rfl rfl rfl rfl rfl rfl ?_
      refine l_skip rfl rfl rfl rfl rfl rfl ?_
      refine l_val (v := .bool false) rfl rfl rfl (e_pick_f rfl) ?_
      refine l_val (v := .bool false) rfl rfl rfl (e_assign) ?_
      refine l_nil ?_
      refine f_then ?_
      refine c_ret ?_
      refine ret1 Try.results14 (v := .bool false) rfl ?_
      intro w hw
      exact ⟨congrArg (fun b : Bool => Ending.returned (.bool b)) ((decide_eq_false (fun q => by unfold touchA at q; omega)).symm), st_mask [false, false] rfl hw⟩
  ·
    refine l_skip rfl rfl rfl rfl rfl rfl ?_
    refine l_skip rfl rfl rfl rfl rfl rfl ?_
    refine l_skip rfl rfl rfl rfl rfl rfl ?_
    refine l_skip rfl rfl rfl rfl rfl rfl ?_
    refine l_skip rfl rfl rfl rfl rfl rfl ?_
    refine l_skip rfl rfl rfl rfl rfl rfl ?_
    refine l_skip rfl rfl rfl rfl rfl rfl ?_
    refine l_val (v := .bool false) rfl rfl rfl (e_pick_f rfl) ?_
    refine l_val (v := .bool false) rfl rfl rfl (e_move) ?_
    refine l_skip rfl rfl rfl rfl rfl rfl ?_
    refine l_skip rfl rfl rfl rfl rfl rfl ?_
    refine l_skip rfl rfl rfl rfl rfl rfl ?_
    refine l_skip rfl rfl rfl rfl rfl rfl ?_
    refine l_skip rfl rfl rfl rfl rfl rfl ?_
    refine l_skip rfl rfl rfl rfl rfl rfl ?_
    refine l_skip rfl rfl rfl rfl rfl rfl ?_
    refine l_val (v := .bool false) rfl rfl rfl (e_pick_f rfl) ?_
    refine l_val (v := .bool false) rfl rfl rfl (e_move) ?_
    refine l_skip rfl rfl rfl rfl rfl rfl ?_
    refine l_skip rfl rfl rfl rfl rfl rfl ?_
    refine l_skip rfl rfl rfl rfl rfl rfl ?_
    refine l_skip rfl rfl rfl rfl rfl rfl ?_
    refine l_skip rfl rfl rfl rfl rfl rfl ?_
    refine l_skip rfl rfl rfl rfl rfl rfl ?_
    refine l_skip rfl rfl rfl rfl rfl rfl ?_
    refine l_val (v := .bool false) rfl rfl rfl (e_pick_f rfl) ?_
    refine l_val (v := .bool false) rfl rfl rfl (e_assign) ?_
    refine l_nil ?_
    refine f_then ?_
    refine c_ret ?_
    refine ret1 Try.results14 (v := .bool false) rfl ?_
    intro w hw
    exact ⟨congrArg (fun b : Bool => Ending.returned (.bool b)) ((decide_eq_false (fun q => by unfold touchA at q; omega)).symm), st_mask [false, false] rfl hw⟩
end Go.Proofs
