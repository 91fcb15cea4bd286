/-
 Areas: walked. Printed by a program of my own.
-/
import Derived.Test.YtdkibofhppgbjaaGreatDoorProg
import Derived.Test.YtdkibofhppgbjaaGreatDoorBrDef
namespace Go.Proofs
open Go Go.Sl Go.Brd
theorem ub0 : fldB Tryz.prog 96 0 0 2 true = true := by kernel_rfl
theorem ub1 : fldB Tryz.prog 28 0 0 1 false = true := by kernel_rfl
theorem ub2 : tyB Tryz.prog 3 false 1 = true := by kernel_rfl
theorem ub3 : fldB Tryz.prog 96 1 2 2 true = true := by kernel_rfl
theorem ub4 : cfB Tryz.prog 152 = true := by kernel_rfl
theorem ub5 : fldB Tryz.prog 28 1 1 1 false = true := by kernel_rfl
theorem ub6 : (Tryz.prog.info? 96).bind (·.zero) = some (.agg #[.int .i64 (0), .int .i64 (0), .int .i64 (0), .int .i64 (0)]) := by kernel_rfl
theorem ub10 : tyB Tryz.prog 96 true 4 = true := by kernel_rfl
theorem ub11 : cfB Tryz.prog 97 = true := by kernel_rfl
theorem span_ok (β : Base) (w : World) (hw : St β [] w) (l h : Int) : Calls Tryz.prog 152 #[Ix l, Ix h] w fun r w' => r = .returned (.bool (decide (okSpan l h))) ∧ St β [] w' := by
 refine enter (n := 16) Tryz.func152 rfl Tryz.ntmps152 rfl ?_ hw
 refine c_seq ?_
 refine c_region ?_
 refine l_val (v := .bool false) rfl rfl rfl (e_assign) ?_
 refine l_nil ?_
 refine f_then ?_
 refine c_seq ?_
 refine c_region ?_
 refine l_val (v := Ix (l)) rfl rfl rfl (e_move) ?_
 refine l_val (v := .bool (decide ((-2097152 : Int) ≤ (l)))) rfl rfl rfl (e_leq (a := (-2097152 : Int)) (b := (l)) rfl rfl) ?_
 refine l_val (v := .bool (decide ((-2097152 : Int) ≤ (l)))) rfl rfl rfl (e_move) ?_
 refine l_split (s := 7) (p := (-2097152 : Int) ≤ (l)) rfl (fun hg1 => ?_) (fun hg1 => ?_)
 ·
  refine g_val (v := Ix (l)) rfl rfl rfl rfl rfl (e_move) ?_
  refine g_val (v := Ix (h)) rfl rfl rfl rfl rfl (e_move) ?_
  refine g_val (v := .bool (decide ((l) ≤ (h)))) rfl rfl rfl rfl rfl (e_leq (a := (l)) (b := (h)) rfl rfl) ?_
  refine l_val (v := .bool (decide ((l) ≤ (h)))) rfl rfl rfl (e_pick_t rfl) ?_
  refine l_val (v := .bool (decide ((l) ≤ (h)))) rfl rfl rfl (e_move) ?_
  refine l_split (s := 12) (p := (l) ≤ (h)) rfl (fun hg2 => ?_) (fun hg2 => ?_)
  ·
   refine g_val (v := Ix (h)) rfl rfl rfl rfl rfl (e_move) ?_
   refine g_val (v := .bool (decide ((h) ≤ (2097152 : Int)))) rfl rfl rfl rfl rfl (e_leq (a := (h)) (b := (2097152 : Int)) rfl rfl) ?_
   refine l_val (v := .bool (decide ((h) ≤ (2097152 : Int)))) rfl rfl rfl (e_pick_t rfl) ?_
   refine l_val (v := .bool (decide ((h) ≤ (2097152 : Int)))) rfl rfl rfl (e_assign) ?_
   refine l_nil ?_
   refine f_then ?_
   refine c_ret ?_
   refine ret1 Tryz.results152 (v := .bool (decide ((h) ≤ (2097152 : Int)))) rfl ?_
   intro w hw
   exact ⟨congrArg (fun b : Bool => Ending.returned (.bool b)) (decide_eq_decide.2 ⟨fun q => by unfold okSpan; omega, fun q => by unfold okSpan at q; omega⟩), st_mask [] rfl hw⟩
  ·
   refine l_skip rfl rfl rfl rfl rfl rfl ?_
   refine l_skip rfl rfl rfl rfl rfl rfl ?_
   refine l_val (v := .bool false) rfl rfl rfl (e_pick_f rfl) ?_
   refine l_val (v := .bool false) rfl rfl rfl (e_assign) ?_
   refine l_nil ?_
   refine f_then ?_
   refine c_ret ?_
   refine ret1 Tryz.results152 (v := .bool false) rfl ?_
   intro w hw
   exact ⟨congrArg (fun b : Bool => Ending.returned (.bool b)) ((decide_eq_false (fun q => by unfold okSpan at q; omega)).symm), st_mask [] rfl hw⟩
 ·
  refine l_skip rfl rfl rfl rfl rfl rfl ?_
  refine l_skip rfl rfl rfl rfl rfl rfl ?_
  refine l_skip rfl rfl rfl rfl rfl rfl ?_
  refine l_val (v := .bool false) rfl rfl rfl (e_pick_f rfl) ?_
  refine l_val (v := .bool false) rfl rfl rfl (e_move) ?_
  refine l_skip rfl rfl rfl rfl rfl rfl ?_
  refine l_skip rfl rfl rfl rfl rfl rfl ?_
  refine l_val (v := .bool false) rfl rfl rfl (e_pick_f rfl) ?_
  refine l_val (v := .bool false) rfl rfl rfl (e_assign) ?_
  refine l_nil ?_
  refine f_then ?_
  refine c_ret ?_
  refine ret1 Tryz.results152 (v := .bool false) rfl ?_
  intro w hw
  exact ⟨congrArg (fun b : Bool => Ending.returned (.bool b)) ((decide_eq_false (fun q => by unfold okSpan at q; omega)).symm), st_mask [] rfl hw⟩
theorem avalid_ok (β : Base) (w : World) (hw : St β [] w) (a : KA) : Calls Tryz.prog 97 #[.agg (aC a)] w fun r w' => r = .returned (.bool (decide (okA a))) ∧ St β [] w' := by
 refine enter (n := 19) Tryz.func97 rfl Tryz.ntmps97 rfl ?_ hw
 refine c_seq ?_
 refine c_region ?_
 refine l_mv rfl rfl rfl (m_box (v := .agg (aC a)) rfl) ?_
 rintro _ _ ⟨b1, rfl, rfl⟩
 refine l_val (v := .bool false) rfl rfl rfl (e_assign) ?_
 refine l_nil ?_
 refine f_then ?_
 refine c_seq ?_
 refine c_region ?_
 refine l_val (v := .pointer (some ⟨b1, 0, none⟩)) rfl rfl rfl (e_fieldPt (b := b1) (o := 0) rfl ub0) ?_
 refine l_val (v := .pointer (some ⟨b1, 0, none⟩)) rfl rfl rfl (e_fieldPt (b := b1) (o := 0) rfl ub1) ?_
 refine l_val (v := Ix (a.lx)) rfl rfl rfl (e_load1 ub2 (v := Ix (a.lx)) rfl (k_pt 0 (cs := (aC a)) (vs := [Ix (a.lx)]) rfl rfl)) ?_
 refine l_val (v := .pointer (some ⟨b1, 2, none⟩)) rfl rfl rfl (e_fieldPt (b := b1) (o := 0) rfl ub3) ?_
 refine l_val (v := .pointer (some ⟨b1, 2, none⟩)) rfl rfl rfl (e_fieldPt (b := b1) (o := 2) rfl ub1) ?_
 refine l_val (v := Ix (a.hx)) rfl rfl rfl (e_load1 ub2 (v := Ix (a.hx)) rfl (k_pt 0 (cs := (aC a)) (vs := [Ix (a.hx)]) rfl rfl)) ?_
 refine l_call rfl rfl rfl (cl_value (fst := []) (cap := []) (vs := [Ix (a.lx), Ix (a.hx)]) (all := [Ix (a.lx), Ix (a.hx)]) ub4 rfl rfl rfl) ?_
 intro w hw
 obtain ⟨β1, sb, kn, hw1, back⟩ := St.frame_all hw
 refine (span_ok β1 w hw1 a.lx a.hx).mono ?_
 rintro e w' ⟨rfl, hw'⟩
 refine ⟨_, rfl, _, back _ _ hw', ?_⟩
 clear hw hw1 hw' back kn sb
 refine l_val (v := .bool (decide (okSpan a.lx a.hx))) rfl rfl rfl (e_move) ?_
 refine l_split (s := 10) (p := okSpan a.lx a.hx) rfl (fun hg2 => ?_) (fun hg2 => ?_)
 ·
  refine g_val (v := .pointer (some ⟨b1, 0, none⟩)) rfl rfl rfl rfl rfl (e_fieldPt (b := b1) (o := 0) rfl ub0) ?_
  refine g_val (v := .pointer (some ⟨b1, 1, none⟩)) rfl rfl rfl rfl rfl (e_fieldPt (b := b1) (o := 0) rfl ub5) ?_
  refine g_val (v := Ix (a.ly)) rfl rfl rfl rfl rfl (e_load1 ub2 (v := Ix (a.ly)) rfl (k_pt 0 (cs := (aC a)) (vs := [Ix (a.ly)]) rfl rfl)) ?_
  refine g_val (v := .pointer (some ⟨b1, 2, none⟩)) rfl rfl rfl rfl rfl (e_fieldPt (b := b1) (o := 0) rfl ub3) ?_
  refine g_val (v := .pointer (some ⟨b1, 3, none⟩)) rfl rfl rfl rfl rfl (e_fieldPt (b := b1) (o := 2) rfl ub5) ?_
  refine g_val (v := Ix (a.hy)) rfl rfl rfl rfl rfl (e_load1 ub2 (v := Ix (a.hy)) rfl (k_pt 0 (cs := (aC a)) (vs := [Ix (a.hy)]) rfl rfl)) ?_
  refine g_call rfl rfl rfl rfl rfl (cl_value (fst := []) (cap := []) (vs := [Ix (a.ly), Ix (a.hy)]) (all := [Ix (a.ly), Ix (a.hy)]) ub4 rfl rfl rfl) ?_
  intro w hw
  obtain ⟨β1, sb, kn, hw1, back⟩ := St.frame_all hw
  refine (span_ok β1 w hw1 a.ly a.hy).mono ?_
  rintro e w' ⟨rfl, hw'⟩
  refine ⟨_, rfl, _, back _ _ hw', ?_⟩
  clear hw hw1 hw' back kn sb
  refine l_val (v := .bool (decide (okSpan a.ly a.hy))) rfl rfl rfl (e_pick_t rfl) ?_
  refine l_val (v := .bool (decide (okSpan a.ly a.hy))) rfl rfl rfl (e_assign) ?_
  refine l_nil ?_
  refine f_then ?_
  refine c_ret ?_
  refine ret1 Tryz.results97 (v := .bool (decide (okSpan a.ly a.hy))) rfl ?_
  intro w hw
  exact ⟨congrArg (fun b : Bool => Ending.returned (.bool b)) (show decide (okSpan a.ly a.hy) = decide (okA a) by unfold okA; simp_all), st_mask [false] rfl hw⟩
 ·
  refine l_skip rfl rfl rfl rfl rfl rfl ?_
  refine l_skip rfl rfl rfl rfl rfl rfl ?_
  refine l_skip rfl rfl rfl rfl rfl rfl ?_
  refine l_skip rfl rfl rfl rfl rfl rfl ?_
  refine l_skip rfl rfl rfl rfl rfl rfl ?_
  refine l_skip rfl rfl rfl rfl rfl rfl ?_
  refine l_skip rfl rfl rfl rfl rfl rfl ?_
  refine l_val (v := .bool false) rfl rfl rfl (e_pick_f rfl) ?_
  refine l_val (v := .bool false) rfl rfl rfl (e_assign) ?_
  refine l_nil ?_
  refine f_then ?_
  refine c_ret ?_
  refine ret1 Tryz.results97 (v := .bool false) rfl ?_
  intro w hw
  exact ⟨congrArg (fun b : Bool => Ending.returned (.bool b)) (show false = decide (okA a) by unfold okA; simp_all), st_mask [false] rfl hw⟩
end Go.Proofs
