/-
 Areas: walked. Printed by a program of my own.
-/
import Derived.Test.YtoijanalppaplaaGreatProg
import Derived.Test.YtoijanalppaplaaGreatBrDef
import Derived.Test.YtoijanalppaplaaGreatSlC
namespace Go.Proofs
open Go Go.Sl Go.Brd
theorem ub0 : fldB Tryz.prog 36 0 0 2 true = true := by kernel_rfl
theorem ub1 : fldB Tryz.prog 25 0 0 1 false = true := by kernel_rfl
theorem ub2 : tyB Tryz.prog 3 false 1 = true := by kernel_rfl
theorem ub3 : fldB Tryz.prog 36 1 2 2 true = true := by kernel_rfl
theorem ub4 : cfB Tryz.prog 104 = true := by kernel_rfl
theorem ub5 : fldB Tryz.prog 25 1 1 1 false = true := by kernel_rfl
theorem ub6 : (Tryz.prog.info? 36).bind (·.zero) = some (.agg #[.int .i64 (0), .int .i64 (0), .int .i64 (0), .int .i64 (0)]) := by kernel_rfl
theorem ub10 : tyB Tryz.prog 36 true 4 = true := by kernel_rfl
theorem ub11 : cfB Tryz.prog 69 = true := by kernel_rfl
theorem span_ok (β : Base) (w : World) (hw : St β [] w) (l h : Int) : Calls Tryz.prog 104 #[Ix l, Ix h] w fun r w' => r = .returned (.bool (decide (okSpan l h))) ∧ St β [] w' := by
 refine enter (n := 16) Tryz.func104 rfl Tryz.ntmps104 rfl ?_ hw
 refine csr ?_
 refine l_val (v := .bool false) rfl rfl rfl e_assign ?_
 refine lnc ?_
 refine lv (v := Ix (l)) e_move ?_
 refine lv (e_leq (a := (-2097152 : Int)) (b := (l)) rfl rfl) ?_
 refine lv (v := .bool (decide ((-2097152 : Int) ≤ (l)))) e_move ?_
 refine l_split (s := 7) (p := (-2097152 : Int) ≤ (l)) rfl (fun hg1 => ?_) (fun hg1 => ?_)
 ·refine g_val (v := Ix (l)) rfl rfl rfl rfl rfl e_move ?_
  refine g_val (v := Ix (h)) rfl rfl rfl rfl rfl e_move ?_
  refine g_val rfl rfl rfl rfl rfl (e_leq (a := (l)) (b := (h)) rfl rfl) ?_
  refine lv (v := .bool (decide ((l) ≤ (h)))) (e_pick_t rfl) ?_
  refine lv (v := .bool (decide ((l) ≤ (h)))) e_move ?_
  refine l_split (s := 12) (p := (l) ≤ (h)) rfl (fun hg2 => ?_) (fun hg2 => ?_)
  ·refine g_val (v := Ix (h)) rfl rfl rfl rfl rfl e_move ?_
   refine g_val rfl rfl rfl rfl rfl (e_leq (a := (h)) (b := (2097152 : Int)) rfl rfl) ?_
   refine lv (v := .bool (decide ((h) ≤ (2097152 : Int)))) (e_pick_t rfl) ?_
   refine lv (v := .bool (decide ((h) ≤ (2097152 : Int)))) e_assign ?_
   refine lnf ?_
   refine c_ret ?_
   refine ret1 Tryz.results104 (v := .bool (decide ((h) ≤ (2097152 : Int)))) rfl ?_
   intro w hw
   exact ⟨congrArg (fun b : Bool => Ending.returned (.bool b)) (decide_eq_decide.2 ⟨fun q => by unfold okSpan; omega, fun q => by unfold okSpan at q; omega⟩), st_mask [] rfl hw⟩
  refine l_skip rfl rfl rfl rfl rfl rfl ?_
  refine l_skip rfl rfl rfl rfl rfl rfl ?_
  refine lv (v := .bool false) (e_pick_f rfl) ?_
  refine lv (v := .bool false) e_assign ?_
  refine lnf ?_
  refine c_ret ?_
  refine ret1 Tryz.results104 (v := .bool false) rfl ?_
  intro w hw
  exact ⟨congrArg (fun b : Bool => Ending.returned (.bool b)) ((decide_eq_false (fun q => by unfold okSpan at q; omega)).symm), st_mask [] rfl hw⟩
 refine l_skip rfl rfl rfl rfl rfl rfl ?_
 refine l_skip rfl rfl rfl rfl rfl rfl ?_
 refine l_skip rfl rfl rfl rfl rfl rfl ?_
 refine lv (v := .bool false) (e_pick_f rfl) ?_
 refine lv (v := .bool false) e_move ?_
 refine l_skip rfl rfl rfl rfl rfl rfl ?_
 refine l_skip rfl rfl rfl rfl rfl rfl ?_
 refine lv (v := .bool false) (e_pick_f rfl) ?_
 refine lv (v := .bool false) e_assign ?_
 refine lnf ?_
 refine c_ret ?_
 refine ret1 Tryz.results104 (v := .bool false) rfl ?_
 intro w hw
 exact ⟨congrArg (fun b : Bool => Ending.returned (.bool b)) ((decide_eq_false (fun q => by unfold okSpan at q; omega)).symm), st_mask [] rfl hw⟩
theorem avalid_ok (β : Base) (w : World) (hw : St β [] w) (a : KA) : Calls Tryz.prog 69 #[.agg (aC a)] w fun r w' => r = .returned (.bool (decide (okA a))) ∧ St β [] w' := by
 refine enter (n := 19) Tryz.func69 rfl Tryz.ntmps69 rfl ?_ hw
 refine csr ?_
 refine l_mv rfl rfl rfl (m_box (v := .agg (aC a)) rfl) ?_
 rintro _ _ ⟨b1, rfl, rfl⟩
 refine lv (v := .bool false) e_assign ?_
 refine lnc ?_
 refine lv (v := pp b1 0) (e_fieldPt rfl ub0) ?_
 refine lv (v := pp b1 0) (e_fieldPt rfl ub1) ?_
 refine lv (v := Ix (a.lx)) (e_load1 ub2 rfl (k_pt 0 rfl rfl)) ?_
 refine lv (v := pp b1 2) (e_fieldPt rfl ub3) ?_
 refine lv (v := pp b1 2) (e_fieldPt rfl ub1) ?_
 refine lv (v := Ix (a.hx)) (e_load1 ub2 rfl (k_pt 0 rfl rfl)) ?_
 refine lcf (cl0 (vs := [Ix (a.lx), Ix (a.hx)]) ub4 rfl rfl) rfl fun w β1 sb kn hw1 back => (span_ok β1 w hw1 a.lx a.hx).mono ?_
 rintro e w' ⟨rfl, hw'⟩
 refine ⟨_, rfl, _, back _ _ hw', ?_⟩
 clear hw1 hw' back kn sb
 refine lv (v := .bool (decide (okSpan a.lx a.hx))) e_move ?_
 refine l_split (s := 10) (p := okSpan a.lx a.hx) rfl (fun hg2 => ?_) (fun hg2 => ?_)
 ·refine g_val (v := pp b1 0) rfl rfl rfl rfl rfl (e_fieldPt rfl ub0) ?_
  refine g_val (v := pp b1 1) rfl rfl rfl rfl rfl (e_fieldPt rfl ub5) ?_
  refine g_val (v := Ix (a.ly)) rfl rfl rfl rfl rfl (e_load1 ub2 rfl (k_pt 0 rfl rfl)) ?_
  refine g_val (v := pp b1 2) rfl rfl rfl rfl rfl (e_fieldPt rfl ub3) ?_
  refine g_val (v := pp b1 3) rfl rfl rfl rfl rfl (e_fieldPt rfl ub5) ?_
  refine g_val (v := Ix (a.hy)) rfl rfl rfl rfl rfl (e_load1 ub2 rfl (k_pt 0 rfl rfl)) ?_
  refine g_call rfl rfl rfl rfl rfl (cl0 (vs := [Ix (a.ly), Ix (a.hy)]) ub4 rfl rfl) ?_
  intro w hw
  obtain ⟨β1, sb, kn, hw1, back⟩ := St.frame_all hw
  refine (span_ok β1 w hw1 a.ly a.hy).mono ?_
  rintro e w' ⟨rfl, hw'⟩
  refine ⟨_, rfl, _, back _ _ hw', ?_⟩
  clear hw hw1 hw' back kn sb
  refine lv (v := .bool (decide (okSpan a.ly a.hy))) (e_pick_t rfl) ?_
  refine lv (v := .bool (decide (okSpan a.ly a.hy))) e_assign ?_
  refine lnf ?_
  refine c_ret ?_
  refine ret1 Tryz.results69 (v := .bool (decide (okSpan a.ly a.hy))) rfl ?_
  intro w hw
  exact ⟨congrArg (fun b : Bool => Ending.returned (.bool b)) (show decide (okSpan a.ly a.hy) = decide (okA a) by unfold okA; simp_all), st_mask [false] rfl hw⟩
 refine l_skip rfl rfl rfl rfl rfl rfl ?_
 refine l_skip rfl rfl rfl rfl rfl rfl ?_
 refine l_skip rfl rfl rfl rfl rfl rfl ?_
 refine l_skip rfl rfl rfl rfl rfl rfl ?_
 refine l_skip rfl rfl rfl rfl rfl rfl ?_
 refine l_skip rfl rfl rfl rfl rfl rfl ?_
 refine l_skip rfl rfl rfl rfl rfl rfl ?_
 refine lv (v := .bool false) (e_pick_f rfl) ?_
 refine lv (v := .bool false) e_assign ?_
 refine lnf ?_
 refine c_ret ?_
 refine ret1 Tryz.results69 (v := .bool false) rfl ?_
 intro w hw
 exact ⟨congrArg (fun b : Bool => Ending.returned (.bool b)) (show false = decide (okA a) by unfold okA; simp_all), st_mask [false] rfl hw⟩
end Go.Proofs
