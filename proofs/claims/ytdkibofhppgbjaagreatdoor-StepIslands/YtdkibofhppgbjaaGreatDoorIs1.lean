/-
 Reaches; what is deleted of bodies: walked. Printed by a program of my own.
-/
import Derived.Test.YtdkibofhppgbjaaGreatDoorBr5
import Derived.Test.YtdkibofhppgbjaaGreatDoorIsDfs
namespace Go.Isl
open Go.Sl Go.Brd Go.Stp
/-- the area that a body may come to in a tick -/
def reachA (b : KB) (gx gy : Int) : KA := if okB b ∧ okV gx gy then ⟨b.x - b.w + min (speedX b gx gy) 0, b.y - b.h + min (speedY b gx gy) 0, b.x + b.w + max (speedX b gx gy) 0, b.y + b.h + max (speedY b gx gy) 0⟩ else zeroA
end Go.Isl
namespace Go.Proofs
open Go Go.Sl Go.Brd Go.Stp Go.Isl
theorem uz0 : (Tryz.prog.info? 96).bind (·.zero) = some (.agg #[.int .i64 (0), .int .i64 (0), .int .i64 (0), .int .i64 (0)]) := by kernel_rfl
theorem uz1 : tyB Tryz.prog 52 true 9 = true := by kernel_rfl
theorem uz2 : cfB Tryz.prog 85 = true := by kernel_rfl
theorem uz3 : stB Tryz.prog 96 [(0, 2), (2, 2)] = true := by kernel_rfl
theorem uz4 : tyB Tryz.prog 96 true 4 = true := by kernel_rfl
theorem uz5 : tyB Tryz.prog 28 true 2 = true := by kernel_rfl
theorem uz6 : cfB Tryz.prog 84 = true := by kernel_rfl
theorem uz7 : cfB Tryz.prog 96 = true := by kernel_rfl
theorem uz8 : (Tryz.prog.info? 28).bind (·.zero) = some (.agg #[.int .i64 (0), .int .i64 (0)]) := by kernel_rfl
theorem uz9 : cfB Tryz.prog 39 = true := by kernel_rfl
theorem uz10 : fldB Tryz.prog 28 0 0 1 false = true := by kernel_rfl
theorem uz11 : tyB Tryz.prog 3 false 1 = true := by kernel_rfl
theorem uz12 : fldB Tryz.prog 28 1 1 1 false = true := by kernel_rfl
theorem uz13 : stB Tryz.prog 28 [(0, 1), (1, 1)] = true := by kernel_rfl
theorem uz14 : cfB Tryz.prog 67 = true := by kernel_rfl
theorem uz15 : Tryz.prog.underlying 25 = some (.slice 52) := by kernel_rfl
theorem uz16 : slB Tryz.prog 25 52 9 = true := by kernel_rfl
theorem uz17 : (Tryz.prog.info? 52).bind (·.zero) = some (.agg #[.int .i64 (0), .int .i64 (0), .int .i64 (0), .int .i64 (0), .int .i64 (0), .int .i64 (0), .int .i64 (0), .bool false, .bool false]) := by kernel_rfl
theorem uz18 : fldB Tryz.prog 52 6 8 1 false = true := by kernel_rfl
theorem uz19 : tyB Tryz.prog 4 false 1 = true := by kernel_rfl
set_option maxHeartbeats 4000000 in
theorem reachA_ok (β : Base) (w : World) (hw : St β [] w) (b : KB) (gx gy : Int) (hgx : -9223372036854775808 ≤ gx ∧ gx ≤ 9223372036854775807) (hgy : -9223372036854775808 ≤ gy ∧ gy ≤ 9223372036854775807) : Calls Tryz.prog 45 #[.agg (bC b), .agg #[Ix gx, Ix gy]] w fun r w' => r = .returned (.agg (aC (reachA b gx gy))) ∧ St β [] w' := by
 refine enter (n := 52) Tryz.func45 rfl Tryz.ntmps45 rfl ?_ hw
 refine c_seq ?_
 refine c_region ?_
 refine l_mv rfl rfl rfl (m_box (v := .agg (bC b)) rfl) ?_
 rintro _ _ ⟨b1, rfl, rfl⟩
 refine l_mv rfl rfl rfl (m_box (v := .agg #[Ix (gx), Ix (gy)]) rfl) ?_
 rintro _ _ ⟨b2, rfl, rfl⟩
 refine l_mv rfl rfl rfl (m_alloc uz0) ?_
 rintro _ _ ⟨b3, rfl, rfl⟩
 refine l_nil ?_
 refine f_then ?_
 refine c_seq ?_
 refine c_seq ?_
 refine c_region ?_
 refine l_val (v := .agg (bC b)) rfl rfl rfl (e_load uz1 (cs := (bodyE b)) rfl (k_pt 2 (cs := (bC b)) (vs := (bodyE b)) rfl rfl) rfl) ?_
 refine l_call rfl rfl rfl (cl_value (fst := []) (cap := []) (vs := [.agg (bC b)]) (all := [.agg (bC b)]) uz2 rfl rfl rfl) ?_
 intro w hw
 obtain ⟨β1, sb, kn, hw1, back⟩ := St.frame_all hw
 refine (valid_ok β1 w hw1 b).mono ?_
 rintro e w' ⟨rfl, hw'⟩
 refine ⟨_, rfl, _, back _ _ hw', ?_⟩
 clear hw hw1 hw' back kn sb
 refine l_val (v := .bool (decide (¬ (okB b)))) rfl rfl rfl (e_not_p (p := okB b) rfl) ?_
 refine l_val (v := .bool (decide (¬ (okB b)))) rfl rfl rfl (e_move) ?_
 refine l_split (s := 11) (p := ¬ (okB b)) rfl (fun hg4 => ?_) (fun hg4 => ?_)
 ·
  refine l_skip rfl rfl rfl rfl rfl rfl ?_
  refine l_skip rfl rfl rfl rfl rfl rfl ?_
  refine l_skip rfl rfl rfl rfl rfl rfl ?_
  refine l_val (v := .bool true) rfl rfl rfl (e_pick_t rfl) ?_
  refine l_nil ?_
  refine f_then ?_
  refine c_yes rfl ?_
  refine c_seq ?_
  refine c_region ?_
  refine l_val (v := .agg #[.int .i64 (0), .int .i64 (0), .int .i64 (0), .int .i64 (0)]) rfl rfl rfl (e_build uz0 uz3 (vs := []) (cells := #[.int .i64 (0), .int .i64 (0), .int .i64 (0), .int .i64 (0)]) rfl rfl) ?_
  refine l_mu rfl rfl (m_store 0 uz4 (b := b3) (o := 0) (T := 96) (cs := #[.int .i64 (0), .int .i64 (0), .int .i64 (0), .int .i64 (0)]) (cs' := #[.int .i64 (0), .int .i64 (0), .int .i64 (0), .int .i64 (0)]) (v := .agg #[.int .i64 (0), .int .i64 (0), .int .i64 (0), .int .i64 (0)]) rfl rfl rfl rfl rfl rfl rfl) ?_
  refine l_nil ?_
  refine f_then ?_
  refine c_ret ?_
  refine f_then_ret ?_
  refine retG (l := [.cell 4 96]) (m := [.agg #[.int .i64 (0), .int .i64 (0), .int .i64 (0), .int .i64 (0)]]) (v := .agg #[.int .i64 (0), .int .i64 (0), .int .i64 (0), .int .i64 (0)]) Tryz.results45 ⟨rd_cell uz4 (cs := [.int .i64 (0), .int .i64 (0), .int .i64 (0), .int .i64 (0)]) rfl (k_pt 0 (cs := #[.int .i64 (0), .int .i64 (0), .int .i64 (0), .int .i64 (0)]) (vs := [.int .i64 (0), .int .i64 (0), .int .i64 (0), .int .i64 (0)]) rfl rfl) rfl, trivial⟩ rfl ?_
  intro w hw
  exact ⟨by rw [show reachA b gx gy = zeroA from if_neg (fun q => by simp_all)] <;> rfl, st_mask [false, false, false] rfl hw⟩
 ·
  refine g_val (v := .agg #[Ix (gx), Ix (gy)]) rfl rfl rfl rfl rfl (e_load uz5 (cs := [Ix (gx), Ix (gy)]) rfl (k_pt 1 (cs := #[Ix (gx), Ix (gy)]) (vs := [Ix (gx), Ix (gy)]) rfl rfl) rfl) ?_
  refine g_call rfl rfl rfl rfl rfl (cl_value (fst := []) (cap := []) (vs := [.agg #[Ix (gx), Ix (gy)]]) (all := [.agg #[Ix (gx), Ix (gy)]]) uz6 rfl rfl rfl) ?_
  intro w hw
  obtain ⟨β1, sb, kn, hw1, back⟩ := St.frame_all hw
  refine (pull_ok β1 w hw1 gx gy (by omega) (by omega)).mono ?_
  rintro e w' ⟨rfl, hw'⟩
  refine ⟨_, rfl, _, back _ _ hw', ?_⟩
  clear hw hw1 hw' back kn sb
  refine g_val (v := .bool (decide (¬ (okV gx gy)))) rfl rfl rfl rfl rfl (e_not_p (p := okV gx gy) rfl) ?_
  refine l_val (v := .bool (decide (¬ (okV gx gy)))) rfl rfl rfl (e_pick_f rfl) ?_
  refine l_nil ?_
  refine f_then ?_
  refine c_if (¬ (okV gx gy)) rfl (fun hc5 => ?_) (fun hc5 => ?_)
  ·
   refine c_seq ?_
   refine c_region ?_
   refine l_val (v := .agg #[.int .i64 (0), .int .i64 (0), .int .i64 (0), .int .i64 (0)]) rfl rfl rfl (e_build uz0 uz3 (vs := []) (cells := #[.int .i64 (0), .int .i64 (0), .int .i64 (0), .int .i64 (0)]) rfl rfl) ?_
   refine l_mu rfl rfl (m_store 0 uz4 (b := b3) (o := 0) (T := 96) (cs := #[.int .i64 (0), .int .i64 (0), .int .i64 (0), .int .i64 (0)]) (cs' := #[.int .i64 (0), .int .i64 (0), .int .i64 (0), .int .i64 (0)]) (v := .agg #[.int .i64 (0), .int .i64 (0), .int .i64 (0), .int .i64 (0)]) rfl rfl rfl rfl rfl rfl rfl) ?_
   refine l_nil ?_
   refine f_then ?_
   refine c_ret ?_
   refine f_then_ret ?_
   refine retG (l := [.cell 4 96]) (m := [.agg #[.int .i64 (0), .int .i64 (0), .int .i64 (0), .int .i64 (0)]]) (v := .agg #[.int .i64 (0), .int .i64 (0), .int .i64 (0), .int .i64 (0)]) Tryz.results45 ⟨rd_cell uz4 (cs := [.int .i64 (0), .int .i64 (0), .int .i64 (0), .int .i64 (0)]) rfl (k_pt 0 (cs := #[.int .i64 (0), .int .i64 (0), .int .i64 (0), .int .i64 (0)]) (vs := [.int .i64 (0), .int .i64 (0), .int .i64 (0), .int .i64 (0)]) rfl rfl) rfl, trivial⟩ rfl ?_
   intro w hw
   exact ⟨by rw [show reachA b gx gy = zeroA from if_neg (fun q => by simp_all)] <;> rfl, st_mask [false, false, false] rfl hw⟩
  ·
   refine c_skip ?_
   refine f_then ?_
   refine c_seq ?_
   have hokb : okB b := (Decidable.not_not.1 hg4)
   have hokv : okV gx gy := (Decidable.not_not.1 hc5)
   obtain ⟨⟨hs1, hs2⟩, hs3, hs4⟩ := speed_bd b gx gy
   obtain ⟨hb1, hb2, hb3, hb4, hb5, hb6, hb7, -, -⟩ := hokb
   refine c_region ?_
   refine l_val (v := .agg (bC b)) rfl rfl rfl (e_load uz1 (cs := (bodyE b)) rfl (k_pt 2 (cs := (bC b)) (vs := (bodyE b)) rfl rfl) rfl) ?_
   refine l_call rfl rfl rfl (cl_value (fst := []) (cap := []) (vs := [.agg (bC b)]) (all := [.agg (bC b)]) uz7 rfl rfl rfl) ?_
   intro w hw
   obtain ⟨β1, sb, kn, hw1, back⟩ := St.frame_all hw
   refine (bounds_ok β1 w hw1 b (Decidable.not_not.1 hg4)).mono ?_
   rintro e w' ⟨rfl, hw'⟩
   refine ⟨_, rfl, _, back _ _ hw', ?_⟩
   clear hw hw1 hw' back kn sb
   refine l_val (v := .tuple #[.agg #[Ix (b.x - b.w), Ix (b.y - b.h)], .agg #[Ix (b.x + b.w), Ix (b.y + b.h)]]) rfl rfl rfl (e_move) ?_
   refine l_val (v := .agg #[Ix (b.x - b.w), Ix (b.y - b.h)]) rfl rfl rfl (e_extract (vs := #[.agg #[Ix (b.x - b.w), Ix (b.y - b.h)], .agg #[Ix (b.x + b.w), Ix (b.y + b.h)]]) rfl rfl) ?_
   refine l_val (v := .agg #[Ix (b.x + b.w), Ix (b.y + b.h)]) rfl rfl rfl (e_extract (vs := #[.agg #[Ix (b.x - b.w), Ix (b.y - b.h)], .agg #[Ix (b.x + b.w), Ix (b.y + b.h)]]) rfl rfl) ?_
   refine l_mv rfl rfl rfl (m_alloc uz8) ?_
   rintro _ _ ⟨b6, rfl, rfl⟩
   refine l_mv rfl rfl rfl (m_alloc uz8) ?_
   rintro _ _ ⟨b7, rfl, rfl⟩
   refine l_mu rfl rfl (m_store 1 uz5 (b := b6) (o := 0) (T := 28) (cs := #[.int .i64 (0), .int .i64 (0)]) (cs' := #[Ix (b.x - b.w), Ix (b.y - b.h)]) (v := .agg #[Ix (b.x - b.w), Ix (b.y - b.h)]) rfl rfl rfl rfl rfl rfl rfl) ?_
   refine l_mu rfl rfl (m_store 0 uz5 (b := b7) (o := 0) (T := 28) (cs := #[.int .i64 (0), .int .i64 (0)]) (cs' := #[Ix (b.x + b.w), Ix (b.y + b.h)]) (v := .agg #[Ix (b.x + b.w), Ix (b.y + b.h)]) rfl rfl rfl rfl rfl rfl rfl) ?_
   refine l_nil ?_
   refine f_then ?_
   refine c_seq ?_
   refine c_region ?_
   refine l_val (v := .agg (bC b)) rfl rfl rfl (e_load uz1 (cs := (bodyE b)) rfl (k_pt 4 (cs := (bC b)) (vs := (bodyE b)) rfl rfl) rfl) ?_
   refine l_val (v := .agg #[Ix (gx), Ix (gy)]) rfl rfl rfl (e_load uz5 (cs := [Ix (gx), Ix (gy)]) rfl (k_pt 3 (cs := #[Ix (gx), Ix (gy)]) (vs := [Ix (gx), Ix (gy)]) rfl rfl) rfl) ?_
   refine l_call rfl rfl rfl (cl_value (fst := []) (cap := []) (vs := [.agg (bC b), .agg #[Ix (gx), Ix (gy)]]) (all := [.agg (bC b), .agg #[Ix (gx), Ix (gy)]]) uz9 rfl rfl rfl) ?_
   intro w hw
   obtain ⟨β1, sb, kn, hw1, back⟩ := St.frame_all hw
   refine (speed_ok β1 w hw1 b gx gy (by omega) (by omega)).mono ?_
   rintro e w' ⟨rfl, hw'⟩
   refine ⟨_, rfl, _, back _ _ hw', ?_⟩
   clear hw hw1 hw' back kn sb
   refine l_mv rfl rfl rfl (m_alloc uz8) ?_
   rintro _ _ ⟨b8, rfl, rfl⟩
   refine l_mu rfl rfl (m_store 0 uz5 (b := b8) (o := 0) (T := 28) (cs := #[.int .i64 (0), .int .i64 (0)]) (cs' := #[Ix (speedX b gx gy), Ix (speedY b gx gy)]) (v := .agg #[Ix (speedX b gx gy), Ix (speedY b gx gy)]) rfl rfl rfl rfl rfl rfl rfl) ?_
   refine l_nil ?_
   refine f_then ?_
   refine c_seq ?_
   refine c_region ?_
   refine l_val (v := .pointer (some ⟨b6, 0, none⟩)) rfl rfl rfl (e_fieldPt (b := b6) (o := 0) rfl uz10) ?_
   refine l_val (v := Ix (b.x - b.w)) rfl rfl rfl (e_load1 uz11 (v := Ix (b.x - b.w)) rfl (k_pt 2 (cs := #[Ix (b.x - b.w), Ix (b.y - b.h)]) (vs := [Ix (b.x - b.w)]) rfl rfl)) ?_
   refine l_val (v := .pointer (some ⟨b8, 0, none⟩)) rfl rfl rfl (e_fieldPt (b := b8) (o := 0) rfl uz10) ?_
   refine l_val (v := Ix (speedX b gx gy)) rfl rfl rfl (e_load1 uz11 (v := Ix (speedX b gx gy)) rfl (k_pt 0 (cs := #[Ix (speedX b gx gy), Ix (speedY b gx gy)]) (vs := [Ix (speedX b gx gy)]) rfl rfl)) ?_
   refine l_val (v := Ix (min (speedX b gx gy) (0 : Int))) rfl rfl rfl (e_min (a := (speedX b gx gy)) (b := (0 : Int)) rfl rfl) ?_
   refine l_val (v := Ix ((b.x - b.w) + (min (speedX b gx gy) (0 : Int)))) rfl rfl rfl (e_add (a := (b.x - b.w)) (b := (min (speedX b gx gy) (0 : Int))) rfl rfl (i64w (by omega))) ?_
   refine l_val (v := .pointer (some ⟨b6, 1, none⟩)) rfl rfl rfl (e_fieldPt (b := b6) (o := 0) rfl uz12) ?_
   refine l_val (v := Ix (b.y - b.h)) rfl rfl rfl (e_load1 uz11 (v := Ix (b.y - b.h)) rfl (k_pt 2 (cs := #[Ix (b.x - b.w), Ix (b.y - b.h)]) (vs := [Ix (b.y - b.h)]) rfl rfl)) ?_
   refine l_val (v := .pointer (some ⟨b8, 1, none⟩)) rfl rfl rfl (e_fieldPt (b := b8) (o := 0) rfl uz12) ?_
   refine l_val (v := Ix (speedY b gx gy)) rfl rfl rfl (e_load1 uz11 (v := Ix (speedY b gx gy)) rfl (k_pt 0 (cs := #[Ix (speedX b gx gy), Ix (speedY b gx gy)]) (vs := [Ix (speedY b gx gy)]) rfl rfl)) ?_
   refine l_val (v := Ix (min (speedY b gx gy) (0 : Int))) rfl rfl rfl (e_min (a := (speedY b gx gy)) (b := (0 : Int)) rfl rfl) ?_
   refine l_val (v := Ix ((b.y - b.h) + (min (speedY b gx gy) (0 : Int)))) rfl rfl rfl (e_add (a := (b.y - b.h)) (b := (min (speedY b gx gy) (0 : Int))) rfl rfl (i64w (by omega))) ?_
   refine l_val (v := .agg #[Ix ((b.x - b.w) + (min (speedX b gx gy) (0 : Int))), Ix ((b.y - b.h) + (min (speedY b gx gy) (0 : Int)))]) rfl rfl rfl (e_build uz8 uz13 (vs := [(0, Ix ((b.x - b.w) + (min (speedX b gx gy) (0 : Int)))), (1, Ix ((b.y - b.h) + (min (speedY b gx gy) (0 : Int))))]) (cells := #[Ix ((b.x - b.w) + (min (speedX b gx gy) (0 : Int))), Ix ((b.y - b.h) + (min (speedY b gx gy) (0 : Int)))]) rfl rfl) ?_
   refine l_val (v := .pointer (some ⟨b7, 0, none⟩)) rfl rfl rfl (e_fieldPt (b := b7) (o := 0) rfl uz10) ?_
   refine l_val (v := Ix (b.x + b.w)) rfl rfl rfl (e_load1 uz11 (v := Ix (b.x + b.w)) rfl (k_pt 1 (cs := #[Ix (b.x + b.w), Ix (b.y + b.h)]) (vs := [Ix (b.x + b.w)]) rfl rfl)) ?_
   refine l_val (v := .pointer (some ⟨b8, 0, none⟩)) rfl rfl rfl (e_fieldPt (b := b8) (o := 0) rfl uz10) ?_
   refine l_val (v := Ix (speedX b gx gy)) rfl rfl rfl (e_load1 uz11 (v := Ix (speedX b gx gy)) rfl (k_pt 0 (cs := #[Ix (speedX b gx gy), Ix (speedY b gx gy)]) (vs := [Ix (speedX b gx gy)]) rfl rfl)) ?_
   refine l_val (v := Ix (max (speedX b gx gy) (0 : Int))) rfl rfl rfl (e_max (a := (speedX b gx gy)) (b := (0 : Int)) rfl rfl) ?_
   refine l_val (v := Ix ((b.x + b.w) + (max (speedX b gx gy) (0 : Int)))) rfl rfl rfl (e_add (a := (b.x + b.w)) (b := (max (speedX b gx gy) (0 : Int))) rfl rfl (i64w (by omega))) ?_
   refine l_val (v := .pointer (some ⟨b7, 1, none⟩)) rfl rfl rfl (e_fieldPt (b := b7) (o := 0) rfl uz12) ?_
   refine l_val (v := Ix (b.y + b.h)) rfl rfl rfl (e_load1 uz11 (v := Ix (b.y + b.h)) rfl (k_pt 1 (cs := #[Ix (b.x + b.w), Ix (b.y + b.h)]) (vs := [Ix (b.y + b.h)]) rfl rfl)) ?_
   refine l_val (v := .pointer (some ⟨b8, 1, none⟩)) rfl rfl rfl (e_fieldPt (b := b8) (o := 0) rfl uz12) ?_
   refine l_val (v := Ix (speedY b gx gy)) rfl rfl rfl (e_load1 uz11 (v := Ix (speedY b gx gy)) rfl (k_pt 0 (cs := #[Ix (speedX b gx gy), Ix (speedY b gx gy)]) (vs := [Ix (speedY b gx gy)]) rfl rfl)) ?_
   refine l_val (v := Ix (max (speedY b gx gy) (0 : Int))) rfl rfl rfl (e_max (a := (speedY b gx gy)) (b := (0 : Int)) rfl rfl) ?_
   refine l_val (v := Ix ((b.y + b.h) + (max (speedY b gx gy) (0 : Int)))) rfl rfl rfl (e_add (a := (b.y + b.h)) (b := (max (speedY b gx gy) (0 : Int))) rfl rfl (i64w (by omega))) ?_
   refine l_val (v := .agg #[Ix ((b.x + b.w) + (max (speedX b gx gy) (0 : Int))), Ix ((b.y + b.h) + (max (speedY b gx gy) (0 : Int)))]) rfl rfl rfl (e_build uz8 uz13 (vs := [(0, Ix ((b.x + b.w) + (max (speedX b gx gy) (0 : Int)))), (1, Ix ((b.y + b.h) + (max (speedY b gx gy) (0 : Int))))]) (cells := #[Ix ((b.x + b.w) + (max (speedX b gx gy) (0 : Int))), Ix ((b.y + b.h) + (max (speedY b gx gy) (0 : Int)))]) rfl rfl) ?_
   refine l_val (v := .agg #[Ix ((b.x - b.w) + (min (speedX b gx gy) (0 : Int))), Ix ((b.y - b.h) + (min (speedY b gx gy) (0 : Int))), Ix ((b.x + b.w) + (max (speedX b gx gy) (0 : Int))), Ix ((b.y + b.h) + (max (speedY b gx gy) (0 : Int)))]) rfl rfl rfl (e_build uz0 uz3 (vs := [(0, .agg #[Ix ((b.x - b.w) + (min (speedX b gx gy) (0 : Int))), Ix ((b.y - b.h) + (min (speedY b gx gy) (0 : Int)))]), (1, .agg #[Ix ((b.x + b.w) + (max (speedX b gx gy) (0 : Int))), Ix ((b.y + b.h) + (max (speedY b gx gy) (0 : Int)))])]) (cells := #[Ix ((b.x - b.w) + (min (speedX b gx gy) (0 : Int))), Ix ((b.y - b.h) + (min (speedY b gx gy) (0 : Int))), Ix ((b.x + b.w) + (max (speedX b gx gy) (0 : Int))), Ix ((b.y + b.h) + (max (speedY b gx gy) (0 : Int)))]) rfl rfl) ?_
   refine l_mu rfl rfl (m_store 3 uz4 (b := b3) (o := 0) (T := 96) (cs := #[.int .i64 (0), .int .i64 (0), .int .i64 (0), .int .i64 (0)]) (cs' := #[Ix ((b.x - b.w) + (min (speedX b gx gy) (0 : Int))), Ix ((b.y - b.h) + (min (speedY b gx gy) (0 : Int))), Ix ((b.x + b.w) + (max (speedX b gx gy) (0 : Int))), Ix ((b.y + b.h) + (max (speedY b gx gy) (0 : Int)))]) (v := .agg #[Ix ((b.x - b.w) + (min (speedX b gx gy) (0 : Int))), Ix ((b.y - b.h) + (min (speedY b gx gy) (0 : Int))), Ix ((b.x + b.w) + (max (speedX b gx gy) (0 : Int))), Ix ((b.y + b.h) + (max (speedY b gx gy) (0 : Int)))]) rfl rfl rfl rfl rfl rfl rfl) ?_
   refine l_nil ?_
   refine f_then ?_
   refine c_ret ?_
   refine retG (l := [.cell 4 96]) (m := [.agg #[Ix ((b.x - b.w) + (min (speedX b gx gy) (0 : Int))), Ix ((b.y - b.h) + (min (speedY b gx gy) (0 : Int))), Ix ((b.x + b.w) + (max (speedX b gx gy) (0 : Int))), Ix ((b.y + b.h) + (max (speedY b gx gy) (0 : Int)))]]) (v := .agg #[Ix ((b.x - b.w) + (min (speedX b gx gy) (0 : Int))), Ix ((b.y - b.h) + (min (speedY b gx gy) (0 : Int))), Ix ((b.x + b.w) + (max (speedX b gx gy) (0 : Int))), Ix ((b.y + b.h) + (max (speedY b gx gy) (0 : Int)))]) Tryz.results45 ⟨rd_cell uz4 (cs := [Ix ((b.x - b.w) + (min (speedX b gx gy) (0 : Int))), Ix ((b.y - b.h) + (min (speedY b gx gy) (0 : Int))), Ix ((b.x + b.w) + (max (speedX b gx gy) (0 : Int))), Ix ((b.y + b.h) + (max (speedY b gx gy) (0 : Int)))]) rfl (k_pt 3 (cs := #[Ix ((b.x - b.w) + (min (speedX b gx gy) (0 : Int))), Ix ((b.y - b.h) + (min (speedY b gx gy) (0 : Int))), Ix ((b.x + b.w) + (max (speedX b gx gy) (0 : Int))), Ix ((b.y + b.h) + (max (speedY b gx gy) (0 : Int)))]) (vs := [Ix ((b.x - b.w) + (min (speedX b gx gy) (0 : Int))), Ix ((b.y - b.h) + (min (speedY b gx gy) (0 : Int))), Ix ((b.x + b.w) + (max (speedX b gx gy) (0 : Int))), Ix ((b.y + b.h) + (max (speedY b gx gy) (0 : Int)))]) rfl rfl) rfl, trivial⟩ rfl ?_
   intro w hw
   exact ⟨by rw [show reachA b gx gy = ⟨(b.x - b.w) + (min (speedX b gx gy) (0 : Int)), (b.y - b.h) + (min (speedY b gx gy) (0 : Int)), (b.x + b.w) + (max (speedX b gx gy) (0 : Int)), (b.y + b.h) + (max (speedY b gx gy) (0 : Int))⟩ from if_pos ⟨(Decidable.not_not.1 hg4), (Decidable.not_not.1 hc5)⟩] <;> rfl, st_mask [false, false, false, false, false, false] rfl hw⟩
set_option maxHeartbeats 4000000 in
theorem deleteB_ok (β : Base) (w : World) (q : Option Addr) (c : Nat) (xs : List KB) (hw : St β [rowF BodyF 52 q c xs] w) (hn : xs.length ≤ 1048576) (fn : Value) (p : KB → Bool) (hfn : FnV Tryz.prog β fn (fun z : KB => [.agg (bC z)]) (fun _ => True) (fun z => .bool (p z))) : Calls Tryz.prog 43 #[.slice q xs.length c, fn] w fun r w' => r = .returned (.slice q (xs.filter fun z => !p z).length c) ∧ St β [rowF BodyF 52 q c (xs.filter fun z => !p z)] w' := by
 have hfn0 := hfn
 obtain ⟨gg, fst, cap, rfl, hcf, hf⟩ := hfn
 refine enter (n := 42) Tryz.func43 rfl Tryz.ntmps43 rfl ?_ hw
 refine c_seq ?_
 refine c_rowcap 0 rfl (fun hcl hcm => ?_)
 refine c_region ?_
 refine l_val (v := .slice none 0 0) rfl rfl rfl (e_assign) ?_
 refine l_nil ?_
 refine f_then ?_
 refine c_seq ?_
 refine c_region ?_
 refine l_val (v := .slice q (xs.length) c) rfl rfl rfl (e_move) ?_
 refine l_val (v := .func (.func gg) fst.toArray cap.toArray) rfl rfl rfl (e_move) ?_
 refine l_call rfl rfl rfl (cl_value (fst := []) (cap := []) (vs := [.slice q (xs.length) c, .func (.func gg) fst.toArray cap.toArray]) (all := [.slice q (xs.length) c, .func (.func gg) fst.toArray cap.toArray]) uz14 rfl rfl rfl) ?_
 intro w hw
 obtain ⟨β1, sb, kn, hw1, back⟩ := St.frame_all hw
 refine (indexB_ok β1 w hw1 _ _ xs (kn _ (k_flN 0 (F := BodyF) (m := xs.length) rfl rfl)) p (fnv_all (hfn0.mono sb))).mono ?_
 rintro e w' ⟨rfl, hw'⟩
 refine ⟨_, rfl, _, back _ _ hw', ?_⟩
 clear hw hw1 hw' back kn sb
 refine l_val (v := Ix (idxI p xs)) rfl rfl rfl (e_assign) ?_
 refine l_nil ?_
 refine f_then ?_
 refine c_seq ?_
 refine c_seq ?_
 refine c_region ?_
 refine l_val (v := Ix (idxI p xs)) rfl rfl rfl (e_move) ?_
 refine l_val (v := .bool (decide ((idxI p xs) = (-1 : Int)))) rfl rfl rfl (e_eql (a := (idxI p xs)) (b := (-1 : Int)) rfl rfl) ?_
 refine l_nil ?_
 refine f_then ?_
 refine c_if ((idxI p xs) = (-1 : Int)) rfl (fun hc1 => ?_) (fun hc1 => ?_)
 ·
  refine c_seq ?_
  refine c_region ?_
  refine l_val (v := .slice q (xs.length) c) rfl rfl rfl (e_move) ?_
  refine l_val (v := .slice q (xs.length) c) rfl rfl rfl (e_assign) ?_
  refine l_nil ?_
  refine f_then ?_
  refine c_ret ?_
  refine f_then_ret ?_
  refine ret1 Tryz.results43 (v := .slice q (xs.length) c) rfl ?_
  intro w hw
  have he := filter_none hc1
  exact ⟨by rw [he], by rw [he]; exact st_mask [true] rfl hw⟩
 ·
  refine c_skip ?_
  refine f_then ?_
  refine c_seq ?_
  refine c_seq ?_
  obtain ⟨kq, hkq⟩ : ∃ k : Nat, idxI p xs = k := (idxI_nat _ _).resolve_left hc1
  have hd0 := DelInv.start hkq
  have hd1 := hd0.lj
  refine rebase (d := 5) (v := Nx kq) (congrArg (fun z : Int => Ix z) hkq) ?_
  refine c_region ?_
  refine l_val (v := Nx (kq)) rfl rfl rfl (e_move) ?_
  refine l_val (v := Nx (kq + 1)) rfl rfl rfl (e_add (a := ((kq : Nat) : Int)) (b := (1 : Int)) rfl rfl (i64n (by omega) (by omega))) ?_
  refine l_val (v := Nx (kq + 1)) rfl rfl rfl (e_assign) ?_
  refine l_nil ?_
  refine f_then ?_
  refine c_block ?_
  refine c_loop (fun (x_ : Nat × Nat × List KB) (f : Fm) (L : List Res) => match x_ with | (i, j, ws) => (f 0 = .slice q (xs.length) c ∧ f 1 = .func (.func gg) fst.toArray cap.toArray ∧ f 5 = Nx (i) ∧ f 6 = Nx (j)) ∧ L = [rowF BodyF 52 q c ws] ∧ (DelInv p xs ws i j)) (fun (x_ : Nat × Nat × List KB) => match x_ with | (i, j, ws) => xs.length - j) (kq, (kq + 1), xs) ?_ ?_
  ·exact ⟨⟨rfl, rfl, rfl, rfl⟩, rfl, hd0⟩
  rintro ⟨i, j, ws⟩ f0 L0 ⟨⟨hs0, hs1, hs5, hs6⟩, hL, hd⟩
  subst L0
  refine rebase (d := 0) hs0 ?_
  refine rebase (d := 1) hs1 ?_
  refine rebase (d := 5) hs5 ?_
  refine rebase (d := 6) hs6 ?_
  clear hs0 hs1 hs5 hs6
  have hdl := hd.len
  have hde := hd.le
  have hdj := hd.lj
  refine c_seq ?_
  refine c_seq ?_
  refine c_region ?_
  refine l_val (v := Nx (j)) rfl rfl rfl (e_move) ?_
  refine l_val (v := .slice q (xs.length) c) rfl rfl rfl (e_move) ?_
  refine l_val (v := Nx (xs.length)) rfl rfl rfl (e_len (a := q) (n := xs.length) (c := c) rfl uz15) ?_
  refine l_val (v := .bool (decide (((j : Nat) : Int) < ((xs.length : Nat) : Int)))) rfl rfl rfl (e_lss (a := ((j : Nat) : Int)) (b := ((xs.length : Nat) : Int)) rfl rfl) ?_
  refine l_nil ?_
  refine f_then ?_
  refine c_if (((j : Nat) : Int) < ((xs.length : Nat) : Int)) rfl (fun hc2 => ?_) (fun hc2 => ?_)
  ·
   refine c_skip ?_
   refine f_then ?_
   refine c_seq ?_
   refine c_block ?_
   refine c_seq ?_
   refine c_region ?_
   refine l_val (v := .slice q (xs.length) c) rfl rfl rfl (e_move) ?_
   refine l_val (v := Nx (j)) rfl rfl rfl (e_move) ?_
   refine l_val (v := .pointer (some ((ba q).add (j * 9)))) rfl rfl rfl (e_indexFlN 0 (F := BodyF) (j := j) (m := xs.length) (xs := ws) rfl (by omega) rfl uz16 (by omega) rfl) ?_
   obtain ⟨x3, hx4⟩ : ∃ x_, ws[j]? = some x_ := ⟨_, List.getElem?_eq_getElem (by omega)⟩
   refine l_val (v := .agg (bC x3)) rfl rfl rfl (e_load uz1 (cs := (bodyE x3)) rfl (k_flAt 0 (F := BodyF) rfl hx4) rfl) ?_
   refine l_mv rfl rfl rfl (m_alloc uz17) ?_
   rintro _ _ ⟨b5, rfl, rfl⟩
   refine l_mu rfl rfl (m_store 0 uz1 (b := b5) (o := 0) (T := 52) (cs := #[.int .i64 (0), .int .i64 (0), .int .i64 (0), .int .i64 (0), .int .i64 (0), .int .i64 (0), .int .i64 (0), .bool false, .bool false]) (cs' := (bC x3)) (v := .agg (bC x3)) rfl rfl rfl rfl rfl rfl rfl) ?_
   refine l_nil ?_
   refine f_then ?_
   refine c_seq ?_
   refine c_region ?_
   refine l_val (v := .func (.func gg) fst.toArray cap.toArray) rfl rfl rfl (e_move) ?_
   refine l_val (v := .agg (bC x3)) rfl rfl rfl (e_load uz1 (cs := (bodyE x3)) rfl (k_pt 0 (cs := (bC x3)) (vs := (bodyE x3)) rfl rfl) rfl) ?_
   refine l_call rfl rfl rfl (cl_value (fst := fst) (cap := cap) (vs := [.agg (bC x3)]) (all := fst ++ [.agg (bC x3)] ++ cap) hcf rfl rfl rfl) ?_
   intro w hw
   obtain ⟨β1, sb, kn, hw1, back⟩ := St.frame_all hw
   refine (hf β1 sb x3 trivial w hw1).mono ?_
   rintro e w' ⟨rfl, hw'⟩
   refine ⟨_, rfl, _, back _ _ hw', ?_⟩
   clear hw hw1 hw' back kn sb
   refine l_val (v := .bool (!(p x3))) rfl rfl rfl (e_not rfl) ?_
   refine l_nil ?_
   refine f_then ?_
   refine c_ifb (!(p x3)) rfl (fun hc6 => ?_) (fun hc6 => ?_)
   ·
    refine c_seq ?_
    refine c_region ?_
    refine l_val (v := .slice q (xs.length) c) rfl rfl rfl (e_move) ?_
    refine l_val (v := Nx (i)) rfl rfl rfl (e_move) ?_
    refine l_val (v := .agg (bC x3)) rfl rfl rfl (e_load uz1 (cs := (bodyE x3)) rfl (k_pt 0 (cs := (bC x3)) (vs := (bodyE x3)) rfl rfl) rfl) ?_
    refine l_val (v := .pointer (some ((ba q).add (i * 9)))) rfl rfl rfl (e_indexFlN 1 (F := BodyF) (j := i) (m := xs.length) (xs := ws) rfl (by omega) rfl uz16 (by omega) rfl) ?_
    refine l_mu rfl rfl (m_storeFl 1 (F := BodyF) (p := q) (k := i) (xs := ws) (z := x3) uz1 rfl rfl rfl rfl (by omega)) ?_
    refine l_nil ?_
    refine f_then ?_
    refine c_region ?_
    refine l_val (v := Nx (i)) rfl rfl rfl (e_move) ?_
    refine l_val (v := Nx (i + 1)) rfl rfl rfl (e_add (a := ((i : Nat) : Int)) (b := (1 : Int)) rfl rfl (i64n (by omega) (by omega))) ?_
    refine l_val (v := Nx (i + 1)) rfl rfl rfl (e_assign) ?_
    refine l_nil ?_
    refine f_block ?_
    refine f_then ?_
    refine c_region ?_
    refine l_val (v := Nx (j)) rfl rfl rfl (e_move) ?_
    refine l_val (v := Nx (j + 1)) rfl rfl rfl (e_add (a := ((j : Nat) : Int)) (b := (1 : Int)) rfl rfl (i64n (by omega) (by omega))) ?_
    refine l_val (v := Nx (j + 1)) rfl rfl rfl (e_assign) ?_
    refine l_nil ?_
    refine f_mask (L' := [rowF BodyF 52 q c (ws.set i x3)]) [false, true] rfl ?_
    exact f_cut ⟨(i + 1, j + 1, (ws.set i x3)), ⟨⟨rfl, rfl, rfl, rfl⟩, rfl, hd.keep hx4 (by simpa using hc6)⟩, (show xs.length - (j + 1) < xs.length - j from by omega)⟩
   ·
    refine c_skip ?_
    refine f_block ?_
    refine f_then ?_
    refine c_region ?_
    refine l_val (v := Nx (j)) rfl rfl rfl (e_move) ?_
    refine l_val (v := Nx (j + 1)) rfl rfl rfl (e_add (a := ((j : Nat) : Int)) (b := (1 : Int)) rfl rfl (i64n (by omega) (by omega))) ?_
    refine l_val (v := Nx (j + 1)) rfl rfl rfl (e_assign) ?_
    refine l_nil ?_
    refine f_mask (L' := [rowF BodyF 52 q c ws]) [false, true] rfl ?_
    exact f_cut ⟨(i, j + 1, ws), ⟨⟨rfl, rfl, rfl, rfl⟩, rfl, hd.skip hx4 (by simpa using hc6)⟩, (show xs.length - (j + 1) < xs.length - j from by omega)⟩
  ·
   refine c_exit ?_
   refine f_then_exit ?_
   refine f_then_exit ?_
   refine f_exit ?_
   refine f_then ?_
   refine c_seq ?_
   have hdl := hd.len
   have hde := hd.le
   have hdj := hd.lj
   refine c_region ?_
   refine l_val (v := .slice q (xs.length) c) rfl rfl rfl (e_move) ?_
   refine l_val (v := Nx (i)) rfl rfl rfl (e_move) ?_
   refine l_val (v := .slice (adv q c i 9) (ws.length - i) (c - i)) rfl rfl rfl (ev_eq (by rw [show ws.length = xs.length by omega]) (e_slice_lo (a := q) (len := xs.length) (cap := c) (l := i) uz16 rfl rfl (by omega))) ?_
   refine l_mc rfl rfl (m_clearFl (F := BodyF) (p := q) (c := c) (k := i) (xs := ws) 0 uz16 uz17 rfl rfl rfl rfl (by omega)) ?_
   rintro _ _ ⟨rfl, rfl⟩
   refine l_nil ?_
   refine f_then ?_
   refine c_seq ?_
   refine c_region ?_
   refine l_val (v := .slice q (xs.length) c) rfl rfl rfl (e_move) ?_
   refine l_val (v := Nx (i)) rfl rfl rfl (e_move) ?_
   refine l_val (v := .slice q (i) c) rfl rfl rfl (e_slice_hi (a := q) (len := xs.length) (cap := c) (h := i) uz16 rfl rfl (by omega)) ?_
   refine l_val (v := .slice q (i) c) rfl rfl rfl (e_assign) ?_
   refine l_nil ?_
   refine f_then ?_
   refine c_ret ?_
   refine ret1 Tryz.results43 (v := .slice q (i) c) rfl ?_
   intro w hw
   have he := hd.done (by omega)
   have hil : i = (xs.filter fun z => !p z).length := by rw [← he, List.length_take]; omega
   exact ⟨by rw [← hil], by rw [← he]; exact st_mask [true] rfl hw⟩
theorem fixed_fn (β : Base) : FnV Tryz.prog β (.func (.func 44) #[] #[]) (fun z : KB => [.agg (bC z)]) (fun _ => True) (fun z => .bool z.fixed) := by
 refine ⟨44, [], [], rfl, by kernel_rfl, fun β₁ sb0 z_ hz_ w hw => ?_⟩
 obtain ⟨y, hy⟩ : ∃ y, y = z_ := ⟨_, rfl⟩
 subst hy
 refine enter (n := 5) Tryz.func44 rfl Tryz.ntmps44 rfl ?_ hw
 refine c_seq ?_
 refine c_region ?_
 refine l_mv rfl rfl rfl (m_box (v := .agg (bC y)) rfl) ?_
 rintro _ _ ⟨b1, rfl, rfl⟩
 refine l_val (v := .bool false) rfl rfl rfl (e_assign) ?_
 refine l_nil ?_
 refine f_then ?_
 refine c_seq ?_
 refine c_region ?_
 refine l_val (v := .pointer (some ⟨b1, 8, none⟩)) rfl rfl rfl (e_fieldPt (b := b1) (o := 0) rfl uz18) ?_
 refine l_val (v := .bool (y.fixed)) rfl rfl rfl (e_load1 uz19 (v := .bool (y.fixed)) rfl (k_pt 0 (cs := (bC y)) (vs := [.bool (y.fixed)]) rfl rfl)) ?_
 refine l_val (v := .bool (y.fixed)) rfl rfl rfl (e_assign) ?_
 refine l_nil ?_
 refine f_then ?_
 refine c_ret ?_
 refine ret1 Tryz.results44 (v := .bool (y.fixed)) rfl ?_
 intro w hw
 exact ⟨rfl, st_mask [false] rfl hw⟩
end Go.Proofs
