/-
 The reference's layers 5 and 7, walked. Printed by a program of my own.
-/
import Derived.Test.YtdkibofhppgbjaaGreatDoorSt9
namespace Go.Proofs
open Go Go.Sl Go.Stp
def fark (x l h : Int) : Int := if x < l then l - x else if h < x then x - h else 0
theorem fark_bd (x l h : Int) (h1 : -4194304 ≤ l - x ∧ l - x ≤ 4194304) (h2 : -4194304 ≤ x - h ∧ x - h ≤ 4194304) : 0 ≤ fark x l h * fark x l h ∧ fark x l h * fark x l h ≤ 17592186044416 := by
 have e : -4194304 ≤ fark x l h ∧ fark x l h ≤ 4194304 := by unfold fark; split <;> (try split) <;> omega
 exact sq_bd (B := 4194304) e.1 e.2
theorem fark_eq {x y w : Int} (hw : 0 ≤ w) : fark y (x - w) (x + w) = max (Stp.abs (x - y) - w) 0 := by unfold fark Stp.abs; split <;> (try split) <;> omega
def far5 (a b : KB) : Int := if a.round = false ∧ b.round = false then max (max (a.x - a.w) (b.x - b.w) - min (a.x + a.w) (b.x + b.w)) (max (a.y - a.h) (b.y - b.h) - min (a.y + a.h) (b.y + b.h)) else Stp.far a b
theorem far5_round {a b : KB} (h : a.round = true ∨ b.round = true) : far5 a b = Stp.far a b := if_neg fun ⟨x, y⟩ => by rcases h with h | h <;> simp_all
theorem far5_comm {a b : KB} (h : a.round = true ∨ b.round = true) : far5 a b = far5 b a := by rw [far5_round h, far5_round h.symm]; exact far_comm a b
theorem far5_neg {a b : KB} (ha : okB a) (hb : okB b) : far5 a b < 0 ↔ Stp.far a b < 0 := by
 by_cases h : a.round = true ∨ b.round = true
 ·rw [far5_round h]
 ·have h1 : a.round = false := by cases e : a.round with | false => rfl | true => exact absurd (.inl e) h
  have h2 : b.round = false := by cases e : b.round with | false => rfl | true => exact absurd (.inr e) h
  rw [show far5 a b = _ from if_pos ⟨h1, h2⟩]
  have a6 := ha.2.2.2.2.2.1; have a7 := ha.2.2.2.2.2.2.1; have b6 := hb.2.2.2.2.2.1; have b7 := hb.2.2.2.2.2.2.1
  unfold Stp.far
  rw [room_ff h1 h2]
  unfold Stp.abs; omega
theorem sq5_tt {a b : KB} (ha : a.round = true) (hb : b.round = true) (_ : okB a) (_ : okB b) : (a.x - b.x) * (a.x - b.x) + (a.y - b.y) * (a.y - b.y) - (a.w + b.w) * (a.w + b.w) = far5 a b := by
 rw [far5_round (.inl ha)]
 unfold Stp.far
 rw [room_tt ha hb]
 have e : ∀ z : Int, Stp.abs z * Stp.abs z = z * z := fun z => by
  unfold Stp.abs
  by_cases h : 0 ≤ z
  ·rw [show max z (-z) = z by omega]
  ·rw [show max z (-z) = -z by omega, Int.neg_mul_neg]
 rw [e, e]
theorem sq5_ft {a b : KB} (ha : a.round = false) (hb : b.round = true) (h1 : okB a) (_ : okB b) : fark b.x (a.x - a.w) (a.x + a.w) * fark b.x (a.x - a.w) (a.x + a.w) + fark b.y (a.y - a.h) (a.y + a.h) * fark b.y (a.y - a.h) (a.y + a.h) - b.w * b.w = far5 a b := by
 rw [far5_round (.inr hb)]
 unfold Stp.far
 rw [room_ft ha hb, fark_eq (by have := h1.2.2.2.2.2.1; omega), fark_eq (by have := h1.2.2.2.2.2.2.1; omega)]
theorem sq5_ff {a b : KB} (ha : a.round = false) (hb : b.round = false) (_ : okB a) (_ : okB b) : max (max (a.x - a.w) (b.x - b.w) - min (a.x + a.w) (b.x + b.w)) (max (a.y - a.h) (b.y - b.h) - min (a.y + a.h) (b.y + b.h)) = far5 a b := (if_pos ⟨ha, hb⟩).symm
theorem tf114 : cfB Tryz.prog 176 = true := by kernel_rfl
theorem tf115 : cfB Tryz.prog 114 = true := by kernel_rfl
theorem tf116 : cfB Tryz.prog 245 = true := by kernel_rfl
theorem tf117 : cfB Tryz.prog 246 = true := by kernel_rfl
theorem tf118 : cfB Tryz.prog 237 = true := by kernel_rfl
theorem tf119 : cfB Tryz.prog 115 = true := by kernel_rfl
theorem tf120 : cfB Tryz.prog 116 = true := by kernel_rfl
theorem within_ok (β : Base) (w : World) (hw : St β [] w) (x m : Int) (hm : 0 ≤ m ∧ m ≤ 1099511627776) : Calls Tryz.prog 176 #[Ix x, Ix m] w fun r w' => r = .returned (.bool (decide (-m ≤ x ∧ x ≤ m))) ∧ St β [] w' := by
 refine enter (n := 14) Tryz.func176 rfl Tryz.ntmps176 rfl ?_ hw
 refine c_seq ?_
 refine c_region ?_
 refine l_val (v := .bool false) rfl rfl rfl (e_assign) ?_
 refine l_nil ?_
 refine f_then ?_
 refine c_seq ?_
 refine c_region ?_
 refine l_val (v := Ix (x)) rfl rfl rfl (e_move) ?_
 refine l_val (v := Ix (m)) rfl rfl rfl (e_move) ?_
 refine l_val (v := Ix (0 - (m))) rfl rfl rfl (e_neg (a := (m)) rfl (i64w (by omega))) ?_
 refine l_val (v := .bool (decide ((0 - (m)) ≤ (x)))) rfl rfl rfl (e_geq (a := (x)) (b := (0 - (m))) rfl rfl) ?_
 refine l_val (v := .bool (decide ((0 - (m)) ≤ (x)))) rfl rfl rfl (e_move) ?_
 refine l_split (s := 9) (p := (0 - (m)) ≤ (x)) rfl (fun hg1 => ?_) (fun hg1 => ?_)
 ·
  refine g_val (v := Ix (x)) rfl rfl rfl rfl rfl (e_move) ?_
  refine g_val (v := Ix (m)) rfl rfl rfl rfl rfl (e_move) ?_
  refine g_val (v := .bool (decide ((x) ≤ (m)))) rfl rfl rfl rfl rfl (e_leq (a := (x)) (b := (m)) rfl rfl) ?_
  refine l_val (v := .bool (decide ((x) ≤ (m)))) rfl rfl rfl (e_pick_t rfl) ?_
  refine l_val (v := .bool (decide ((x) ≤ (m)))) rfl rfl rfl (e_assign) ?_
  refine l_nil ?_
  refine f_then ?_
  refine c_ret ?_
  refine ret1 Tryz.results176 (v := .bool (decide ((x) ≤ (m)))) rfl ?_
  intro w hw
  exact ⟨congrArg (fun b : Bool => Ending.returned (.bool b)) (show decide ((x) ≤ (m)) = _ by first | (rw [eq_comm, decide_eq_false_iff_not]; omega) | exact decide_eq_decide.2 (by omega)), st_mask [] rfl hw⟩
 ·
  refine l_skip rfl rfl rfl rfl rfl rfl ?_
  refine l_skip rfl rfl rfl rfl rfl rfl ?_
  refine l_skip rfl rfl rfl rfl rfl rfl ?_
  refine l_val (v := .bool false) rfl rfl rfl (e_pick_f rfl) ?_
  refine l_val (v := .bool false) rfl rfl rfl (e_assign) ?_
  refine l_nil ?_
  refine f_then ?_
  refine c_ret ?_
  refine ret1 Tryz.results176 (v := .bool false) rfl ?_
  intro w hw
  exact ⟨congrArg (fun b : Bool => Ending.returned (.bool b)) (show false = _ by first | (rw [eq_comm, decide_eq_false_iff_not]; omega) | exact decide_eq_decide.2 (by omega)), st_mask [] rfl hw⟩
set_option maxHeartbeats 4000000 in
theorem valid5_ok (β : Base) (w : World) (hw : St β [] w) (b : KB) : Calls Tryz.prog 114 #[.agg (bC b)] w fun r w' => r = .returned (.bool (decide (okB b))) ∧ St β [] w' := by
 refine enter (n := 83) Tryz.func114 rfl Tryz.ntmps114 rfl ?_ hw
 refine c_seq ?_
 refine c_region ?_
 refine l_mv rfl rfl rfl (m_box (v := .agg (bC b)) rfl) ?_
 rintro _ _ ⟨b1, rfl, rfl⟩
 refine l_val (v := .bool false) rfl rfl rfl (e_assign) ?_
 refine l_nil ?_
 refine f_then ?_
 refine c_seq ?_
 refine c_seq ?_
 refine c_region ?_
 refine l_val (v := .pointer (some ⟨b1, 0, none⟩)) rfl rfl rfl (e_fieldPt (b := b1) (o := 0) rfl tf3) ?_
 refine l_val (v := Ix (b.id)) rfl rfl rfl (e_load1 tf2 (v := Ix (b.id)) rfl (k_pt 0 (cs := (bC b)) (vs := [Ix (b.id)]) rfl rfl)) ?_
 refine l_val (v := .bool (decide ((b.id) < (0 : Int)))) rfl rfl rfl (e_lss (a := (b.id)) (b := (0 : Int)) rfl rfl) ?_
 refine l_val (v := .bool (decide ((b.id) < (0 : Int)))) rfl rfl rfl (e_move) ?_
 refine l_split (s := 6) (p := (b.id) < (0 : Int)) rfl (fun hg2 => ?_) (fun hg2 => ?_)
 ·
  refine l_skip rfl rfl rfl rfl rfl rfl ?_
  refine l_skip rfl rfl rfl rfl rfl rfl ?_
  refine l_skip rfl rfl rfl rfl rfl rfl ?_
  refine l_val (v := .bool true) rfl rfl rfl (e_pick_t rfl) ?_
  refine l_val (v := .bool true) rfl rfl rfl (e_move) ?_
  refine l_skip rfl rfl rfl rfl rfl rfl ?_
  refine l_skip rfl rfl rfl rfl rfl rfl ?_
  refine l_skip rfl rfl rfl rfl rfl rfl ?_
  refine l_skip rfl rfl rfl rfl rfl rfl ?_
  refine l_skip rfl rfl rfl rfl rfl rfl ?_
  refine l_val (v := .bool true) rfl rfl rfl (e_pick_t rfl) ?_
  refine l_val (v := .bool true) rfl rfl rfl (e_move) ?_
  refine l_skip rfl rfl rfl rfl rfl rfl ?_
  refine l_skip rfl rfl rfl rfl rfl rfl ?_
  refine l_skip rfl rfl rfl rfl rfl rfl ?_
  refine l_skip rfl rfl rfl rfl rfl rfl ?_
  refine l_skip rfl rfl rfl rfl rfl rfl ?_
  refine l_val (v := .bool true) rfl rfl rfl (e_pick_t rfl) ?_
  refine l_val (v := .bool true) rfl rfl rfl (e_move) ?_
  refine l_skip rfl rfl rfl rfl rfl rfl ?_
  refine l_skip rfl rfl rfl rfl rfl rfl ?_
  refine l_skip rfl rfl rfl rfl rfl rfl ?_
  refine l_skip rfl rfl rfl rfl rfl rfl ?_
  refine l_skip rfl rfl rfl rfl rfl rfl ?_
  refine l_val (v := .bool true) rfl rfl rfl (e_pick_t rfl) ?_
  refine l_val (v := .bool true) rfl rfl rfl (e_move) ?_
  refine l_skip rfl rfl rfl rfl rfl rfl ?_
  refine l_skip rfl rfl rfl rfl rfl rfl ?_
  refine l_skip rfl rfl rfl rfl rfl rfl ?_
  refine l_skip rfl rfl rfl rfl rfl rfl ?_
  refine l_skip rfl rfl rfl rfl rfl rfl ?_
  refine l_val (v := .bool true) rfl rfl rfl (e_pick_t rfl) ?_
  refine l_nil ?_
  refine f_then ?_
  refine c_yes rfl ?_
  refine c_seq ?_
  refine c_region ?_
  refine l_val (v := .bool false) rfl rfl rfl (e_assign) ?_
  refine l_nil ?_
  refine f_then ?_
  refine c_ret ?_
  refine f_then_ret ?_
  refine ret1 Tryz.results114 (v := .bool false) rfl ?_
  intro w hw
  exact ⟨congrArg (fun b : Bool => Ending.returned (.bool b)) (show false = _ by rw [eq_comm, decide_eq_false_iff_not]; intro hok; obtain ⟨h1, h2, h3, h4, h5, h6, h7, h8, h9⟩ := hok; first | omega | (simp_all; done) | (simp_all; omega)), st_mask [false] rfl hw⟩
 ·
  refine g_val (v := .pointer (some ⟨b1, 0, none⟩)) rfl rfl rfl rfl rfl (e_fieldPt (b := b1) (o := 0) rfl tf3) ?_
  refine g_val (v := Ix (b.id)) rfl rfl rfl rfl rfl (e_load1 tf2 (v := Ix (b.id)) rfl (k_pt 0 (cs := (bC b)) (vs := [Ix (b.id)]) rfl rfl)) ?_
  refine g_val (v := .bool (decide ((65536 : Int) < (b.id)))) rfl rfl rfl rfl rfl (e_gtr (a := (b.id)) (b := (65536 : Int)) rfl rfl) ?_
  refine l_val (v := .bool (decide ((65536 : Int) < (b.id)))) rfl rfl rfl (e_pick_f rfl) ?_
  refine l_val (v := .bool (decide ((65536 : Int) < (b.id)))) rfl rfl rfl (e_move) ?_
  refine l_split (s := 11) (p := (65536 : Int) < (b.id)) rfl (fun hg3 => ?_) (fun hg3 => ?_)
  ·
   refine l_skip rfl rfl rfl rfl rfl rfl ?_
   refine l_skip rfl rfl rfl rfl rfl rfl ?_
   refine l_skip rfl rfl rfl rfl rfl rfl ?_
   refine l_skip rfl rfl rfl rfl rfl rfl ?_
   refine l_skip rfl rfl rfl rfl rfl rfl ?_
   refine l_val (v := .bool true) rfl rfl rfl (e_pick_t rfl) ?_
   refine l_val (v := .bool true) rfl rfl rfl (e_move) ?_
   refine l_skip rfl rfl rfl rfl rfl rfl ?_
   refine l_skip rfl rfl rfl rfl rfl rfl ?_
   refine l_skip rfl rfl rfl rfl rfl rfl ?_
   refine l_skip rfl rfl rfl rfl rfl rfl ?_
   refine l_skip rfl rfl rfl rfl rfl rfl ?_
   refine l_val (v := .bool true) rfl rfl rfl (e_pick_t rfl) ?_
   refine l_val (v := .bool true) rfl rfl rfl (e_move) ?_
   refine l_skip rfl rfl rfl rfl rfl rfl ?_
   refine l_skip rfl rfl rfl rfl rfl rfl ?_
   refine l_skip rfl rfl rfl rfl rfl rfl ?_
   refine l_skip rfl rfl rfl rfl rfl rfl ?_
   refine l_skip rfl rfl rfl rfl rfl rfl ?_
   refine l_val (v := .bool true) rfl rfl rfl (e_pick_t rfl) ?_
   refine l_val (v := .bool true) rfl rfl rfl (e_move) ?_
   refine l_skip rfl rfl rfl rfl rfl rfl ?_
   refine l_skip rfl rfl rfl rfl rfl rfl ?_
   refine l_skip rfl rfl rfl rfl rfl rfl ?_
   refine l_skip rfl rfl rfl rfl rfl rfl ?_
   refine l_skip rfl rfl rfl rfl rfl rfl ?_
   refine l_val (v := .bool true) rfl rfl rfl (e_pick_t rfl) ?_
   refine l_nil ?_
   refine f_then ?_
   refine c_yes rfl ?_
   refine c_seq ?_
   refine c_region ?_
   refine l_val (v := .bool false) rfl rfl rfl (e_assign) ?_
   refine l_nil ?_
   refine f_then ?_
   refine c_ret ?_
   refine f_then_ret ?_
   refine ret1 Tryz.results114 (v := .bool false) rfl ?_
   intro w hw
   exact ⟨congrArg (fun b : Bool => Ending.returned (.bool b)) (show false = _ by rw [eq_comm, decide_eq_false_iff_not]; intro hok; obtain ⟨h1, h2, h3, h4, h5, h6, h7, h8, h9⟩ := hok; first | omega | (simp_all; done) | (simp_all; omega)), st_mask [false] rfl hw⟩
  ·
   refine g_val (v := .pointer (some ⟨b1, 1, none⟩)) rfl rfl rfl rfl rfl (e_fieldPt (b := b1) (o := 0) rfl tf6) ?_
   refine g_val (v := .pointer (some ⟨b1, 1, none⟩)) rfl rfl rfl rfl rfl (e_fieldPt (b := b1) (o := 1) rfl tf7) ?_
   refine g_val (v := Ix (b.x)) rfl rfl rfl rfl rfl (e_load1 tf2 (v := Ix (b.x)) rfl (k_pt 0 (cs := (bC b)) (vs := [Ix (b.x)]) rfl rfl)) ?_
   refine g_call rfl rfl rfl rfl rfl (cl_value (fst := []) (cap := []) (vs := [Ix (b.x), .int .i64 (1048576)]) (all := [Ix (b.x), .int .i64 (1048576)]) tf114 rfl rfl rfl) ?_
   intro w hw
   obtain ⟨β1, sb, kn, hw1, back⟩ := St.frame_all hw
   refine (within_ok β1 w hw1 (b.x) (1048576) (by decide)).mono ?_
   rintro e w' ⟨rfl, hw'⟩
   refine ⟨_, rfl, _, back _ _ hw', ?_⟩
   clear hw hw1 hw' back kn sb
   refine g_val (v := .bool (decide (¬ (-(1048576 : Int) ≤ (b.x) ∧ (b.x) ≤ 1048576)))) rfl rfl rfl rfl rfl (e_not_p (p := -(1048576 : Int) ≤ (b.x) ∧ (b.x) ≤ 1048576) rfl) ?_
   refine l_val (v := .bool (decide (¬ (-(1048576 : Int) ≤ (b.x) ∧ (b.x) ≤ 1048576)))) rfl rfl rfl (e_pick_f rfl) ?_
   refine l_val (v := .bool (decide (¬ (-(1048576 : Int) ≤ (b.x) ∧ (b.x) ≤ 1048576)))) rfl rfl rfl (e_move) ?_
   refine l_split (s := 18) (p := ¬ (-(1048576 : Int) ≤ (b.x) ∧ (b.x) ≤ 1048576)) rfl (fun hg4 => ?_) (fun hg4 => ?_)
   ·
    refine l_skip rfl rfl rfl rfl rfl rfl ?_
    refine l_skip rfl rfl rfl rfl rfl rfl ?_
    refine l_skip rfl rfl rfl rfl rfl rfl ?_
    refine l_skip rfl rfl rfl rfl rfl rfl ?_
    refine l_skip rfl rfl rfl rfl rfl rfl ?_
    refine l_val (v := .bool true) rfl rfl rfl (e_pick_t rfl) ?_
    refine l_val (v := .bool true) rfl rfl rfl (e_move) ?_
    refine l_skip rfl rfl rfl rfl rfl rfl ?_
    refine l_skip rfl rfl rfl rfl rfl rfl ?_
    refine l_skip rfl rfl rfl rfl rfl rfl ?_
    refine l_skip rfl rfl rfl rfl rfl rfl ?_
    refine l_skip rfl rfl rfl rfl rfl rfl ?_
    refine l_val (v := .bool true) rfl rfl rfl (e_pick_t rfl) ?_
    refine l_val (v := .bool true) rfl rfl rfl (e_move) ?_
    refine l_skip rfl rfl rfl rfl rfl rfl ?_
    refine l_skip rfl rfl rfl rfl rfl rfl ?_
    refine l_skip rfl rfl rfl rfl rfl rfl ?_
    refine l_skip rfl rfl rfl rfl rfl rfl ?_
    refine l_skip rfl rfl rfl rfl rfl rfl ?_
    refine l_val (v := .bool true) rfl rfl rfl (e_pick_t rfl) ?_
    refine l_nil ?_
    refine f_then ?_
    refine c_yes rfl ?_
    refine c_seq ?_
    refine c_region ?_
    refine l_val (v := .bool false) rfl rfl rfl (e_assign) ?_
    refine l_nil ?_
    refine f_then ?_
    refine c_ret ?_
    refine f_then_ret ?_
    refine ret1 Tryz.results114 (v := .bool false) rfl ?_
    intro w hw
    exact ⟨congrArg (fun b : Bool => Ending.returned (.bool b)) (show false = _ by rw [eq_comm, decide_eq_false_iff_not]; intro hok; obtain ⟨h1, h2, h3, h4, h5, h6, h7, h8, h9⟩ := hok; first | omega | (simp_all; done) | (simp_all; omega)), st_mask [false] rfl hw⟩
   ·
    refine g_val (v := .pointer (some ⟨b1, 1, none⟩)) rfl rfl rfl rfl rfl (e_fieldPt (b := b1) (o := 0) rfl tf6) ?_
    refine g_val (v := .pointer (some ⟨b1, 2, none⟩)) rfl rfl rfl rfl rfl (e_fieldPt (b := b1) (o := 1) rfl tf8) ?_
    refine g_val (v := Ix (b.y)) rfl rfl rfl rfl rfl (e_load1 tf2 (v := Ix (b.y)) rfl (k_pt 0 (cs := (bC b)) (vs := [Ix (b.y)]) rfl rfl)) ?_
    refine g_call rfl rfl rfl rfl rfl (cl_value (fst := []) (cap := []) (vs := [Ix (b.y), .int .i64 (1048576)]) (all := [Ix (b.y), .int .i64 (1048576)]) tf114 rfl rfl rfl) ?_
    intro w hw
    obtain ⟨β1, sb, kn, hw1, back⟩ := St.frame_all hw
    refine (within_ok β1 w hw1 (b.y) (1048576) (by decide)).mono ?_
    rintro e w' ⟨rfl, hw'⟩
    refine ⟨_, rfl, _, back _ _ hw', ?_⟩
    clear hw hw1 hw' back kn sb
    refine g_val (v := .bool (decide (¬ (-(1048576 : Int) ≤ (b.y) ∧ (b.y) ≤ 1048576)))) rfl rfl rfl rfl rfl (e_not_p (p := -(1048576 : Int) ≤ (b.y) ∧ (b.y) ≤ 1048576) rfl) ?_
    refine l_val (v := .bool (decide (¬ (-(1048576 : Int) ≤ (b.y) ∧ (b.y) ≤ 1048576)))) rfl rfl rfl (e_pick_f rfl) ?_
    refine l_val (v := .bool (decide (¬ (-(1048576 : Int) ≤ (b.y) ∧ (b.y) ≤ 1048576)))) rfl rfl rfl (e_move) ?_
    refine l_split (s := 25) (p := ¬ (-(1048576 : Int) ≤ (b.y) ∧ (b.y) ≤ 1048576)) rfl (fun hg5 => ?_) (fun hg5 => ?_)
    ·
     refine l_skip rfl rfl rfl rfl rfl rfl ?_
     refine l_skip rfl rfl rfl rfl rfl rfl ?_
     refine l_skip rfl rfl rfl rfl rfl rfl ?_
     refine l_skip rfl rfl rfl rfl rfl rfl ?_
     refine l_skip rfl rfl rfl rfl rfl rfl ?_
     refine l_val (v := .bool true) rfl rfl rfl (e_pick_t rfl) ?_
     refine l_val (v := .bool true) rfl rfl rfl (e_move) ?_
     refine l_skip rfl rfl rfl rfl rfl rfl ?_
     refine l_skip rfl rfl rfl rfl rfl rfl ?_
     refine l_skip rfl rfl rfl rfl rfl rfl ?_
     refine l_skip rfl rfl rfl rfl rfl rfl ?_
     refine l_skip rfl rfl rfl rfl rfl rfl ?_
     refine l_val (v := .bool true) rfl rfl rfl (e_pick_t rfl) ?_
     refine l_nil ?_
     refine f_then ?_
     refine c_yes rfl ?_
     refine c_seq ?_
     refine c_region ?_
     refine l_val (v := .bool false) rfl rfl rfl (e_assign) ?_
     refine l_nil ?_
     refine f_then ?_
     refine c_ret ?_
     refine f_then_ret ?_
     refine ret1 Tryz.results114 (v := .bool false) rfl ?_
     intro w hw
     exact ⟨congrArg (fun b : Bool => Ending.returned (.bool b)) (show false = _ by rw [eq_comm, decide_eq_false_iff_not]; intro hok; obtain ⟨h1, h2, h3, h4, h5, h6, h7, h8, h9⟩ := hok; first | omega | (simp_all; done) | (simp_all; omega)), st_mask [false] rfl hw⟩
    ·
     refine g_val (v := .pointer (some ⟨b1, 3, none⟩)) rfl rfl rfl rfl rfl (e_fieldPt (b := b1) (o := 0) rfl tf9) ?_
     refine g_val (v := .pointer (some ⟨b1, 3, none⟩)) rfl rfl rfl rfl rfl (e_fieldPt (b := b1) (o := 3) rfl tf7) ?_
     refine g_val (v := Ix (b.vx)) rfl rfl rfl rfl rfl (e_load1 tf2 (v := Ix (b.vx)) rfl (k_pt 0 (cs := (bC b)) (vs := [Ix (b.vx)]) rfl rfl)) ?_
     refine g_call rfl rfl rfl rfl rfl (cl_value (fst := []) (cap := []) (vs := [Ix (b.vx), .int .i64 (4096)]) (all := [Ix (b.vx), .int .i64 (4096)]) tf114 rfl rfl rfl) ?_
     intro w hw
     obtain ⟨β1, sb, kn, hw1, back⟩ := St.frame_all hw
     refine (within_ok β1 w hw1 (b.vx) (4096) (by decide)).mono ?_
     rintro e w' ⟨rfl, hw'⟩
     refine ⟨_, rfl, _, back _ _ hw', ?_⟩
     clear hw hw1 hw' back kn sb
     refine g_val (v := .bool (decide (¬ (-(4096 : Int) ≤ (b.vx) ∧ (b.vx) ≤ 4096)))) rfl rfl rfl rfl rfl (e_not_p (p := -(4096 : Int) ≤ (b.vx) ∧ (b.vx) ≤ 4096) rfl) ?_
     refine l_val (v := .bool (decide (¬ (-(4096 : Int) ≤ (b.vx) ∧ (b.vx) ≤ 4096)))) rfl rfl rfl (e_pick_f rfl) ?_
     refine l_val (v := .bool (decide (¬ (-(4096 : Int) ≤ (b.vx) ∧ (b.vx) ≤ 4096)))) rfl rfl rfl (e_move) ?_
     refine l_split (s := 32) (p := ¬ (-(4096 : Int) ≤ (b.vx) ∧ (b.vx) ≤ 4096)) rfl (fun hg6 => ?_) (fun hg6 => ?_)
     ·
      refine l_skip rfl rfl rfl rfl rfl rfl ?_
      refine l_skip rfl rfl rfl rfl rfl rfl ?_
      refine l_skip rfl rfl rfl rfl rfl rfl ?_
      refine l_skip rfl rfl rfl rfl rfl rfl ?_
      refine l_skip rfl rfl rfl rfl rfl rfl ?_
      refine l_val (v := .bool true) rfl rfl rfl (e_pick_t rfl) ?_
      refine l_nil ?_
      refine f_then ?_
      refine c_yes rfl ?_
      refine c_seq ?_
      refine c_region ?_
      refine l_val (v := .bool false) rfl rfl rfl (e_assign) ?_
      refine l_nil ?_
      refine f_then ?_
      refine c_ret ?_
      refine f_then_ret ?_
      refine ret1 Tryz.results114 (v := .bool false) rfl ?_
      intro w hw
      exact ⟨congrArg (fun b : Bool => Ending.returned (.bool b)) (show false = _ by rw [eq_comm, decide_eq_false_iff_not]; intro hok; obtain ⟨h1, h2, h3, h4, h5, h6, h7, h8, h9⟩ := hok; first | omega | (simp_all; done) | (simp_all; omega)), st_mask [false] rfl hw⟩
     ·
      refine g_val (v := .pointer (some ⟨b1, 3, none⟩)) rfl rfl rfl rfl rfl (e_fieldPt (b := b1) (o := 0) rfl tf9) ?_
      refine g_val (v := .pointer (some ⟨b1, 4, none⟩)) rfl rfl rfl rfl rfl (e_fieldPt (b := b1) (o := 3) rfl tf8) ?_
      refine g_val (v := Ix (b.vy)) rfl rfl rfl rfl rfl (e_load1 tf2 (v := Ix (b.vy)) rfl (k_pt 0 (cs := (bC b)) (vs := [Ix (b.vy)]) rfl rfl)) ?_
      refine g_call rfl rfl rfl rfl rfl (cl_value (fst := []) (cap := []) (vs := [Ix (b.vy), .int .i64 (4096)]) (all := [Ix (b.vy), .int .i64 (4096)]) tf114 rfl rfl rfl) ?_
      intro w hw
      obtain ⟨β1, sb, kn, hw1, back⟩ := St.frame_all hw
      refine (within_ok β1 w hw1 (b.vy) (4096) (by decide)).mono ?_
      rintro e w' ⟨rfl, hw'⟩
      refine ⟨_, rfl, _, back _ _ hw', ?_⟩
      clear hw hw1 hw' back kn sb
      refine g_val (v := .bool (decide (¬ (-(4096 : Int) ≤ (b.vy) ∧ (b.vy) ≤ 4096)))) rfl rfl rfl rfl rfl (e_not_p (p := -(4096 : Int) ≤ (b.vy) ∧ (b.vy) ≤ 4096) rfl) ?_
      refine l_val (v := .bool (decide (¬ (-(4096 : Int) ≤ (b.vy) ∧ (b.vy) ≤ 4096)))) rfl rfl rfl (e_pick_f rfl) ?_
      refine l_nil ?_
      refine f_then ?_
      refine c_if (¬ (-(4096 : Int) ≤ (b.vy) ∧ (b.vy) ≤ 4096)) rfl (fun hc7 => ?_) (fun hc7 => ?_)
      ·
       refine c_seq ?_
       refine c_region ?_
       refine l_val (v := .bool false) rfl rfl rfl (e_assign) ?_
       refine l_nil ?_
       refine f_then ?_
       refine c_ret ?_
       refine f_then_ret ?_
       refine ret1 Tryz.results114 (v := .bool false) rfl ?_
       intro w hw
       exact ⟨congrArg (fun b : Bool => Ending.returned (.bool b)) (show false = _ by rw [eq_comm, decide_eq_false_iff_not]; intro hok; obtain ⟨h1, h2, h3, h4, h5, h6, h7, h8, h9⟩ := hok; first | omega | (simp_all; done) | (simp_all; omega)), st_mask [false] rfl hw⟩
      ·
       refine c_skip ?_
       refine f_then ?_
       refine c_seq ?_
       refine c_seq ?_
       refine c_region ?_
       refine l_val (v := .pointer (some ⟨b1, 5, none⟩)) rfl rfl rfl (e_fieldPt (b := b1) (o := 0) rfl tf10) ?_
       refine l_val (v := Ix (b.w)) rfl rfl rfl (e_load1 tf2 (v := Ix (b.w)) rfl (k_pt 0 (cs := (bC b)) (vs := [Ix (b.w)]) rfl rfl)) ?_
       refine l_val (v := .bool (decide ((b.w) < (1 : Int)))) rfl rfl rfl (e_lss (a := (b.w)) (b := (1 : Int)) rfl rfl) ?_
       refine l_val (v := .bool (decide ((b.w) < (1 : Int)))) rfl rfl rfl (e_move) ?_
       refine l_split (s := 42) (p := (b.w) < (1 : Int)) rfl (fun hg8 => ?_) (fun hg8 => ?_)
       ·
        refine l_skip rfl rfl rfl rfl rfl rfl ?_
        refine l_skip rfl rfl rfl rfl rfl rfl ?_
        refine l_skip rfl rfl rfl rfl rfl rfl ?_
        refine l_val (v := .bool true) rfl rfl rfl (e_pick_t rfl) ?_
        refine l_val (v := .bool true) rfl rfl rfl (e_move) ?_
        refine l_skip rfl rfl rfl rfl rfl rfl ?_
        refine l_skip rfl rfl rfl rfl rfl rfl ?_
        refine l_skip rfl rfl rfl rfl rfl rfl ?_
        refine l_val (v := .bool true) rfl rfl rfl (e_pick_t rfl) ?_
        refine l_val (v := .bool true) rfl rfl rfl (e_move) ?_
        refine l_skip rfl rfl rfl rfl rfl rfl ?_
        refine l_skip rfl rfl rfl rfl rfl rfl ?_
        refine l_skip rfl rfl rfl rfl rfl rfl ?_
        refine l_val (v := .bool true) rfl rfl rfl (e_pick_t rfl) ?_
        refine l_val (v := .bool true) rfl rfl rfl (e_move) ?_
        refine l_skip rfl rfl rfl rfl rfl rfl ?_
        refine l_skip rfl rfl rfl rfl rfl rfl ?_
        refine l_skip rfl rfl rfl rfl rfl rfl ?_
        refine l_skip_u rfl rfl rfl rfl rfl ?_
        refine l_skip_u rfl rfl rfl rfl rfl ?_
        refine l_skip_u rfl rfl rfl rfl rfl ?_
        refine l_skip_u rfl rfl rfl rfl rfl ?_
        refine l_skip_u rfl rfl rfl rfl rfl ?_
        refine l_skip rfl rfl rfl rfl rfl rfl ?_
        refine l_val (v := .bool true) rfl rfl rfl (e_pick_t rfl) ?_
        refine l_nil ?_
        refine f_then ?_
        refine c_yes rfl ?_
        refine c_seq ?_
        refine c_region ?_
        refine l_val (v := .bool false) rfl rfl rfl (e_assign) ?_
        refine l_nil ?_
        refine f_then ?_
        refine c_ret ?_
        refine f_then_ret ?_
        refine ret1 Tryz.results114 (v := .bool false) rfl ?_
        intro w hw
        exact ⟨congrArg (fun b : Bool => Ending.returned (.bool b)) (show false = _ by rw [eq_comm, decide_eq_false_iff_not]; intro hok; obtain ⟨h1, h2, h3, h4, h5, h6, h7, h8, h9⟩ := hok; first | omega | (simp_all; done) | (simp_all; omega)), st_mask [false] rfl hw⟩
       ·
        refine g_val (v := .pointer (some ⟨b1, 5, none⟩)) rfl rfl rfl rfl rfl (e_fieldPt (b := b1) (o := 0) rfl tf10) ?_
        refine g_val (v := Ix (b.w)) rfl rfl rfl rfl rfl (e_load1 tf2 (v := Ix (b.w)) rfl (k_pt 0 (cs := (bC b)) (vs := [Ix (b.w)]) rfl rfl)) ?_
        refine g_val (v := .bool (decide ((16384 : Int) < (b.w)))) rfl rfl rfl rfl rfl (e_gtr (a := (b.w)) (b := (16384 : Int)) rfl rfl) ?_
        refine l_val (v := .bool (decide ((16384 : Int) < (b.w)))) rfl rfl rfl (e_pick_f rfl) ?_
        refine l_val (v := .bool (decide ((16384 : Int) < (b.w)))) rfl rfl rfl (e_move) ?_
        refine l_split (s := 47) (p := (16384 : Int) < (b.w)) rfl (fun hg9 => ?_) (fun hg9 => ?_)
        ·
         refine l_skip rfl rfl rfl rfl rfl rfl ?_
         refine l_skip rfl rfl rfl rfl rfl rfl ?_
         refine l_skip rfl rfl rfl rfl rfl rfl ?_
         refine l_val (v := .bool true) rfl rfl rfl (e_pick_t rfl) ?_
         refine l_val (v := .bool true) rfl rfl rfl (e_move) ?_
         refine l_skip rfl rfl rfl rfl rfl rfl ?_
         refine l_skip rfl rfl rfl rfl rfl rfl ?_
         refine l_skip rfl rfl rfl rfl rfl rfl ?_
         refine l_val (v := .bool true) rfl rfl rfl (e_pick_t rfl) ?_
         refine l_val (v := .bool true) rfl rfl rfl (e_move) ?_
         refine l_skip rfl rfl rfl rfl rfl rfl ?_
         refine l_skip rfl rfl rfl rfl rfl rfl ?_
         refine l_skip rfl rfl rfl rfl rfl rfl ?_
         refine l_skip_u rfl rfl rfl rfl rfl ?_
         refine l_skip_u rfl rfl rfl rfl rfl ?_
         refine l_skip_u rfl rfl rfl rfl rfl ?_
         refine l_skip_u rfl rfl rfl rfl rfl ?_
         refine l_skip_u rfl rfl rfl rfl rfl ?_
         refine l_skip rfl rfl rfl rfl rfl rfl ?_
         refine l_val (v := .bool true) rfl rfl rfl (e_pick_t rfl) ?_
         refine l_nil ?_
         refine f_then ?_
         refine c_yes rfl ?_
         refine c_seq ?_
         refine c_region ?_
         refine l_val (v := .bool false) rfl rfl rfl (e_assign) ?_
         refine l_nil ?_
         refine f_then ?_
         refine c_ret ?_
         refine f_then_ret ?_
         refine ret1 Tryz.results114 (v := .bool false) rfl ?_
         intro w hw
         exact ⟨congrArg (fun b : Bool => Ending.returned (.bool b)) (show false = _ by rw [eq_comm, decide_eq_false_iff_not]; intro hok; obtain ⟨h1, h2, h3, h4, h5, h6, h7, h8, h9⟩ := hok; first | omega | (simp_all; done) | (simp_all; omega)), st_mask [false] rfl hw⟩
        ·
         refine g_val (v := .pointer (some ⟨b1, 6, none⟩)) rfl rfl rfl rfl rfl (e_fieldPt (b := b1) (o := 0) rfl tf11) ?_
         refine g_val (v := Ix (b.h)) rfl rfl rfl rfl rfl (e_load1 tf2 (v := Ix (b.h)) rfl (k_pt 0 (cs := (bC b)) (vs := [Ix (b.h)]) rfl rfl)) ?_
         refine g_val (v := .bool (decide ((b.h) < (1 : Int)))) rfl rfl rfl rfl rfl (e_lss (a := (b.h)) (b := (1 : Int)) rfl rfl) ?_
         refine l_val (v := .bool (decide ((b.h) < (1 : Int)))) rfl rfl rfl (e_pick_f rfl) ?_
         refine l_val (v := .bool (decide ((b.h) < (1 : Int)))) rfl rfl rfl (e_move) ?_
         refine l_split (s := 52) (p := (b.h) < (1 : Int)) rfl (fun hg10 => ?_) (fun hg10 => ?_)
         ·
          refine l_skip rfl rfl rfl rfl rfl rfl ?_
          refine l_skip rfl rfl rfl rfl rfl rfl ?_
          refine l_skip rfl rfl rfl rfl rfl rfl ?_
          refine l_val (v := .bool true) rfl rfl rfl (e_pick_t rfl) ?_
          refine l_val (v := .bool true) rfl rfl rfl (e_move) ?_
          refine l_skip rfl rfl rfl rfl rfl rfl ?_
          refine l_skip rfl rfl rfl rfl rfl rfl ?_
          refine l_skip rfl rfl rfl rfl rfl rfl ?_
          refine l_skip_u rfl rfl rfl rfl rfl ?_
          refine l_skip_u rfl rfl rfl rfl rfl ?_
          refine l_skip_u rfl rfl rfl rfl rfl ?_
          refine l_skip_u rfl rfl rfl rfl rfl ?_
          refine l_skip_u rfl rfl rfl rfl rfl ?_
          refine l_skip rfl rfl rfl rfl rfl rfl ?_
          refine l_val (v := .bool true) rfl rfl rfl (e_pick_t rfl) ?_
          refine l_nil ?_
          refine f_then ?_
          refine c_yes rfl ?_
          refine c_seq ?_
          refine c_region ?_
          refine l_val (v := .bool false) rfl rfl rfl (e_assign) ?_
          refine l_nil ?_
          refine f_then ?_
          refine c_ret ?_
          refine f_then_ret ?_
          refine ret1 Tryz.results114 (v := .bool false) rfl ?_
          intro w hw
          exact ⟨congrArg (fun b : Bool => Ending.returned (.bool b)) (show false = _ by rw [eq_comm, decide_eq_false_iff_not]; intro hok; obtain ⟨h1, h2, h3, h4, h5, h6, h7, h8, h9⟩ := hok; first | omega | (simp_all; done) | (simp_all; omega)), st_mask [false] rfl hw⟩
         ·
          refine g_val (v := .pointer (some ⟨b1, 6, none⟩)) rfl rfl rfl rfl rfl (e_fieldPt (b := b1) (o := 0) rfl tf11) ?_
          refine g_val (v := Ix (b.h)) rfl rfl rfl rfl rfl (e_load1 tf2 (v := Ix (b.h)) rfl (k_pt 0 (cs := (bC b)) (vs := [Ix (b.h)]) rfl rfl)) ?_
          refine g_val (v := .bool (decide ((16384 : Int) < (b.h)))) rfl rfl rfl rfl rfl (e_gtr (a := (b.h)) (b := (16384 : Int)) rfl rfl) ?_
          refine l_val (v := .bool (decide ((16384 : Int) < (b.h)))) rfl rfl rfl (e_pick_f rfl) ?_
          refine l_val (v := .bool (decide ((16384 : Int) < (b.h)))) rfl rfl rfl (e_move) ?_
          refine l_split (s := 57) (p := (16384 : Int) < (b.h)) rfl (fun hg11 => ?_) (fun hg11 => ?_)
          ·
           refine l_skip rfl rfl rfl rfl rfl rfl ?_
           refine l_skip rfl rfl rfl rfl rfl rfl ?_
           refine l_skip rfl rfl rfl rfl rfl rfl ?_
           refine l_skip_u rfl rfl rfl rfl rfl ?_
           refine l_skip_u rfl rfl rfl rfl rfl ?_
           refine l_skip_u rfl rfl rfl rfl rfl ?_
           refine l_skip_u rfl rfl rfl rfl rfl ?_
           refine l_skip_u rfl rfl rfl rfl rfl ?_
           refine l_skip rfl rfl rfl rfl rfl rfl ?_
           refine l_val (v := .bool true) rfl rfl rfl (e_pick_t rfl) ?_
           refine l_nil ?_
           refine f_then ?_
           refine c_yes rfl ?_
           refine c_seq ?_
           refine c_region ?_
           refine l_val (v := .bool false) rfl rfl rfl (e_assign) ?_
           refine l_nil ?_
           refine f_then ?_
           refine c_ret ?_
           refine f_then_ret ?_
           refine ret1 Tryz.results114 (v := .bool false) rfl ?_
           intro w hw
           exact ⟨congrArg (fun b : Bool => Ending.returned (.bool b)) (show false = _ by rw [eq_comm, decide_eq_false_iff_not]; intro hok; obtain ⟨h1, h2, h3, h4, h5, h6, h7, h8, h9⟩ := hok; first | omega | (simp_all; done) | (simp_all; omega)), st_mask [false] rfl hw⟩
          ·
           refine g_val (v := .pointer (some ⟨b1, 7, none⟩)) rfl rfl rfl rfl rfl (e_fieldPt (b := b1) (o := 0) rfl tf12) ?_
           refine g_val (v := .bool (b.round)) rfl rfl rfl rfl rfl (e_load1 tf13 (v := .bool (b.round)) rfl (k_pt 0 (cs := (bC b)) (vs := [.bool (b.round)]) rfl rfl)) ?_
           refine g_val (v := .bool (b.round)) rfl rfl rfl rfl rfl (e_move) ?_
           refine l_splitb (s := 60) (b := b.round) rfl (fun hg12 => ?_) (fun hg12 => ?_)
           ·
            refine g_val (v := .pointer (some ⟨b1, 6, none⟩)) rfl rfl rfl rfl rfl (e_fieldPt (b := b1) (o := 0) rfl tf11) ?_
            refine g_val (v := Ix (b.h)) rfl rfl rfl rfl rfl (e_load1 tf2 (v := Ix (b.h)) rfl (k_pt 0 (cs := (bC b)) (vs := [Ix (b.h)]) rfl rfl)) ?_
            refine g_val (v := .pointer (some ⟨b1, 5, none⟩)) rfl rfl rfl rfl rfl (e_fieldPt (b := b1) (o := 0) rfl tf10) ?_
            refine g_val (v := Ix (b.w)) rfl rfl rfl rfl rfl (e_load1 tf2 (v := Ix (b.w)) rfl (k_pt 0 (cs := (bC b)) (vs := [Ix (b.w)]) rfl rfl)) ?_
            refine g_val (v := .bool (decide ((b.h) ≠ (b.w)))) rfl rfl rfl rfl rfl (e_neq (a := (b.h)) (b := (b.w)) rfl rfl) ?_
            refine g_val (v := .bool (decide ((b.h) ≠ (b.w)))) rfl rfl rfl rfl rfl (e_pick_t rfl) ?_
            refine l_val (v := .bool (decide ((b.h) ≠ (b.w)))) rfl rfl rfl (e_pick_f rfl) ?_
            refine l_nil ?_
            refine f_then ?_
            refine c_if ((b.h) ≠ (b.w)) rfl (fun hc13 => ?_) (fun hc13 => ?_)
            ·
             refine c_seq ?_
             refine c_region ?_
             refine l_val (v := .bool false) rfl rfl rfl (e_assign) ?_
             refine l_nil ?_
             refine f_then ?_
             refine c_ret ?_
             refine f_then_ret ?_
             refine ret1 Tryz.results114 (v := .bool false) rfl ?_
             intro w hw
             exact ⟨congrArg (fun b : Bool => Ending.returned (.bool b)) (show false = _ by rw [eq_comm, decide_eq_false_iff_not]; intro hok; obtain ⟨h1, h2, h3, h4, h5, h6, h7, h8, h9⟩ := hok; first | omega | (simp_all; done) | (simp_all; omega)), st_mask [false] rfl hw⟩
            ·
             refine c_skip ?_
             refine f_then ?_
             refine c_seq ?_
             refine c_region ?_
             refine l_val (v := .pointer (some ⟨b1, 8, none⟩)) rfl rfl rfl (e_fieldPt (b := b1) (o := 0) rfl tf14) ?_
             refine l_val (v := .bool (b.fixed)) rfl rfl rfl (e_load1 tf13 (v := .bool (b.fixed)) rfl (k_pt 0 (cs := (bC b)) (vs := [.bool (b.fixed)]) rfl rfl)) ?_
             refine l_val (v := .bool (!b.fixed)) rfl rfl rfl (e_not rfl) ?_
             refine l_val (v := .bool (!b.fixed)) rfl rfl rfl (e_move) ?_
             refine l_splitb (s := 71) (b := !b.fixed) rfl (fun hg14 => ?_) (fun hg14 => ?_)
             ·
              refine l_skip rfl rfl rfl rfl rfl rfl ?_
              refine l_skip rfl rfl rfl rfl rfl rfl ?_
              refine l_skip rfl rfl rfl rfl rfl rfl ?_
              refine l_skip rfl rfl rfl rfl rfl rfl ?_
              refine l_skip rfl rfl rfl rfl rfl rfl ?_
              refine l_skip_u rfl rfl rfl rfl rfl ?_
              refine l_skip_u rfl rfl rfl rfl rfl ?_
              refine l_skip_u rfl rfl rfl rfl rfl ?_
              refine l_skip_u rfl rfl rfl rfl rfl ?_
              refine l_skip rfl rfl rfl rfl rfl rfl ?_
              refine l_val (v := .bool true) rfl rfl rfl (e_pick_t rfl) ?_
              refine l_val (v := .bool true) rfl rfl rfl (e_assign) ?_
              refine l_nil ?_
              refine f_then ?_
              refine c_ret ?_
              refine ret1 Tryz.results114 (v := .bool true) rfl ?_
              intro w hw
              exact ⟨congrArg (fun b : Bool => Ending.returned (.bool b)) (show true = _ by have hall : okB b ↔ (b.fixed = true → b.vx = 0 ∧ b.vy = 0) := ⟨fun h => h.2.2.2.2.2.2.2.2, fun h => ⟨by omega, by omega, by omega, by omega, by omega, by omega, by omega, by (first | omega | (intro hr; first | omega | simp_all)), h⟩⟩; rw [show decide (okB b) = decide (b.fixed = true → b.vx = 0 ∧ b.vy = 0) from decide_eq_decide.2 hall]; first | simp_all | (simp_all; omega)), st_mask [false] rfl hw⟩
             ·
              refine g_val (v := .pointer (some ⟨b1, 3, none⟩)) rfl rfl rfl rfl rfl (e_fieldPt (b := b1) (o := 0) rfl tf9) ?_
              refine g_val (v := .pointer (some ⟨b1, 3, none⟩)) rfl rfl rfl rfl rfl (e_fieldPt (b := b1) (o := 3) rfl tf7) ?_
              refine g_val (v := Ix (b.vx)) rfl rfl rfl rfl rfl (e_load1 tf2 (v := Ix (b.vx)) rfl (k_pt 0 (cs := (bC b)) (vs := [Ix (b.vx)]) rfl rfl)) ?_
              refine g_val (v := .bool (decide ((b.vx) = (0 : Int)))) rfl rfl rfl rfl rfl (e_eql (a := (b.vx)) (b := (0 : Int)) rfl rfl) ?_
              refine g_val (v := .bool (decide ((b.vx) = (0 : Int)))) rfl rfl rfl rfl rfl (e_move) ?_
              refine l_split (s := 76) (p := (b.vx) = (0 : Int)) rfl (fun hg15 => ?_) (fun hg15 => ?_)
              ·
               refine g_val (v := .pointer (some ⟨b1, 3, none⟩)) rfl rfl rfl rfl rfl (e_fieldPt (b := b1) (o := 0) rfl tf9) ?_
               refine g_val (v := .pointer (some ⟨b1, 4, none⟩)) rfl rfl rfl rfl rfl (e_fieldPt (b := b1) (o := 3) rfl tf8) ?_
               refine g_val (v := Ix (b.vy)) rfl rfl rfl rfl rfl (e_load1 tf2 (v := Ix (b.vy)) rfl (k_pt 0 (cs := (bC b)) (vs := [Ix (b.vy)]) rfl rfl)) ?_
               refine g_val (v := .bool (decide ((b.vy) = (0 : Int)))) rfl rfl rfl rfl rfl (e_eql (a := (b.vy)) (b := (0 : Int)) rfl rfl) ?_
               refine g_val (v := .bool (decide ((b.vy) = (0 : Int)))) rfl rfl rfl rfl rfl (e_pick_t rfl) ?_
               refine l_val (v := .bool (decide ((b.vy) = (0 : Int)))) rfl rfl rfl (e_pick_f rfl) ?_
               refine l_val (v := .bool (decide ((b.vy) = (0 : Int)))) rfl rfl rfl (e_assign) ?_
               refine l_nil ?_
               refine f_then ?_
               refine c_ret ?_
               refine ret1 Tryz.results114 (v := .bool (decide ((b.vy) = (0 : Int)))) rfl ?_
               intro w hw
               exact ⟨congrArg (fun b : Bool => Ending.returned (.bool b)) (show decide ((b.vy) = (0 : Int)) = _ by have hall : okB b ↔ (b.fixed = true → b.vx = 0 ∧ b.vy = 0) := ⟨fun h => h.2.2.2.2.2.2.2.2, fun h => ⟨by omega, by omega, by omega, by omega, by omega, by omega, by omega, by (first | omega | (intro hr; first | omega | simp_all)), h⟩⟩; rw [show decide (okB b) = decide (b.fixed = true → b.vx = 0 ∧ b.vy = 0) from decide_eq_decide.2 hall]; first | simp_all | (simp_all; omega)), st_mask [false] rfl hw⟩
              ·
               refine l_skip rfl rfl rfl rfl rfl rfl ?_
               refine l_skip rfl rfl rfl rfl rfl rfl ?_
               refine l_skip rfl rfl rfl rfl rfl rfl ?_
               refine l_skip rfl rfl rfl rfl rfl rfl ?_
               refine g_val (v := .bool false) rfl rfl rfl rfl rfl (e_pick_f rfl) ?_
               refine l_val (v := .bool false) rfl rfl rfl (e_pick_f rfl) ?_
               refine l_val (v := .bool false) rfl rfl rfl (e_assign) ?_
               refine l_nil ?_
               refine f_then ?_
               refine c_ret ?_
               refine ret1 Tryz.results114 (v := .bool false) rfl ?_
               intro w hw
               exact ⟨congrArg (fun b : Bool => Ending.returned (.bool b)) (show false = _ by rw [eq_comm, decide_eq_false_iff_not]; intro hok; obtain ⟨h1, h2, h3, h4, h5, h6, h7, h8, h9⟩ := hok; first | omega | (simp_all; done) | (simp_all; omega)), st_mask [false] rfl hw⟩
           ·
            refine l_skip rfl rfl rfl rfl rfl rfl ?_
            refine l_skip rfl rfl rfl rfl rfl rfl ?_
            refine l_skip rfl rfl rfl rfl rfl rfl ?_
            refine l_skip rfl rfl rfl rfl rfl rfl ?_
            refine l_skip rfl rfl rfl rfl rfl rfl ?_
            refine g_val (v := .bool false) rfl rfl rfl rfl rfl (e_pick_f rfl) ?_
            refine l_val (v := .bool false) rfl rfl rfl (e_pick_f rfl) ?_
            refine l_nil ?_
            refine f_then ?_
            refine c_no rfl ?_
            refine c_skip ?_
            refine f_then ?_
            refine c_seq ?_
            refine c_region ?_
            refine l_val (v := .pointer (some ⟨b1, 8, none⟩)) rfl rfl rfl (e_fieldPt (b := b1) (o := 0) rfl tf14) ?_
            refine l_val (v := .bool (b.fixed)) rfl rfl rfl (e_load1 tf13 (v := .bool (b.fixed)) rfl (k_pt 0 (cs := (bC b)) (vs := [.bool (b.fixed)]) rfl rfl)) ?_
            refine l_val (v := .bool (!b.fixed)) rfl rfl rfl (e_not rfl) ?_
            refine l_val (v := .bool (!b.fixed)) rfl rfl rfl (e_move) ?_
            refine l_splitb (s := 71) (b := !b.fixed) rfl (fun hg16 => ?_) (fun hg16 => ?_)
            ·
             refine l_skip rfl rfl rfl rfl rfl rfl ?_
             refine l_skip rfl rfl rfl rfl rfl rfl ?_
             refine l_skip rfl rfl rfl rfl rfl rfl ?_
             refine l_skip rfl rfl rfl rfl rfl rfl ?_
             refine l_skip rfl rfl rfl rfl rfl rfl ?_
             refine l_skip_u rfl rfl rfl rfl rfl ?_
             refine l_skip_u rfl rfl rfl rfl rfl ?_
             refine l_skip_u rfl rfl rfl rfl rfl ?_
             refine l_skip_u rfl rfl rfl rfl rfl ?_
             refine l_skip rfl rfl rfl rfl rfl rfl ?_
             refine l_val (v := .bool true) rfl rfl rfl (e_pick_t rfl) ?_
             refine l_val (v := .bool true) rfl rfl rfl (e_assign) ?_
             refine l_nil ?_
             refine f_then ?_
             refine c_ret ?_
             refine ret1 Tryz.results114 (v := .bool true) rfl ?_
             intro w hw
             exact ⟨congrArg (fun b : Bool => Ending.returned (.bool b)) (show true = _ by have hall : okB b ↔ (b.fixed = true → b.vx = 0 ∧ b.vy = 0) := ⟨fun h => h.2.2.2.2.2.2.2.2, fun h => ⟨by omega, by omega, by omega, by omega, by omega, by omega, by omega, by (first | omega | (intro hr; first | omega | simp_all)), h⟩⟩; rw [show decide (okB b) = decide (b.fixed = true → b.vx = 0 ∧ b.vy = 0) from decide_eq_decide.2 hall]; first | simp_all | (simp_all; omega)), st_mask [false] rfl hw⟩
            ·
             refine g_val (v := .pointer (some ⟨b1, 3, none⟩)) rfl rfl rfl rfl rfl (e_fieldPt (b := b1) (o := 0) rfl tf9) ?_
             refine g_val (v := .pointer (some ⟨b1, 3, none⟩)) rfl rfl rfl rfl rfl (e_fieldPt (b := b1) (o := 3) rfl tf7) ?_
             refine g_val (v := Ix (b.vx)) rfl rfl rfl rfl rfl (e_load1 tf2 (v := Ix (b.vx)) rfl (k_pt 0 (cs := (bC b)) (vs := [Ix (b.vx)]) rfl rfl)) ?_
             refine g_val (v := .bool (decide ((b.vx) = (0 : Int)))) rfl rfl rfl rfl rfl (e_eql (a := (b.vx)) (b := (0 : Int)) rfl rfl) ?_
             refine g_val (v := .bool (decide ((b.vx) = (0 : Int)))) rfl rfl rfl rfl rfl (e_move) ?_
             refine l_split (s := 76) (p := (b.vx) = (0 : Int)) rfl (fun hg17 => ?_) (fun hg17 => ?_)
             ·
              refine g_val (v := .pointer (some ⟨b1, 3, none⟩)) rfl rfl rfl rfl rfl (e_fieldPt (b := b1) (o := 0) rfl tf9) ?_
              refine g_val (v := .pointer (some ⟨b1, 4, none⟩)) rfl rfl rfl rfl rfl (e_fieldPt (b := b1) (o := 3) rfl tf8) ?_
              refine g_val (v := Ix (b.vy)) rfl rfl rfl rfl rfl (e_load1 tf2 (v := Ix (b.vy)) rfl (k_pt 0 (cs := (bC b)) (vs := [Ix (b.vy)]) rfl rfl)) ?_
              refine g_val (v := .bool (decide ((b.vy) = (0 : Int)))) rfl rfl rfl rfl rfl (e_eql (a := (b.vy)) (b := (0 : Int)) rfl rfl) ?_
              refine g_val (v := .bool (decide ((b.vy) = (0 : Int)))) rfl rfl rfl rfl rfl (e_pick_t rfl) ?_
              refine l_val (v := .bool (decide ((b.vy) = (0 : Int)))) rfl rfl rfl (e_pick_f rfl) ?_
              refine l_val (v := .bool (decide ((b.vy) = (0 : Int)))) rfl rfl rfl (e_assign) ?_
              refine l_nil ?_
              refine f_then ?_
              refine c_ret ?_
              refine ret1 Tryz.results114 (v := .bool (decide ((b.vy) = (0 : Int)))) rfl ?_
              intro w hw
              exact ⟨congrArg (fun b : Bool => Ending.returned (.bool b)) (show decide ((b.vy) = (0 : Int)) = _ by have hall : okB b ↔ (b.fixed = true → b.vx = 0 ∧ b.vy = 0) := ⟨fun h => h.2.2.2.2.2.2.2.2, fun h => ⟨by omega, by omega, by omega, by omega, by omega, by omega, by omega, by (first | omega | (intro hr; first | omega | simp_all)), h⟩⟩; rw [show decide (okB b) = decide (b.fixed = true → b.vx = 0 ∧ b.vy = 0) from decide_eq_decide.2 hall]; first | simp_all | (simp_all; omega)), st_mask [false] rfl hw⟩
             ·
              refine l_skip rfl rfl rfl rfl rfl rfl ?_
              refine l_skip rfl rfl rfl rfl rfl rfl ?_
              refine l_skip rfl rfl rfl rfl rfl rfl ?_
              refine l_skip rfl rfl rfl rfl rfl rfl ?_
              refine g_val (v := .bool false) rfl rfl rfl rfl rfl (e_pick_f rfl) ?_
              refine l_val (v := .bool false) rfl rfl rfl (e_pick_f rfl) ?_
              refine l_val (v := .bool false) rfl rfl rfl (e_assign) ?_
              refine l_nil ?_
              refine f_then ?_
              refine c_ret ?_
              refine ret1 Tryz.results114 (v := .bool false) rfl ?_
              intro w hw
              exact ⟨congrArg (fun b : Bool => Ending.returned (.bool b)) (show false = _ by rw [eq_comm, decide_eq_false_iff_not]; intro hok; obtain ⟨h1, h2, h3, h4, h5, h6, h7, h8, h9⟩ := hok; first | omega | (simp_all; done) | (simp_all; omega)), st_mask [false] rfl hw⟩
set_option maxHeartbeats 4000000 in
theorem bounds5_ok (β : Base) (w : World) (hw : St β [] w) (b : KB) (hb : okB b) : Calls Tryz.prog 245 #[.agg (bC b)] w fun r w' => r = .returned (.tuple #[.agg #[Ix (b.x - b.w), Ix (b.y - b.h)], .agg #[Ix (b.x + b.w), Ix (b.y + b.h)]]) ∧ St β [] w' := by
 have gb2 := hb.2.1
 have gb3 := hb.2.2.1
 have gb6 := hb.2.2.2.2.2.1
 have gb7 := hb.2.2.2.2.2.2.1
 refine enter (n := 35) Tryz.func245 rfl Tryz.ntmps245 rfl ?_ hw
 refine c_seq ?_
 refine c_region ?_
 refine l_mv rfl rfl rfl (m_box (v := .agg (bC b)) rfl) ?_
 rintro _ _ ⟨b1, rfl, rfl⟩
 refine l_mv rfl rfl rfl (m_alloc tf17) ?_
 rintro _ _ ⟨b2, rfl, rfl⟩
 refine l_mv rfl rfl rfl (m_alloc tf17) ?_
 rintro _ _ ⟨b3, rfl, rfl⟩
 refine l_nil ?_
 refine f_then ?_
 refine c_seq ?_
 refine c_seq ?_
 refine c_region ?_
 refine l_val (v := .agg (bC b)) rfl rfl rfl (e_load tf22 (cs := (bodyE b)) rfl (k_pt 2 (cs := (bC b)) (vs := (bodyE b)) rfl rfl) rfl) ?_
 refine l_call rfl rfl rfl (cl_value (fst := []) (cap := []) (vs := [.agg (bC b)]) (all := [.agg (bC b)]) tf115 rfl rfl rfl) ?_
 intro w hw
 obtain ⟨β1, sb, kn, hw1, back⟩ := St.frame_all hw
 refine (valid5_ok β1 w hw1 b).mono ?_
 rintro e w' ⟨rfl, hw'⟩
 refine ⟨_, rfl, _, back _ _ hw', ?_⟩
 clear hw hw1 hw' back kn sb
 refine l_val (v := .bool (decide (¬ (okB b)))) rfl rfl rfl (e_not_p (p := okB b) rfl) ?_
 refine l_nil ?_
 refine f_then ?_
 refine c_if (¬ (okB b)) rfl (fun hc4 => ?_) (fun hc4 => ?_)
 ·
  exact absurd hc4 (fun h => h hb)
 ·
  refine c_skip ?_
  refine f_then ?_
  refine c_seq ?_
  refine c_any [⟨[], [], [0], [9], fun f => f 9 = .pointer (some ⟨b1, 1, none⟩)⟩, ⟨[0], [0], [], [10], fun f => f 10 = .pointer (some ⟨b1, 1, none⟩)⟩, ⟨[0, 1], [1], [], [11], fun f => f 11 = Ix (b.x)⟩, ⟨[], [], [0], [12], fun f => f 12 = .pointer (some ⟨b1, 5, none⟩)⟩, ⟨[3], [3], [], [13], fun f => f 13 = Ix (b.w)⟩, ⟨[0, 1, 2, 3, 4], [2, 4], [], [14], fun f => f 14 = Ix ((b.x) - (b.w))⟩, ⟨[], [], [0], [15], fun f => f 15 = .pointer (some ⟨b1, 1, none⟩)⟩, ⟨[6], [6], [], [16], fun f => f 16 = .pointer (some ⟨b1, 2, none⟩)⟩, ⟨[6, 7], [7], [], [17], fun f => f 17 = Ix (b.y)⟩, ⟨[], [], [0], [18], fun f => f 18 = .pointer (some ⟨b1, 6, none⟩)⟩, ⟨[9], [9], [], [19], fun f => f 19 = Ix (b.h)⟩, ⟨[6, 7, 8, 9, 10], [8, 10], [], [20], fun f => f 20 = Ix ((b.y) - (b.h))⟩, ⟨[0, 1, 2, 3, 4, 5, 6, 7, 8, 9, 10, 11], [5, 11], [], [21], fun f => f 21 = .agg #[Ix ((b.x) - (b.w)), Ix ((b.y) - (b.h))]⟩, ⟨[], [], [0], [22], fun f => f 22 = .pointer (some ⟨b1, 1, none⟩)⟩, ⟨[13], [13], [], [23], fun f => f 23 = .pointer (some ⟨b1, 1, none⟩)⟩, ⟨[13, 14], [14], [], [24], fun f => f 24 = Ix (b.x)⟩, ⟨[], [], [0], [25], fun f => f 25 = .pointer (some ⟨b1, 5, none⟩)⟩, ⟨[16], [16], [], [26], fun f => f 26 = Ix (b.w)⟩, ⟨[13, 14, 15, 16, 17], [15, 17], [], [27], fun f => f 27 = Ix ((b.x) + (b.w))⟩, ⟨[], [], [0], [28], fun f => f 28 = .pointer (some ⟨b1, 1, none⟩)⟩, ⟨[19], [19], [], [29], fun f => f 29 = .pointer (some ⟨b1, 2, none⟩)⟩, ⟨[19, 20], [20], [], [30], fun f => f 30 = Ix (b.y)⟩, ⟨[], [], [0], [31], fun f => f 31 = .pointer (some ⟨b1, 6, none⟩)⟩, ⟨[22], [22], [], [32], fun f => f 32 = Ix (b.h)⟩, ⟨[19, 20, 21, 22, 23], [21, 23], [], [33], fun f => f 33 = Ix ((b.y) + (b.h))⟩, ⟨[13, 14, 15, 16, 17, 18, 19, 20, 21, 22, 23, 24], [18, 24], [], [34], fun f => f 34 = .agg #[Ix ((b.x) + (b.w)), Ix ((b.y) + (b.h))]⟩, ⟨[0, 1, 2, 3, 4, 5, 6, 7, 8, 9, 10, 11, 12], [12], [1], [], fun _ => True⟩, ⟨[0, 1, 2, 3, 4, 5, 6, 7, 8, 9, 10, 11, 12, 13, 14, 15, 16, 17, 18, 19, 20, 21, 22, 23, 24, 25, 26], [25], [2], [], fun _ => True⟩] [⟨none, (some 27), [27], [], fun _ => pt b3 (.cells #[.int .i64 (0), .int .i64 (0)] 28)⟩, ⟨none, (some 26), [26], [], fun _ => pt b2 (.cells #[.int .i64 (0), .int .i64 (0)] 28)⟩, ⟨none, none, [2, 4, 8, 10, 15, 17, 21, 23], [], fun _ => pt b1 (.cells (bC b) 52)⟩, ⟨(some 26), none, [], [], fun _ => pt b2 (.cells #[Ix ((b.x) - (b.w)), Ix ((b.y) - (b.h))] 28)⟩, ⟨(some 27), none, [], [], fun _ => pt b3 (.cells #[Ix ((b.x) + (b.w)), Ix ((b.y) + (b.h))] 28)⟩] [(1, .pointer (some ⟨b1, 0, none⟩)), (2, .pointer (some ⟨b2, 0, none⟩)), (3, .pointer (some ⟨b3, 0, none⟩))] [1, 2] [] (by kernel_rfl) (by kernel_rfl) (by kernel_rfl) (by kernel_rfl) rfl ⟨rfl, rfl, rfl, trivial⟩ ⟨?_, ?_, ?_, ?_, ?_, ?_, ?_, ?_, ?_, ?_, ?_, ?_, ?_, ?_, ?_, ?_, ?_, ?_, ?_, ?_, ?_, ?_, ?_, ?_, ?_, ?_, ?_, ?_, trivial⟩ ?_
  ·rintro f M - ⟨i0, -⟩
   have hs1 : f 1 = .pointer (some ⟨b1, 0, none⟩) := i0
   refine ob_start (L' := M) (by rfl) (up_cons rfl hs1) ?_
   refine l_val (v := .pointer (some ⟨b1, 1, none⟩)) rfl rfl rfl (e_fieldPt (b := b1) (o := 0) rfl tf6) ?_
   refine l_nil ?_
   exact f_owes_d (up_cons rfl hs1) rfl (List.Perm.refl _)
  ·rintro f M ⟨k0, -⟩ -
   have hs9 : f 9 = .pointer (some ⟨b1, 1, none⟩) := k0
   refine ob_start (L' := M) (by rfl) (up_cons rfl hs9) ?_
   refine l_val (v := .pointer (some ⟨b1, 1, none⟩)) rfl rfl rfl (e_fieldPt (b := b1) (o := 1) rfl tf7) ?_
   refine l_nil ?_
   exact f_owes_d (up_cons rfl hs9) rfl (List.Perm.refl _)
  ·rintro f M ⟨k0, -⟩ -
   have hs10 : f 10 = .pointer (some ⟨b1, 1, none⟩) := k0
   refine ob_start (L' := pt b1 (.cells (bC b) 52) :: M) (by rfl) (up_cons rfl hs10) ?_
   refine l_val (v := Ix (b.x)) rfl rfl rfl (e_load1 tf2 (v := Ix (b.x)) rfl (k_pt 0 (cs := (bC b)) (vs := [Ix (b.x)]) rfl rfl)) ?_
   refine l_nil ?_
   exact f_owes_d (up_cons rfl hs10) rfl (perm_front 0 rfl)
  ·rintro f M - ⟨i0, -⟩
   have hs1 : f 1 = .pointer (some ⟨b1, 0, none⟩) := i0
   refine ob_start (L' := M) (by rfl) (up_cons rfl hs1) ?_
   refine l_val (v := .pointer (some ⟨b1, 5, none⟩)) rfl rfl rfl (e_fieldPt (b := b1) (o := 0) rfl tf10) ?_
   refine l_nil ?_
   exact f_owes_d (up_cons rfl hs1) rfl (List.Perm.refl _)
  ·rintro f M ⟨k0, -⟩ -
   have hs12 : f 12 = .pointer (some ⟨b1, 5, none⟩) := k0
   refine ob_start (L' := pt b1 (.cells (bC b) 52) :: M) (by rfl) (up_cons rfl hs12) ?_
   refine l_val (v := Ix (b.w)) rfl rfl rfl (e_load1 tf2 (v := Ix (b.w)) rfl (k_pt 0 (cs := (bC b)) (vs := [Ix (b.w)]) rfl rfl)) ?_
   refine l_nil ?_
   exact f_owes_d (up_cons rfl hs12) rfl (perm_front 0 rfl)
  ·rintro f M ⟨k0, k1, -⟩ -
   have hs11 : f 11 = Ix (b.x) := k0
   have hs13 : f 13 = Ix (b.w) := k1
   refine ob_start (L' := M) (by rfl) (up_cons (up_cons rfl hs11) hs13) ?_
   refine l_val (v := Ix ((b.x) - (b.w))) rfl rfl rfl (e_sub (a := (b.x)) (b := (b.w)) rfl rfl (i64w (by omega))) ?_
   refine l_nil ?_
   exact f_owes_d (up_cons (up_cons rfl hs11) hs13) rfl (List.Perm.refl _)
  ·rintro f M - ⟨i0, -⟩
   have hs1 : f 1 = .pointer (some ⟨b1, 0, none⟩) := i0
   refine ob_start (L' := M) (by rfl) (up_cons rfl hs1) ?_
   refine l_val (v := .pointer (some ⟨b1, 1, none⟩)) rfl rfl rfl (e_fieldPt (b := b1) (o := 0) rfl tf6) ?_
   refine l_nil ?_
   exact f_owes_d (up_cons rfl hs1) rfl (List.Perm.refl _)
  ·rintro f M ⟨k0, -⟩ -
   have hs15 : f 15 = .pointer (some ⟨b1, 1, none⟩) := k0
   refine ob_start (L' := M) (by rfl) (up_cons rfl hs15) ?_
   refine l_val (v := .pointer (some ⟨b1, 2, none⟩)) rfl rfl rfl (e_fieldPt (b := b1) (o := 1) rfl tf8) ?_
   refine l_nil ?_
   exact f_owes_d (up_cons rfl hs15) rfl (List.Perm.refl _)
  ·rintro f M ⟨k0, -⟩ -
   have hs16 : f 16 = .pointer (some ⟨b1, 2, none⟩) := k0
   refine ob_start (L' := pt b1 (.cells (bC b) 52) :: M) (by rfl) (up_cons rfl hs16) ?_
   refine l_val (v := Ix (b.y)) rfl rfl rfl (e_load1 tf2 (v := Ix (b.y)) rfl (k_pt 0 (cs := (bC b)) (vs := [Ix (b.y)]) rfl rfl)) ?_
   refine l_nil ?_
   exact f_owes_d (up_cons rfl hs16) rfl (perm_front 0 rfl)
  ·rintro f M - ⟨i0, -⟩
   have hs1 : f 1 = .pointer (some ⟨b1, 0, none⟩) := i0
   refine ob_start (L' := M) (by rfl) (up_cons rfl hs1) ?_
   refine l_val (v := .pointer (some ⟨b1, 6, none⟩)) rfl rfl rfl (e_fieldPt (b := b1) (o := 0) rfl tf11) ?_
   refine l_nil ?_
   exact f_owes_d (up_cons rfl hs1) rfl (List.Perm.refl _)
  ·rintro f M ⟨k0, -⟩ -
   have hs18 : f 18 = .pointer (some ⟨b1, 6, none⟩) := k0
   refine ob_start (L' := pt b1 (.cells (bC b) 52) :: M) (by rfl) (up_cons rfl hs18) ?_
   refine l_val (v := Ix (b.h)) rfl rfl rfl (e_load1 tf2 (v := Ix (b.h)) rfl (k_pt 0 (cs := (bC b)) (vs := [Ix (b.h)]) rfl rfl)) ?_
   refine l_nil ?_
   exact f_owes_d (up_cons rfl hs18) rfl (perm_front 0 rfl)
  ·rintro f M ⟨k0, k1, -⟩ -
   have hs17 : f 17 = Ix (b.y) := k0
   have hs19 : f 19 = Ix (b.h) := k1
   refine ob_start (L' := M) (by rfl) (up_cons (up_cons rfl hs17) hs19) ?_
   refine l_val (v := Ix ((b.y) - (b.h))) rfl rfl rfl (e_sub (a := (b.y)) (b := (b.h)) rfl rfl (i64w (by omega))) ?_
   refine l_nil ?_
   exact f_owes_d (up_cons (up_cons rfl hs17) hs19) rfl (List.Perm.refl _)
  ·rintro f M ⟨k0, k1, -⟩ -
   have hs14 : f 14 = Ix ((b.x) - (b.w)) := k0
   have hs20 : f 20 = Ix ((b.y) - (b.h)) := k1
   refine ob_start (L' := M) (by rfl) (up_cons (up_cons rfl hs14) hs20) ?_
   refine l_val (v := .agg #[Ix ((b.x) - (b.w)), Ix ((b.y) - (b.h))]) rfl rfl rfl (e_build tf17 tf16 (vs := [(0, Ix ((b.x) - (b.w))), (1, Ix ((b.y) - (b.h)))]) (cells := #[Ix ((b.x) - (b.w)), Ix ((b.y) - (b.h))]) rfl rfl) ?_
   refine l_nil ?_
   exact f_owes_d (up_cons (up_cons rfl hs14) hs20) rfl (List.Perm.refl _)
  ·rintro f M - ⟨i0, -⟩
   have hs1 : f 1 = .pointer (some ⟨b1, 0, none⟩) := i0
   refine ob_start (L' := M) (by rfl) (up_cons rfl hs1) ?_
   refine l_val (v := .pointer (some ⟨b1, 1, none⟩)) rfl rfl rfl (e_fieldPt (b := b1) (o := 0) rfl tf6) ?_
   refine l_nil ?_
   exact f_owes_d (up_cons rfl hs1) rfl (List.Perm.refl _)
  ·rintro f M ⟨k0, -⟩ -
   have hs22 : f 22 = .pointer (some ⟨b1, 1, none⟩) := k0
   refine ob_start (L' := M) (by rfl) (up_cons rfl hs22) ?_
   refine l_val (v := .pointer (some ⟨b1, 1, none⟩)) rfl rfl rfl (e_fieldPt (b := b1) (o := 1) rfl tf7) ?_
   refine l_nil ?_
   exact f_owes_d (up_cons rfl hs22) rfl (List.Perm.refl _)
  ·rintro f M ⟨k0, -⟩ -
   have hs23 : f 23 = .pointer (some ⟨b1, 1, none⟩) := k0
   refine ob_start (L' := pt b1 (.cells (bC b) 52) :: M) (by rfl) (up_cons rfl hs23) ?_
   refine l_val (v := Ix (b.x)) rfl rfl rfl (e_load1 tf2 (v := Ix (b.x)) rfl (k_pt 0 (cs := (bC b)) (vs := [Ix (b.x)]) rfl rfl)) ?_
   refine l_nil ?_
   exact f_owes_d (up_cons rfl hs23) rfl (perm_front 0 rfl)
  ·rintro f M - ⟨i0, -⟩
   have hs1 : f 1 = .pointer (some ⟨b1, 0, none⟩) := i0
   refine ob_start (L' := M) (by rfl) (up_cons rfl hs1) ?_
   refine l_val (v := .pointer (some ⟨b1, 5, none⟩)) rfl rfl rfl (e_fieldPt (b := b1) (o := 0) rfl tf10) ?_
   refine l_nil ?_
   exact f_owes_d (up_cons rfl hs1) rfl (List.Perm.refl _)
  ·rintro f M ⟨k0, -⟩ -
   have hs25 : f 25 = .pointer (some ⟨b1, 5, none⟩) := k0
   refine ob_start (L' := pt b1 (.cells (bC b) 52) :: M) (by rfl) (up_cons rfl hs25) ?_
   refine l_val (v := Ix (b.w)) rfl rfl rfl (e_load1 tf2 (v := Ix (b.w)) rfl (k_pt 0 (cs := (bC b)) (vs := [Ix (b.w)]) rfl rfl)) ?_
   refine l_nil ?_
   exact f_owes_d (up_cons rfl hs25) rfl (perm_front 0 rfl)
  ·rintro f M ⟨k0, k1, -⟩ -
   have hs24 : f 24 = Ix (b.x) := k0
   have hs26 : f 26 = Ix (b.w) := k1
   refine ob_start (L' := M) (by rfl) (up_cons (up_cons rfl hs24) hs26) ?_
   refine l_val (v := Ix ((b.x) + (b.w))) rfl rfl rfl (e_add (a := (b.x)) (b := (b.w)) rfl rfl (i64w (by omega))) ?_
   refine l_nil ?_
   exact f_owes_d (up_cons (up_cons rfl hs24) hs26) rfl (List.Perm.refl _)
  ·rintro f M - ⟨i0, -⟩
   have hs1 : f 1 = .pointer (some ⟨b1, 0, none⟩) := i0
   refine ob_start (L' := M) (by rfl) (up_cons rfl hs1) ?_
   refine l_val (v := .pointer (some ⟨b1, 1, none⟩)) rfl rfl rfl (e_fieldPt (b := b1) (o := 0) rfl tf6) ?_
   refine l_nil ?_
   exact f_owes_d (up_cons rfl hs1) rfl (List.Perm.refl _)
  ·rintro f M ⟨k0, -⟩ -
   have hs28 : f 28 = .pointer (some ⟨b1, 1, none⟩) := k0
   refine ob_start (L' := M) (by rfl) (up_cons rfl hs28) ?_
   refine l_val (v := .pointer (some ⟨b1, 2, none⟩)) rfl rfl rfl (e_fieldPt (b := b1) (o := 1) rfl tf8) ?_
   refine l_nil ?_
   exact f_owes_d (up_cons rfl hs28) rfl (List.Perm.refl _)
  ·rintro f M ⟨k0, -⟩ -
   have hs29 : f 29 = .pointer (some ⟨b1, 2, none⟩) := k0
   refine ob_start (L' := pt b1 (.cells (bC b) 52) :: M) (by rfl) (up_cons rfl hs29) ?_
   refine l_val (v := Ix (b.y)) rfl rfl rfl (e_load1 tf2 (v := Ix (b.y)) rfl (k_pt 0 (cs := (bC b)) (vs := [Ix (b.y)]) rfl rfl)) ?_
   refine l_nil ?_
   exact f_owes_d (up_cons rfl hs29) rfl (perm_front 0 rfl)
  ·rintro f M - ⟨i0, -⟩
   have hs1 : f 1 = .pointer (some ⟨b1, 0, none⟩) := i0
   refine ob_start (L' := M) (by rfl) (up_cons rfl hs1) ?_
   refine l_val (v := .pointer (some ⟨b1, 6, none⟩)) rfl rfl rfl (e_fieldPt (b := b1) (o := 0) rfl tf11) ?_
   refine l_nil ?_
   exact f_owes_d (up_cons rfl hs1) rfl (List.Perm.refl _)
  ·rintro f M ⟨k0, -⟩ -
   have hs31 : f 31 = .pointer (some ⟨b1, 6, none⟩) := k0
   refine ob_start (L' := pt b1 (.cells (bC b) 52) :: M) (by rfl) (up_cons rfl hs31) ?_
   refine l_val (v := Ix (b.h)) rfl rfl rfl (e_load1 tf2 (v := Ix (b.h)) rfl (k_pt 0 (cs := (bC b)) (vs := [Ix (b.h)]) rfl rfl)) ?_
   refine l_nil ?_
   exact f_owes_d (up_cons rfl hs31) rfl (perm_front 0 rfl)
  ·rintro f M ⟨k0, k1, -⟩ -
   have hs30 : f 30 = Ix (b.y) := k0
   have hs32 : f 32 = Ix (b.h) := k1
   refine ob_start (L' := M) (by rfl) (up_cons (up_cons rfl hs30) hs32) ?_
   refine l_val (v := Ix ((b.y) + (b.h))) rfl rfl rfl (e_add (a := (b.y)) (b := (b.h)) rfl rfl (i64w (by omega))) ?_
   refine l_nil ?_
   exact f_owes_d (up_cons (up_cons rfl hs30) hs32) rfl (List.Perm.refl _)
  ·rintro f M ⟨k0, k1, -⟩ -
   have hs27 : f 27 = Ix ((b.x) + (b.w)) := k0
   have hs33 : f 33 = Ix ((b.y) + (b.h)) := k1
   refine ob_start (L' := M) (by rfl) (up_cons (up_cons rfl hs27) hs33) ?_
   refine l_val (v := .agg #[Ix ((b.x) + (b.w)), Ix ((b.y) + (b.h))]) rfl rfl rfl (e_build tf17 tf16 (vs := [(0, Ix ((b.x) + (b.w))), (1, Ix ((b.y) + (b.h)))]) (cells := #[Ix ((b.x) + (b.w)), Ix ((b.y) + (b.h))]) rfl rfl) ?_
   refine l_nil ?_
   exact f_owes_d (up_cons (up_cons rfl hs27) hs33) rfl (List.Perm.refl _)
  ·rintro f M ⟨k0, -⟩ ⟨i0, -⟩
   have hs2 : f 2 = .pointer (some ⟨b2, 0, none⟩) := i0
   have hs21 : f 21 = .agg #[Ix ((b.x) - (b.w)), Ix ((b.y) - (b.h))] := k0
   refine ob_start (L' := pt b2 (.cells #[.int .i64 (0), .int .i64 (0)] 28) :: M) (by rfl) (up_cons (up_cons rfl hs2) hs21) ?_
   refine l_mu rfl rfl (m_store 0 tf15 (b := b2) (o := 0) (T := 28) (cs := #[.int .i64 (0), .int .i64 (0)]) (cs' := #[Ix ((b.x) - (b.w)), Ix ((b.y) - (b.h))]) (v := .agg #[Ix ((b.x) - (b.w)), Ix ((b.y) - (b.h))]) rfl rfl rfl rfl rfl rfl rfl) ?_
   refine l_nil ?_
   exact f_owes_n (up_cons (up_cons rfl hs2) hs21) trivial (perm_front 0 rfl)
  ·rintro f M ⟨k0, -⟩ ⟨i0, -⟩
   have hs3 : f 3 = .pointer (some ⟨b3, 0, none⟩) := i0
   have hs34 : f 34 = .agg #[Ix ((b.x) + (b.w)), Ix ((b.y) + (b.h))] := k0
   refine ob_start (L' := pt b3 (.cells #[.int .i64 (0), .int .i64 (0)] 28) :: M) (by rfl) (up_cons (up_cons rfl hs3) hs34) ?_
   refine l_mu rfl rfl (m_store 0 tf15 (b := b3) (o := 0) (T := 28) (cs := #[.int .i64 (0), .int .i64 (0)]) (cs' := #[Ix ((b.x) + (b.w)), Ix ((b.y) + (b.h))]) (v := .agg #[Ix ((b.x) + (b.w)), Ix ((b.y) + (b.h))]) rfl rfl rfl rfl rfl rfl rfl) ?_
   refine l_nil ?_
   exact f_owes_n (up_cons (up_cons rfl hs3) hs34) trivial (perm_front 0 rfl)
  rintro fa5 ⟨-, -, -, -, -, -, -, -, -, -, -, -, -, -, -, -, -, -, -, -, -, -, -, -, -, -, -, -, -⟩ ⟨j0, j1, -⟩
  refine f_re (L' := [pt b1 (.cells (bC b) 52), pt b2 (.cells #[Ix ((b.x) - (b.w)), Ix ((b.y) - (b.h))] 28), pt b3 (.cells #[Ix ((b.x) + (b.w)), Ix ((b.y) + (b.h))] 28)]) (by rfl) ?_
  refine f_rebase (d := 2) (v := .pointer (some ⟨b2, 0, none⟩)) j0 ?_
  refine f_rebase (d := 3) (v := .pointer (some ⟨b3, 0, none⟩)) j1 ?_
  refine f_then ?_
  refine c_ret ?_
  refine retG (l := [.cell 2 28, .cell 3 28]) (m := [.agg #[Ix ((b.x) - (b.w)), Ix ((b.y) - (b.h))], .agg #[Ix ((b.x) + (b.w)), Ix ((b.y) + (b.h))]]) (v := .tuple #[.agg #[Ix ((b.x) - (b.w)), Ix ((b.y) - (b.h))], .agg #[Ix ((b.x) + (b.w)), Ix ((b.y) + (b.h))]]) Tryz.results245 ⟨rd_cell tf15 (cs := [Ix ((b.x) - (b.w)), Ix ((b.y) - (b.h))]) rfl (k_pt 1 (cs := #[Ix ((b.x) - (b.w)), Ix ((b.y) - (b.h))]) (vs := [Ix ((b.x) - (b.w)), Ix ((b.y) - (b.h))]) rfl rfl) rfl, rd_cell tf15 (cs := [Ix ((b.x) + (b.w)), Ix ((b.y) + (b.h))]) rfl (k_pt 2 (cs := #[Ix ((b.x) + (b.w)), Ix ((b.y) + (b.h))]) (vs := [Ix ((b.x) + (b.w)), Ix ((b.y) + (b.h))]) rfl rfl) rfl, trivial⟩ rfl ?_
  intro w hw
  exact ⟨rfl, st_mask [false, false, false] rfl hw⟩
theorem far5_ok (β : Base) (w : World) (hw : St β [] w) (x l h : Int) (hx : -4194304 ≤ x ∧ x ≤ 4194304) (hl : -4194304 ≤ l ∧ l ≤ 4194304) (hh : -4194304 ≤ h ∧ h ≤ 4194304) : Calls Tryz.prog 246 #[Ix x, Ix l, Ix h] w fun r w' => r = .returned (Ix (fark x l h)) ∧ St β [] w' := by
 refine enter (n := 19) Tryz.func246 rfl Tryz.ntmps246 rfl ?_ hw
 refine c_seq ?_
 refine c_region ?_
 refine l_val (v := .int .i64 (0)) rfl rfl rfl (e_assign) ?_
 refine l_nil ?_
 refine f_then ?_
 refine c_seq ?_
 refine c_seq ?_
 refine c_region ?_
 refine l_val (v := Ix (x)) rfl rfl rfl (e_move) ?_
 refine l_val (v := Ix (l)) rfl rfl rfl (e_move) ?_
 refine l_val (v := .bool (decide ((x) < (l)))) rfl rfl rfl (e_lss (a := (x)) (b := (l)) rfl rfl) ?_
 refine l_nil ?_
 refine f_then ?_
 refine c_if ((x) < (l)) rfl (fun hc1 => ?_) (fun hc1 => ?_)
 ·
  refine c_seq ?_
  refine c_region ?_
  refine l_val (v := Ix (l)) rfl rfl rfl (e_move) ?_
  refine l_val (v := Ix (x)) rfl rfl rfl (e_move) ?_
  refine l_val (v := Ix ((l) - (x))) rfl rfl rfl (e_sub (a := (l)) (b := (x)) rfl rfl (i64w (by omega))) ?_
  refine l_val (v := Ix ((l) - (x))) rfl rfl rfl (e_assign) ?_
  refine l_nil ?_
  refine f_then ?_
  refine c_ret ?_
  refine f_then_ret ?_
  refine ret1 Tryz.results246 (v := Ix ((l) - (x))) rfl ?_
  intro w hw
  exact ⟨congrArg Ending.returned (congrArg (Value.int .i64) (show ((l) - (x)) = fark x l h by unfold fark; split <;> (try split) <;> omega)), st_mask [] rfl hw⟩
 ·
  refine c_skip ?_
  refine f_then ?_
  refine c_seq ?_
  refine c_seq ?_
  refine c_region ?_
  refine l_val (v := Ix (x)) rfl rfl rfl (e_move) ?_
  refine l_val (v := Ix (h)) rfl rfl rfl (e_move) ?_
  refine l_val (v := .bool (decide ((h) < (x)))) rfl rfl rfl (e_gtr (a := (x)) (b := (h)) rfl rfl) ?_
  refine l_nil ?_
  refine f_then ?_
  refine c_if ((h) < (x)) rfl (fun hc2 => ?_) (fun hc2 => ?_)
  ·
   refine c_seq ?_
   refine c_region ?_
   refine l_val (v := Ix (x)) rfl rfl rfl (e_move) ?_
   refine l_val (v := Ix (h)) rfl rfl rfl (e_move) ?_
   refine l_val (v := Ix ((x) - (h))) rfl rfl rfl (e_sub (a := (x)) (b := (h)) rfl rfl (i64w (by omega))) ?_
   refine l_val (v := Ix ((x) - (h))) rfl rfl rfl (e_assign) ?_
   refine l_nil ?_
   refine f_then ?_
   refine c_ret ?_
   refine f_then_ret ?_
   refine ret1 Tryz.results246 (v := Ix ((x) - (h))) rfl ?_
   intro w hw
   exact ⟨congrArg Ending.returned (congrArg (Value.int .i64) (show ((x) - (h)) = fark x l h by unfold fark; split <;> (try split) <;> omega)), st_mask [] rfl hw⟩
  ·
   refine c_skip ?_
   refine f_then ?_
   refine c_seq ?_
   refine c_region ?_
   refine l_val (v := .int .i64 (0)) rfl rfl rfl (e_assign) ?_
   refine l_nil ?_
   refine f_then ?_
   refine c_ret ?_
   refine ret1 Tryz.results246 (v := .int .i64 (0)) rfl ?_
   intro w hw
   exact ⟨congrArg Ending.returned (congrArg (Value.int .i64) (show (0 : Int) = fark x l h by unfold fark; split <;> (try split) <;> omega)), st_mask [] rfl hw⟩
set_option maxHeartbeats 4000000 in
theorem square0_ok (β : Base) (w : World) (hw : St β [] w) (a b : KB) (ha : okB a) (hb : okB b) (hr : a.round = false) : Calls Tryz.prog 237 #[.agg (bC a), .agg (bC b)] w fun r w' => r = .returned (Ix (far5 a b)) ∧ St β [] w' := by
 have ga2 := ha.2.1
 have ga3 := ha.2.2.1
 have ga6 := ha.2.2.2.2.2.1
 have ga7 := ha.2.2.2.2.2.2.1
 have gb2 := hb.2.1
 have gb3 := hb.2.2.1
 have gb6 := hb.2.2.2.2.2.1
 have gb7 := hb.2.2.2.2.2.2.1
 have hga := ha
 have hgb := hb
 have q1 := sq_bd (x := a.x - b.x) (B := 4194304) (by omega) (by omega)
 have q2 := sq_bd (x := a.y - b.y) (B := 4194304) (by omega) (by omega)
 have q3 := sq_bd (x := a.w + b.w) (B := 32768) (by omega) (by omega)
 have q4 := sq_bd (x := b.w) (B := 16384) (by omega) (by omega)
 have q5 := fark_bd b.x (a.x - a.w) (a.x + a.w) (by omega) (by omega)
 have q6 := fark_bd b.y (a.y - a.h) (a.y + a.h) (by omega) (by omega)
 refine enter (n := 125) Tryz.func237 rfl Tryz.ntmps237 rfl ?_ hw
 refine c_seq ?_
 refine c_region ?_
 refine l_mv rfl rfl rfl (m_box (v := .agg (bC a)) rfl) ?_
 rintro _ _ ⟨b1, rfl, rfl⟩
 refine l_mv rfl rfl rfl (m_box (v := .agg (bC b)) rfl) ?_
 rintro _ _ ⟨b2, rfl, rfl⟩
 refine l_val (v := .int .i64 (0)) rfl rfl rfl (e_assign) ?_
 refine l_nil ?_
 refine f_then ?_
 refine c_seq ?_
 refine c_seq ?_
 refine c_region ?_
 refine l_val (v := .pointer (some ⟨b1, 7, none⟩)) rfl rfl rfl (e_fieldPt (b := b1) (o := 0) rfl tf12) ?_
 refine l_val (v := .bool (a.round)) rfl rfl rfl (e_load1 tf13 (v := .bool (a.round)) rfl (k_pt 1 (cs := (bC a)) (vs := [.bool (a.round)]) rfl rfl)) ?_
 refine l_val (v := .bool (a.round)) rfl rfl rfl (e_move) ?_
 refine l_splitb (s := 17) (b := a.round) rfl (fun h => ?_) (fun h => ?_)
 (rw [hr] at h; cases h)
 refine l_skip rfl rfl rfl rfl rfl rfl ?_
 refine l_skip rfl rfl rfl rfl rfl rfl ?_
 refine l_val (v := .bool false) rfl rfl rfl (e_pick_f rfl) ?_
 refine l_nil ?_
 refine f_then ?_
 refine c_no rfl ?_
 refine c_skip ?_
 refine f_then ?_
 refine c_seq ?_
 refine c_seq ?_
 refine c_region ?_
 refine l_val (v := .pointer (some ⟨b1, 7, none⟩)) rfl rfl rfl (e_fieldPt (b := b1) (o := 0) rfl tf12) ?_
 refine l_val (v := .bool (a.round)) rfl rfl rfl (e_load1 tf13 (v := .bool (a.round)) rfl (k_pt 1 (cs := (bC a)) (vs := [.bool (a.round)]) rfl rfl)) ?_
 refine l_nil ?_
 refine f_then ?_
 refine c_ifb (a.round) rfl (fun hc3 => ?_) (fun hc3 => ?_)
 ·
  rw [hr] at hc3; cases hc3
 ·
  refine c_skip ?_
  refine f_then ?_
  refine c_seq ?_
  refine c_region ?_
  refine l_val (v := .agg (bC a)) rfl rfl rfl (e_load tf22 (cs := (bodyE a)) rfl (k_pt 1 (cs := (bC a)) (vs := (bodyE a)) rfl rfl) rfl) ?_
  refine l_call rfl rfl rfl (cl_value (fst := []) (cap := []) (vs := [.agg (bC a)]) (all := [.agg (bC a)]) tf116 rfl rfl rfl) ?_
  intro w hw
  obtain ⟨β1, sb, kn, hw1, back⟩ := St.frame_all hw
  refine (bounds5_ok β1 w hw1 a ha).mono ?_
  rintro e w' ⟨rfl, hw'⟩
  refine ⟨_, rfl, _, back _ _ hw', ?_⟩
  clear hw hw1 hw' back kn sb
  refine l_val (v := .tuple #[.agg #[Ix (a.x - a.w), Ix (a.y - a.h)], .agg #[Ix (a.x + a.w), Ix (a.y + a.h)]]) rfl rfl rfl (e_move) ?_
  refine l_val (v := .agg #[Ix (a.x - a.w), Ix (a.y - a.h)]) rfl rfl rfl (e_extract (vs := #[.agg #[Ix (a.x - a.w), Ix (a.y - a.h)], .agg #[Ix (a.x + a.w), Ix (a.y + a.h)]]) rfl rfl) ?_
  refine l_val (v := .agg #[Ix (a.x + a.w), Ix (a.y + a.h)]) rfl rfl rfl (e_extract (vs := #[.agg #[Ix (a.x - a.w), Ix (a.y - a.h)], .agg #[Ix (a.x + a.w), Ix (a.y + a.h)]]) rfl rfl) ?_
  refine l_mv rfl rfl rfl (m_alloc tf17) ?_
  rintro _ _ ⟨b4, rfl, rfl⟩
  refine l_mv rfl rfl rfl (m_alloc tf17) ?_
  rintro _ _ ⟨b5, rfl, rfl⟩
  refine l_mu rfl rfl (m_store 1 tf15 (b := b4) (o := 0) (T := 28) (cs := #[.int .i64 (0), .int .i64 (0)]) (cs' := #[Ix (a.x - a.w), Ix (a.y - a.h)]) (v := .agg #[Ix (a.x - a.w), Ix (a.y - a.h)]) rfl rfl rfl rfl rfl rfl rfl) ?_
  refine l_mu rfl rfl (m_store 0 tf15 (b := b5) (o := 0) (T := 28) (cs := #[.int .i64 (0), .int .i64 (0)]) (cs' := #[Ix (a.x + a.w), Ix (a.y + a.h)]) (v := .agg #[Ix (a.x + a.w), Ix (a.y + a.h)]) rfl rfl rfl rfl rfl rfl rfl) ?_
  refine l_nil ?_
  refine f_then ?_
  refine c_seq ?_
  refine c_seq ?_
  refine c_region ?_
  refine l_val (v := .pointer (some ⟨b2, 7, none⟩)) rfl rfl rfl (e_fieldPt (b := b2) (o := 0) rfl tf12) ?_
  refine l_val (v := .bool (b.round)) rfl rfl rfl (e_load1 tf13 (v := .bool (b.round)) rfl (k_pt 2 (cs := (bC b)) (vs := [.bool (b.round)]) rfl rfl)) ?_
  refine l_nil ?_
  refine f_then ?_
  refine c_ifb (b.round) rfl (fun hc6 => ?_) (fun hc6 => ?_)
  ·
   refine c_seq ?_
   refine c_quiet (by kernel_rfl) (by kernel_rfl) ?_
   refine q_val (v := .pointer (some ⟨b2, 1, none⟩)) rfl rfl rfl (e_fieldPt (b := b2) (o := 0) rfl tf6) ?_
   refine q_val (v := .pointer (some ⟨b2, 1, none⟩)) rfl rfl rfl (e_fieldPt (b := b2) (o := 1) rfl tf7) ?_
   refine q_val (v := Ix (b.x)) rfl rfl rfl (e_load1 tf2 (v := Ix (b.x)) rfl (k_pt 2 (cs := (bC b)) (vs := [Ix (b.x)]) rfl rfl)) ?_
   refine q_val (v := .pointer (some ⟨b4, 0, none⟩)) rfl rfl rfl (e_fieldPt (b := b4) (o := 0) rfl tf7) ?_
   refine q_val (v := Ix (a.x - a.w)) rfl rfl rfl (e_load1 tf2 (v := Ix (a.x - a.w)) rfl (k_pt 1 (cs := #[Ix (a.x - a.w), Ix (a.y - a.h)]) (vs := [Ix (a.x - a.w)]) rfl rfl)) ?_
   refine q_val (v := .pointer (some ⟨b5, 0, none⟩)) rfl rfl rfl (e_fieldPt (b := b5) (o := 0) rfl tf7) ?_
   refine q_val (v := Ix (a.x + a.w)) rfl rfl rfl (e_load1 tf2 (v := Ix (a.x + a.w)) rfl (k_pt 0 (cs := #[Ix (a.x + a.w), Ix (a.y + a.h)]) (vs := [Ix (a.x + a.w)]) rfl rfl)) ?_
   refine q_call (v := Ix (fark (b.x) (a.x - a.w) (a.x + a.w))) rfl rfl rfl (cl_value (fst := []) (cap := []) (vs := [Ix (b.x), Ix (a.x - a.w), Ix (a.x + a.w)]) (all := [Ix (b.x), Ix (a.x - a.w), Ix (a.x + a.w)]) tf117 rfl rfl rfl) (fun w hw => ?_) ?_
   ·obtain ⟨β1, sb, kn, hw1, back⟩ := St.frame_all hw
    exact (far5_ok β1 w hw1 (b.x) (a.x - a.w) (a.x + a.w) (by omega) (by omega) (by omega)).mono (fun e w' ⟨he, hw'⟩ => ⟨he, st_mask [true, true, true, true] rfl (back _ _ hw')⟩)
   refine q_val (v := .pointer (some ⟨b2, 1, none⟩)) rfl rfl rfl (e_fieldPt (b := b2) (o := 0) rfl tf6) ?_
   refine q_val (v := .pointer (some ⟨b2, 2, none⟩)) rfl rfl rfl (e_fieldPt (b := b2) (o := 1) rfl tf8) ?_
   refine q_val (v := Ix (b.y)) rfl rfl rfl (e_load1 tf2 (v := Ix (b.y)) rfl (k_pt 2 (cs := (bC b)) (vs := [Ix (b.y)]) rfl rfl)) ?_
   refine q_val (v := .pointer (some ⟨b4, 1, none⟩)) rfl rfl rfl (e_fieldPt (b := b4) (o := 0) rfl tf8) ?_
   refine q_val (v := Ix (a.y - a.h)) rfl rfl rfl (e_load1 tf2 (v := Ix (a.y - a.h)) rfl (k_pt 1 (cs := #[Ix (a.x - a.w), Ix (a.y - a.h)]) (vs := [Ix (a.y - a.h)]) rfl rfl)) ?_
   refine q_val (v := .pointer (some ⟨b5, 1, none⟩)) rfl rfl rfl (e_fieldPt (b := b5) (o := 0) rfl tf8) ?_
   refine q_val (v := Ix (a.y + a.h)) rfl rfl rfl (e_load1 tf2 (v := Ix (a.y + a.h)) rfl (k_pt 0 (cs := #[Ix (a.x + a.w), Ix (a.y + a.h)]) (vs := [Ix (a.y + a.h)]) rfl rfl)) ?_
   refine q_call (v := Ix (fark (b.y) (a.y - a.h) (a.y + a.h))) rfl rfl rfl (cl_value (fst := []) (cap := []) (vs := [Ix (b.y), Ix (a.y - a.h), Ix (a.y + a.h)]) (all := [Ix (b.y), Ix (a.y - a.h), Ix (a.y + a.h)]) tf117 rfl rfl rfl) (fun w hw => ?_) ?_
   ·obtain ⟨β1, sb, kn, hw1, back⟩ := St.frame_all hw
    exact (far5_ok β1 w hw1 (b.y) (a.y - a.h) (a.y + a.h) (by omega) (by omega) (by omega)).mono (fun e w' ⟨he, hw'⟩ => ⟨he, st_mask [true, true, true, true] rfl (back _ _ hw')⟩)
   refine q_val (v := Ix (fark (b.x) (a.x - a.w) (a.x + a.w))) rfl rfl rfl (e_assign) ?_
   refine q_val (v := Ix (fark (b.y) (a.y - a.h) (a.y + a.h))) rfl rfl rfl (e_assign) ?_
   refine q_nil ?_
   refine f_then ?_
   refine c_seq ?_
   refine c_region ?_
   refine l_val (v := Ix (fark (b.x) (a.x - a.w) (a.x + a.w))) rfl rfl rfl (e_move) ?_
   refine l_val (v := Ix (fark (b.x) (a.x - a.w) (a.x + a.w))) rfl rfl rfl (e_move) ?_
   refine l_val (v := Ix ((fark (b.x) (a.x - a.w) (a.x + a.w)) * (fark (b.x) (a.x - a.w) (a.x + a.w)))) rfl rfl rfl (e_mul (a := (fark (b.x) (a.x - a.w) (a.x + a.w))) (b := (fark (b.x) (a.x - a.w) (a.x + a.w))) rfl rfl (i64w (by omega))) ?_
   refine l_val (v := Ix (fark (b.y) (a.y - a.h) (a.y + a.h))) rfl rfl rfl (e_move) ?_
   refine l_val (v := Ix (fark (b.y) (a.y - a.h) (a.y + a.h))) rfl rfl rfl (e_move) ?_
   refine l_val (v := Ix ((fark (b.y) (a.y - a.h) (a.y + a.h)) * (fark (b.y) (a.y - a.h) (a.y + a.h)))) rfl rfl rfl (e_mul (a := (fark (b.y) (a.y - a.h) (a.y + a.h))) (b := (fark (b.y) (a.y - a.h) (a.y + a.h))) rfl rfl (i64w (by omega))) ?_
   refine l_val (v := Ix (((fark (b.x) (a.x - a.w) (a.x + a.w)) * (fark (b.x) (a.x - a.w) (a.x + a.w))) + ((fark (b.y) (a.y - a.h) (a.y + a.h)) * (fark (b.y) (a.y - a.h) (a.y + a.h))))) rfl rfl rfl (e_add (a := ((fark (b.x) (a.x - a.w) (a.x + a.w)) * (fark (b.x) (a.x - a.w) (a.x + a.w)))) (b := ((fark (b.y) (a.y - a.h) (a.y + a.h)) * (fark (b.y) (a.y - a.h) (a.y + a.h)))) rfl rfl (i64w (by omega))) ?_
   refine l_val (v := .pointer (some ⟨b2, 5, none⟩)) rfl rfl rfl (e_fieldPt (b := b2) (o := 0) rfl tf10) ?_
   refine l_val (v := Ix (b.w)) rfl rfl rfl (e_load1 tf2 (v := Ix (b.w)) rfl (k_pt 2 (cs := (bC b)) (vs := [Ix (b.w)]) rfl rfl)) ?_
   refine l_val (v := .pointer (some ⟨b2, 5, none⟩)) rfl rfl rfl (e_fieldPt (b := b2) (o := 0) rfl tf10) ?_
   refine l_val (v := Ix (b.w)) rfl rfl rfl (e_load1 tf2 (v := Ix (b.w)) rfl (k_pt 2 (cs := (bC b)) (vs := [Ix (b.w)]) rfl rfl)) ?_
   refine l_val (v := Ix ((b.w) * (b.w))) rfl rfl rfl (e_mul (a := (b.w)) (b := (b.w)) rfl rfl (i64w (by omega))) ?_
   refine l_val (v := Ix ((((fark (b.x) (a.x - a.w) (a.x + a.w)) * (fark (b.x) (a.x - a.w) (a.x + a.w))) + ((fark (b.y) (a.y - a.h) (a.y + a.h)) * (fark (b.y) (a.y - a.h) (a.y + a.h)))) - ((b.w) * (b.w)))) rfl rfl rfl (e_sub (a := (((fark (b.x) (a.x - a.w) (a.x + a.w)) * (fark (b.x) (a.x - a.w) (a.x + a.w))) + ((fark (b.y) (a.y - a.h) (a.y + a.h)) * (fark (b.y) (a.y - a.h) (a.y + a.h))))) (b := ((b.w) * (b.w))) rfl rfl (i64w (by omega))) ?_
   refine l_val (v := Ix ((((fark (b.x) (a.x - a.w) (a.x + a.w)) * (fark (b.x) (a.x - a.w) (a.x + a.w))) + ((fark (b.y) (a.y - a.h) (a.y + a.h)) * (fark (b.y) (a.y - a.h) (a.y + a.h)))) - ((b.w) * (b.w)))) rfl rfl rfl (e_assign) ?_
   refine l_nil ?_
   refine f_then ?_
   refine c_ret ?_
   refine f_then_ret ?_
   refine ret1 Tryz.results237 (v := Ix ((((fark (b.x) (a.x - a.w) (a.x + a.w)) * (fark (b.x) (a.x - a.w) (a.x + a.w))) + ((fark (b.y) (a.y - a.h) (a.y + a.h)) * (fark (b.y) (a.y - a.h) (a.y + a.h)))) - ((b.w) * (b.w)))) rfl ?_
   intro w hw
   exact ⟨congrArg (fun z : Int => Ending.returned (Ix z)) (show (((fark (b.x) (a.x - a.w) (a.x + a.w)) * (fark (b.x) (a.x - a.w) (a.x + a.w))) + ((fark (b.y) (a.y - a.h) (a.y + a.h)) * (fark (b.y) (a.y - a.h) (a.y + a.h)))) - ((b.w) * (b.w)) = far5 a b from sq5_ft hc3 hc6 hga hgb), st_mask [false, false, false, false] rfl hw⟩
  ·
   refine c_skip ?_
   refine f_then ?_
   refine c_seq ?_
   refine c_region ?_
   refine l_val (v := .agg (bC b)) rfl rfl rfl (e_load tf22 (cs := (bodyE b)) rfl (k_pt 2 (cs := (bC b)) (vs := (bodyE b)) rfl rfl) rfl) ?_
   refine l_call rfl rfl rfl (cl_value (fst := []) (cap := []) (vs := [.agg (bC b)]) (all := [.agg (bC b)]) tf116 rfl rfl rfl) ?_
   intro w hw
   obtain ⟨β1, sb, kn, hw1, back⟩ := St.frame_all hw
   refine (bounds5_ok β1 w hw1 b hb).mono ?_
   rintro e w' ⟨rfl, hw'⟩
   refine ⟨_, rfl, _, back _ _ hw', ?_⟩
   clear hw hw1 hw' back kn sb
   refine l_val (v := .tuple #[.agg #[Ix (b.x - b.w), Ix (b.y - b.h)], .agg #[Ix (b.x + b.w), Ix (b.y + b.h)]]) rfl rfl rfl (e_move) ?_
   refine l_val (v := .agg #[Ix (b.x - b.w), Ix (b.y - b.h)]) rfl rfl rfl (e_extract (vs := #[.agg #[Ix (b.x - b.w), Ix (b.y - b.h)], .agg #[Ix (b.x + b.w), Ix (b.y + b.h)]]) rfl rfl) ?_
   refine l_val (v := .agg #[Ix (b.x + b.w), Ix (b.y + b.h)]) rfl rfl rfl (e_extract (vs := #[.agg #[Ix (b.x - b.w), Ix (b.y - b.h)], .agg #[Ix (b.x + b.w), Ix (b.y + b.h)]]) rfl rfl) ?_
   refine l_mv rfl rfl rfl (m_alloc tf17) ?_
   rintro _ _ ⟨b7, rfl, rfl⟩
   refine l_mv rfl rfl rfl (m_alloc tf17) ?_
   rintro _ _ ⟨b8, rfl, rfl⟩
   refine l_mu rfl rfl (m_store 1 tf15 (b := b7) (o := 0) (T := 28) (cs := #[.int .i64 (0), .int .i64 (0)]) (cs' := #[Ix (b.x - b.w), Ix (b.y - b.h)]) (v := .agg #[Ix (b.x - b.w), Ix (b.y - b.h)]) rfl rfl rfl rfl rfl rfl rfl) ?_
   refine l_mu rfl rfl (m_store 0 tf15 (b := b8) (o := 0) (T := 28) (cs := #[.int .i64 (0), .int .i64 (0)]) (cs' := #[Ix (b.x + b.w), Ix (b.y + b.h)]) (v := .agg #[Ix (b.x + b.w), Ix (b.y + b.h)]) rfl rfl rfl rfl rfl rfl rfl) ?_
   refine l_nil ?_
   refine f_then ?_
   refine c_seq ?_
   refine c_region ?_
   refine l_val (v := .pointer (some ⟨b4, 0, none⟩)) rfl rfl rfl (e_fieldPt (b := b4) (o := 0) rfl tf7) ?_
   refine l_val (v := Ix (a.x - a.w)) rfl rfl rfl (e_load1 tf2 (v := Ix (a.x - a.w)) rfl (k_pt 3 (cs := #[Ix (a.x - a.w), Ix (a.y - a.h)]) (vs := [Ix (a.x - a.w)]) rfl rfl)) ?_
   refine l_val (v := .pointer (some ⟨b7, 0, none⟩)) rfl rfl rfl (e_fieldPt (b := b7) (o := 0) rfl tf7) ?_
   refine l_val (v := Ix (b.x - b.w)) rfl rfl rfl (e_load1 tf2 (v := Ix (b.x - b.w)) rfl (k_pt 1 (cs := #[Ix (b.x - b.w), Ix (b.y - b.h)]) (vs := [Ix (b.x - b.w)]) rfl rfl)) ?_
   refine l_val (v := Ix (max (a.x - a.w) (b.x - b.w))) rfl rfl rfl (e_max (a := (a.x - a.w)) (b := (b.x - b.w)) rfl rfl) ?_
   refine l_val (v := .pointer (some ⟨b5, 0, none⟩)) rfl rfl rfl (e_fieldPt (b := b5) (o := 0) rfl tf7) ?_
   refine l_val (v := Ix (a.x + a.w)) rfl rfl rfl (e_load1 tf2 (v := Ix (a.x + a.w)) rfl (k_pt 2 (cs := #[Ix (a.x + a.w), Ix (a.y + a.h)]) (vs := [Ix (a.x + a.w)]) rfl rfl)) ?_
   refine l_val (v := .pointer (some ⟨b8, 0, none⟩)) rfl rfl rfl (e_fieldPt (b := b8) (o := 0) rfl tf7) ?_
   refine l_val (v := Ix (b.x + b.w)) rfl rfl rfl (e_load1 tf2 (v := Ix (b.x + b.w)) rfl (k_pt 0 (cs := #[Ix (b.x + b.w), Ix (b.y + b.h)]) (vs := [Ix (b.x + b.w)]) rfl rfl)) ?_
   refine l_val (v := Ix (min (a.x + a.w) (b.x + b.w))) rfl rfl rfl (e_min (a := (a.x + a.w)) (b := (b.x + b.w)) rfl rfl) ?_
   refine l_val (v := Ix ((max (a.x - a.w) (b.x - b.w)) - (min (a.x + a.w) (b.x + b.w)))) rfl rfl rfl (e_sub (a := (max (a.x - a.w) (b.x - b.w))) (b := (min (a.x + a.w) (b.x + b.w))) rfl rfl (i64w (by omega))) ?_
   refine l_val (v := Ix ((max (a.x - a.w) (b.x - b.w)) - (min (a.x + a.w) (b.x + b.w)))) rfl rfl rfl (e_assign) ?_
   refine l_nil ?_
   refine f_then ?_
   refine c_seq ?_
   refine c_region ?_
   refine l_val (v := .pointer (some ⟨b4, 1, none⟩)) rfl rfl rfl (e_fieldPt (b := b4) (o := 0) rfl tf8) ?_
   refine l_val (v := Ix (a.y - a.h)) rfl rfl rfl (e_load1 tf2 (v := Ix (a.y - a.h)) rfl (k_pt 3 (cs := #[Ix (a.x - a.w), Ix (a.y - a.h)]) (vs := [Ix (a.y - a.h)]) rfl rfl)) ?_
   refine l_val (v := .pointer (some ⟨b7, 1, none⟩)) rfl rfl rfl (e_fieldPt (b := b7) (o := 0) rfl tf8) ?_
   refine l_val (v := Ix (b.y - b.h)) rfl rfl rfl (e_load1 tf2 (v := Ix (b.y - b.h)) rfl (k_pt 1 (cs := #[Ix (b.x - b.w), Ix (b.y - b.h)]) (vs := [Ix (b.y - b.h)]) rfl rfl)) ?_
   refine l_val (v := Ix (max (a.y - a.h) (b.y - b.h))) rfl rfl rfl (e_max (a := (a.y - a.h)) (b := (b.y - b.h)) rfl rfl) ?_
   refine l_val (v := .pointer (some ⟨b5, 1, none⟩)) rfl rfl rfl (e_fieldPt (b := b5) (o := 0) rfl tf8) ?_
   refine l_val (v := Ix (a.y + a.h)) rfl rfl rfl (e_load1 tf2 (v := Ix (a.y + a.h)) rfl (k_pt 2 (cs := #[Ix (a.x + a.w), Ix (a.y + a.h)]) (vs := [Ix (a.y + a.h)]) rfl rfl)) ?_
   refine l_val (v := .pointer (some ⟨b8, 1, none⟩)) rfl rfl rfl (e_fieldPt (b := b8) (o := 0) rfl tf8) ?_
   refine l_val (v := Ix (b.y + b.h)) rfl rfl rfl (e_load1 tf2 (v := Ix (b.y + b.h)) rfl (k_pt 0 (cs := #[Ix (b.x + b.w), Ix (b.y + b.h)]) (vs := [Ix (b.y + b.h)]) rfl rfl)) ?_
   refine l_val (v := Ix (min (a.y + a.h) (b.y + b.h))) rfl rfl rfl (e_min (a := (a.y + a.h)) (b := (b.y + b.h)) rfl rfl) ?_
   refine l_val (v := Ix ((max (a.y - a.h) (b.y - b.h)) - (min (a.y + a.h) (b.y + b.h)))) rfl rfl rfl (e_sub (a := (max (a.y - a.h) (b.y - b.h))) (b := (min (a.y + a.h) (b.y + b.h))) rfl rfl (i64w (by omega))) ?_
   refine l_val (v := Ix ((max (a.y - a.h) (b.y - b.h)) - (min (a.y + a.h) (b.y + b.h)))) rfl rfl rfl (e_assign) ?_
   refine l_nil ?_
   refine f_then ?_
   refine c_seq ?_
   refine c_region ?_
   refine l_val (v := Ix ((max (a.x - a.w) (b.x - b.w)) - (min (a.x + a.w) (b.x + b.w)))) rfl rfl rfl (e_move) ?_
   refine l_val (v := Ix ((max (a.y - a.h) (b.y - b.h)) - (min (a.y + a.h) (b.y + b.h)))) rfl rfl rfl (e_move) ?_
   refine l_val (v := Ix (max ((max (a.x - a.w) (b.x - b.w)) - (min (a.x + a.w) (b.x + b.w))) ((max (a.y - a.h) (b.y - b.h)) - (min (a.y + a.h) (b.y + b.h))))) rfl rfl rfl (e_max (a := ((max (a.x - a.w) (b.x - b.w)) - (min (a.x + a.w) (b.x + b.w)))) (b := ((max (a.y - a.h) (b.y - b.h)) - (min (a.y + a.h) (b.y + b.h)))) rfl rfl) ?_
   refine l_val (v := Ix (max ((max (a.x - a.w) (b.x - b.w)) - (min (a.x + a.w) (b.x + b.w))) ((max (a.y - a.h) (b.y - b.h)) - (min (a.y + a.h) (b.y + b.h))))) rfl rfl rfl (e_assign) ?_
   refine l_nil ?_
   refine f_then ?_
   refine c_ret ?_
   refine ret1 Tryz.results237 (v := Ix (max ((max (a.x - a.w) (b.x - b.w)) - (min (a.x + a.w) (b.x + b.w))) ((max (a.y - a.h) (b.y - b.h)) - (min (a.y + a.h) (b.y + b.h))))) rfl ?_
   intro w hw
   exact ⟨congrArg (fun z : Int => Ending.returned (Ix z)) (show max ((max (a.x - a.w) (b.x - b.w)) - (min (a.x + a.w) (b.x + b.w))) ((max (a.y - a.h) (b.y - b.h)) - (min (a.y + a.h) (b.y + b.h))) = far5 a b from sq5_ff hc3 hc6 hga hgb), st_mask [false, false, false, false, false, false] rfl hw⟩
set_option maxHeartbeats 4000000 in
theorem square_ok (β : Base) (w : World) (hw : St β [] w) (a b : KB) (ha : okB a) (hb : okB b) : Calls Tryz.prog 237 #[.agg (bC a), .agg (bC b)] w fun r w' => r = .returned (Ix (far5 a b)) ∧ St β [] w' := by
 have ga2 := ha.2.1
 have ga3 := ha.2.2.1
 have ga6 := ha.2.2.2.2.2.1
 have ga7 := ha.2.2.2.2.2.2.1
 have gb2 := hb.2.1
 have gb3 := hb.2.2.1
 have gb6 := hb.2.2.2.2.2.1
 have gb7 := hb.2.2.2.2.2.2.1
 have hga := ha
 have hgb := hb
 have q1 := sq_bd (x := a.x - b.x) (B := 4194304) (by omega) (by omega)
 have q2 := sq_bd (x := a.y - b.y) (B := 4194304) (by omega) (by omega)
 have q3 := sq_bd (x := a.w + b.w) (B := 32768) (by omega) (by omega)
 have q4 := sq_bd (x := b.w) (B := 16384) (by omega) (by omega)
 have q5 := fark_bd b.x (a.x - a.w) (a.x + a.w) (by omega) (by omega)
 have q6 := fark_bd b.y (a.y - a.h) (a.y + a.h) (by omega) (by omega)
 refine enter (n := 125) Tryz.func237 rfl Tryz.ntmps237 rfl ?_ hw
 refine c_seq ?_
 refine c_region ?_
 refine l_mv rfl rfl rfl (m_box (v := .agg (bC a)) rfl) ?_
 rintro _ _ ⟨b1, rfl, rfl⟩
 refine l_mv rfl rfl rfl (m_box (v := .agg (bC b)) rfl) ?_
 rintro _ _ ⟨b2, rfl, rfl⟩
 refine l_val (v := .int .i64 (0)) rfl rfl rfl (e_assign) ?_
 refine l_nil ?_
 refine f_then ?_
 refine c_seq ?_
 refine c_seq ?_
 refine c_region ?_
 refine l_val (v := .pointer (some ⟨b1, 7, none⟩)) rfl rfl rfl (e_fieldPt (b := b1) (o := 0) rfl tf12) ?_
 refine l_val (v := .bool (a.round)) rfl rfl rfl (e_load1 tf13 (v := .bool (a.round)) rfl (k_pt 1 (cs := (bC a)) (vs := [.bool (a.round)]) rfl rfl)) ?_
 refine l_val (v := .bool (a.round)) rfl rfl rfl (e_move) ?_
 refine l_splitb (s := 17) (b := a.round) rfl (fun hg3 => ?_) (fun hg3 => ?_)
 ·
  refine g_val (v := .pointer (some ⟨b2, 7, none⟩)) rfl rfl rfl rfl rfl (e_fieldPt (b := b2) (o := 0) rfl tf12) ?_
  refine g_val (v := .bool (b.round)) rfl rfl rfl rfl rfl (e_load1 tf13 (v := .bool (b.round)) rfl (k_pt 0 (cs := (bC b)) (vs := [.bool (b.round)]) rfl rfl)) ?_
  refine l_val (v := .bool (b.round)) rfl rfl rfl (e_pick_t rfl) ?_
  refine l_nil ?_
  refine f_then ?_
  refine c_ifb (b.round) rfl (fun hc4 => ?_) (fun hc4 => ?_)
  ·
   refine c_seq ?_
   refine c_quiet (by kernel_rfl) (by kernel_rfl) ?_
   refine q_val (v := .pointer (some ⟨b1, 1, none⟩)) rfl rfl rfl (e_fieldPt (b := b1) (o := 0) rfl tf6) ?_
   refine q_val (v := .pointer (some ⟨b1, 1, none⟩)) rfl rfl rfl (e_fieldPt (b := b1) (o := 1) rfl tf7) ?_
   refine q_val (v := Ix (a.x)) rfl rfl rfl (e_load1 tf2 (v := Ix (a.x)) rfl (k_pt 1 (cs := (bC a)) (vs := [Ix (a.x)]) rfl rfl)) ?_
   refine q_val (v := .pointer (some ⟨b2, 1, none⟩)) rfl rfl rfl (e_fieldPt (b := b2) (o := 0) rfl tf6) ?_
   refine q_val (v := .pointer (some ⟨b2, 1, none⟩)) rfl rfl rfl (e_fieldPt (b := b2) (o := 1) rfl tf7) ?_
   refine q_val (v := Ix (b.x)) rfl rfl rfl (e_load1 tf2 (v := Ix (b.x)) rfl (k_pt 0 (cs := (bC b)) (vs := [Ix (b.x)]) rfl rfl)) ?_
   refine q_val (v := Ix ((a.x) - (b.x))) rfl rfl rfl (e_sub (a := (a.x)) (b := (b.x)) rfl rfl (i64w (by omega))) ?_
   refine q_val (v := .pointer (some ⟨b1, 1, none⟩)) rfl rfl rfl (e_fieldPt (b := b1) (o := 0) rfl tf6) ?_
   refine q_val (v := .pointer (some ⟨b1, 2, none⟩)) rfl rfl rfl (e_fieldPt (b := b1) (o := 1) rfl tf8) ?_
   refine q_val (v := Ix (a.y)) rfl rfl rfl (e_load1 tf2 (v := Ix (a.y)) rfl (k_pt 1 (cs := (bC a)) (vs := [Ix (a.y)]) rfl rfl)) ?_
   refine q_val (v := .pointer (some ⟨b2, 1, none⟩)) rfl rfl rfl (e_fieldPt (b := b2) (o := 0) rfl tf6) ?_
   refine q_val (v := .pointer (some ⟨b2, 2, none⟩)) rfl rfl rfl (e_fieldPt (b := b2) (o := 1) rfl tf8) ?_
   refine q_val (v := Ix (b.y)) rfl rfl rfl (e_load1 tf2 (v := Ix (b.y)) rfl (k_pt 0 (cs := (bC b)) (vs := [Ix (b.y)]) rfl rfl)) ?_
   refine q_val (v := Ix ((a.y) - (b.y))) rfl rfl rfl (e_sub (a := (a.y)) (b := (b.y)) rfl rfl (i64w (by omega))) ?_
   refine q_val (v := Ix ((a.x) - (b.x))) rfl rfl rfl (e_assign) ?_
   refine q_val (v := Ix ((a.y) - (b.y))) rfl rfl rfl (e_assign) ?_
   refine q_nil ?_
   refine f_then ?_
   refine c_seq ?_
   refine c_region ?_
   refine l_val (v := Ix ((a.x) - (b.x))) rfl rfl rfl (e_move) ?_
   refine l_val (v := Ix ((a.x) - (b.x))) rfl rfl rfl (e_move) ?_
   refine l_val (v := Ix (((a.x) - (b.x)) * ((a.x) - (b.x)))) rfl rfl rfl (e_mul (a := ((a.x) - (b.x))) (b := ((a.x) - (b.x))) rfl rfl (i64w (by omega))) ?_
   refine l_val (v := Ix ((a.y) - (b.y))) rfl rfl rfl (e_move) ?_
   refine l_val (v := Ix ((a.y) - (b.y))) rfl rfl rfl (e_move) ?_
   refine l_val (v := Ix (((a.y) - (b.y)) * ((a.y) - (b.y)))) rfl rfl rfl (e_mul (a := ((a.y) - (b.y))) (b := ((a.y) - (b.y))) rfl rfl (i64w (by omega))) ?_
   refine l_val (v := Ix ((((a.x) - (b.x)) * ((a.x) - (b.x))) + (((a.y) - (b.y)) * ((a.y) - (b.y))))) rfl rfl rfl (e_add (a := (((a.x) - (b.x)) * ((a.x) - (b.x)))) (b := (((a.y) - (b.y)) * ((a.y) - (b.y)))) rfl rfl (i64w (by omega))) ?_
   refine l_val (v := .pointer (some ⟨b1, 5, none⟩)) rfl rfl rfl (e_fieldPt (b := b1) (o := 0) rfl tf10) ?_
   refine l_val (v := Ix (a.w)) rfl rfl rfl (e_load1 tf2 (v := Ix (a.w)) rfl (k_pt 1 (cs := (bC a)) (vs := [Ix (a.w)]) rfl rfl)) ?_
   refine l_val (v := .pointer (some ⟨b2, 5, none⟩)) rfl rfl rfl (e_fieldPt (b := b2) (o := 0) rfl tf10) ?_
   refine l_val (v := Ix (b.w)) rfl rfl rfl (e_load1 tf2 (v := Ix (b.w)) rfl (k_pt 0 (cs := (bC b)) (vs := [Ix (b.w)]) rfl rfl)) ?_
   refine l_val (v := Ix ((a.w) + (b.w))) rfl rfl rfl (e_add (a := (a.w)) (b := (b.w)) rfl rfl (i64w (by omega))) ?_
   refine l_val (v := .pointer (some ⟨b1, 5, none⟩)) rfl rfl rfl (e_fieldPt (b := b1) (o := 0) rfl tf10) ?_
   refine l_val (v := Ix (a.w)) rfl rfl rfl (e_load1 tf2 (v := Ix (a.w)) rfl (k_pt 1 (cs := (bC a)) (vs := [Ix (a.w)]) rfl rfl)) ?_
   refine l_val (v := .pointer (some ⟨b2, 5, none⟩)) rfl rfl rfl (e_fieldPt (b := b2) (o := 0) rfl tf10) ?_
   refine l_val (v := Ix (b.w)) rfl rfl rfl (e_load1 tf2 (v := Ix (b.w)) rfl (k_pt 0 (cs := (bC b)) (vs := [Ix (b.w)]) rfl rfl)) ?_
   refine l_val (v := Ix ((a.w) + (b.w))) rfl rfl rfl (e_add (a := (a.w)) (b := (b.w)) rfl rfl (i64w (by omega))) ?_
   refine l_val (v := Ix (((a.w) + (b.w)) * ((a.w) + (b.w)))) rfl rfl rfl (e_mul (a := ((a.w) + (b.w))) (b := ((a.w) + (b.w))) rfl rfl (i64w (by omega))) ?_
   refine l_val (v := Ix (((((a.x) - (b.x)) * ((a.x) - (b.x))) + (((a.y) - (b.y)) * ((a.y) - (b.y)))) - (((a.w) + (b.w)) * ((a.w) + (b.w))))) rfl rfl rfl (e_sub (a := ((((a.x) - (b.x)) * ((a.x) - (b.x))) + (((a.y) - (b.y)) * ((a.y) - (b.y))))) (b := (((a.w) + (b.w)) * ((a.w) + (b.w)))) rfl rfl (i64w (by omega))) ?_
   refine l_val (v := Ix (((((a.x) - (b.x)) * ((a.x) - (b.x))) + (((a.y) - (b.y)) * ((a.y) - (b.y)))) - (((a.w) + (b.w)) * ((a.w) + (b.w))))) rfl rfl rfl (e_assign) ?_
   refine l_nil ?_
   refine f_then ?_
   refine c_ret ?_
   refine f_then_ret ?_
   refine ret1 Tryz.results237 (v := Ix (((((a.x) - (b.x)) * ((a.x) - (b.x))) + (((a.y) - (b.y)) * ((a.y) - (b.y)))) - (((a.w) + (b.w)) * ((a.w) + (b.w))))) rfl ?_
   intro w hw
   exact ⟨congrArg (fun z : Int => Ending.returned (Ix z)) (show ((((a.x) - (b.x)) * ((a.x) - (b.x))) + (((a.y) - (b.y)) * ((a.y) - (b.y)))) - (((a.w) + (b.w)) * ((a.w) + (b.w))) = far5 a b from sq5_tt hg3 hc4 hga hgb), st_mask [false, false] rfl hw⟩
  ·
   refine c_skip ?_
   refine f_then ?_
   refine c_seq ?_
   refine c_seq ?_
   refine c_region ?_
   refine l_val (v := .pointer (some ⟨b1, 7, none⟩)) rfl rfl rfl (e_fieldPt (b := b1) (o := 0) rfl tf12) ?_
   refine l_val (v := .bool (a.round)) rfl rfl rfl (e_load1 tf13 (v := .bool (a.round)) rfl (k_pt 1 (cs := (bC a)) (vs := [.bool (a.round)]) rfl rfl)) ?_
   refine l_nil ?_
   refine f_then ?_
   refine c_ifb (a.round) rfl (fun hc5 => ?_) (fun hc5 => ?_)
   ·
    refine c_seq ?_
    refine c_region ?_
    refine l_val (v := .agg (bC b)) rfl rfl rfl (e_load tf22 (cs := (bodyE b)) rfl (k_pt 0 (cs := (bC b)) (vs := (bodyE b)) rfl rfl) rfl) ?_
    refine l_val (v := .agg (bC a)) rfl rfl rfl (e_load tf22 (cs := (bodyE a)) rfl (k_pt 1 (cs := (bC a)) (vs := (bodyE a)) rfl rfl) rfl) ?_
    refine l_call rfl rfl rfl (cl_value (fst := []) (cap := []) (vs := [.agg (bC b), .agg (bC a)]) (all := [.agg (bC b), .agg (bC a)]) tf118 rfl rfl rfl) ?_
    intro w hw
    obtain ⟨β1, sb, kn, hw1, back⟩ := St.frame_all hw
    refine (square0_ok β1 w hw1 b a hb ha hc4).mono ?_
    rintro e w' ⟨rfl, hw'⟩
    refine ⟨_, rfl, _, back _ _ hw', ?_⟩
    clear hw hw1 hw' back kn sb
    refine l_val (v := Ix (far5 b a)) rfl rfl rfl (e_assign) ?_
    refine l_nil ?_
    refine f_then ?_
    refine c_ret ?_
    refine f_then_ret ?_
    refine ret1 Tryz.results237 (v := Ix (far5 b a)) rfl ?_
    intro w hw
    exact ⟨congrArg (fun z : Int => Ending.returned (Ix z)) (far5_comm (.inr hc5)), st_mask [false, false] rfl hw⟩
   ·
    rw [hg3] at hc5; cases hc5
 ·
  refine l_skip rfl rfl rfl rfl rfl rfl ?_
  refine l_skip rfl rfl rfl rfl rfl rfl ?_
  refine l_val (v := .bool false) rfl rfl rfl (e_pick_f rfl) ?_
  refine l_nil ?_
  refine f_then ?_
  refine c_no rfl ?_
  refine c_skip ?_
  refine f_then ?_
  refine c_seq ?_
  refine c_seq ?_
  refine c_region ?_
  refine l_val (v := .pointer (some ⟨b1, 7, none⟩)) rfl rfl rfl (e_fieldPt (b := b1) (o := 0) rfl tf12) ?_
  refine l_val (v := .bool (a.round)) rfl rfl rfl (e_load1 tf13 (v := .bool (a.round)) rfl (k_pt 1 (cs := (bC a)) (vs := [.bool (a.round)]) rfl rfl)) ?_
  refine l_nil ?_
  refine f_then ?_
  refine c_ifb (a.round) rfl (fun hc6 => ?_) (fun hc6 => ?_)
  ·
   rw [hg3] at hc6; cases hc6
  ·
   refine c_skip ?_
   refine f_then ?_
   refine c_seq ?_
   refine c_region ?_
   refine l_val (v := .agg (bC a)) rfl rfl rfl (e_load tf22 (cs := (bodyE a)) rfl (k_pt 1 (cs := (bC a)) (vs := (bodyE a)) rfl rfl) rfl) ?_
   refine l_call rfl rfl rfl (cl_value (fst := []) (cap := []) (vs := [.agg (bC a)]) (all := [.agg (bC a)]) tf116 rfl rfl rfl) ?_
   intro w hw
   obtain ⟨β1, sb, kn, hw1, back⟩ := St.frame_all hw
   refine (bounds5_ok β1 w hw1 a ha).mono ?_
   rintro e w' ⟨rfl, hw'⟩
   refine ⟨_, rfl, _, back _ _ hw', ?_⟩
   clear hw hw1 hw' back kn sb
   refine l_val (v := .tuple #[.agg #[Ix (a.x - a.w), Ix (a.y - a.h)], .agg #[Ix (a.x + a.w), Ix (a.y + a.h)]]) rfl rfl rfl (e_move) ?_
   refine l_val (v := .agg #[Ix (a.x - a.w), Ix (a.y - a.h)]) rfl rfl rfl (e_extract (vs := #[.agg #[Ix (a.x - a.w), Ix (a.y - a.h)], .agg #[Ix (a.x + a.w), Ix (a.y + a.h)]]) rfl rfl) ?_
   refine l_val (v := .agg #[Ix (a.x + a.w), Ix (a.y + a.h)]) rfl rfl rfl (e_extract (vs := #[.agg #[Ix (a.x - a.w), Ix (a.y - a.h)], .agg #[Ix (a.x + a.w), Ix (a.y + a.h)]]) rfl rfl) ?_
   refine l_mv rfl rfl rfl (m_alloc tf17) ?_
   rintro _ _ ⟨b7, rfl, rfl⟩
   refine l_mv rfl rfl rfl (m_alloc tf17) ?_
   rintro _ _ ⟨b8, rfl, rfl⟩
   refine l_mu rfl rfl (m_store 1 tf15 (b := b7) (o := 0) (T := 28) (cs := #[.int .i64 (0), .int .i64 (0)]) (cs' := #[Ix (a.x - a.w), Ix (a.y - a.h)]) (v := .agg #[Ix (a.x - a.w), Ix (a.y - a.h)]) rfl rfl rfl rfl rfl rfl rfl) ?_
   refine l_mu rfl rfl (m_store 0 tf15 (b := b8) (o := 0) (T := 28) (cs := #[.int .i64 (0), .int .i64 (0)]) (cs' := #[Ix (a.x + a.w), Ix (a.y + a.h)]) (v := .agg #[Ix (a.x + a.w), Ix (a.y + a.h)]) rfl rfl rfl rfl rfl rfl rfl) ?_
   refine l_nil ?_
   refine f_then ?_
   refine c_seq ?_
   refine c_seq ?_
   refine c_region ?_
   refine l_val (v := .pointer (some ⟨b2, 7, none⟩)) rfl rfl rfl (e_fieldPt (b := b2) (o := 0) rfl tf12) ?_
   refine l_val (v := .bool (b.round)) rfl rfl rfl (e_load1 tf13 (v := .bool (b.round)) rfl (k_pt 2 (cs := (bC b)) (vs := [.bool (b.round)]) rfl rfl)) ?_
   refine l_nil ?_
   refine f_then ?_
   refine c_ifb (b.round) rfl (fun hc9 => ?_) (fun hc9 => ?_)
   ·
    refine c_seq ?_
    refine c_quiet (by kernel_rfl) (by kernel_rfl) ?_
    refine q_val (v := .pointer (some ⟨b2, 1, none⟩)) rfl rfl rfl (e_fieldPt (b := b2) (o := 0) rfl tf6) ?_
    refine q_val (v := .pointer (some ⟨b2, 1, none⟩)) rfl rfl rfl (e_fieldPt (b := b2) (o := 1) rfl tf7) ?_
    refine q_val (v := Ix (b.x)) rfl rfl rfl (e_load1 tf2 (v := Ix (b.x)) rfl (k_pt 2 (cs := (bC b)) (vs := [Ix (b.x)]) rfl rfl)) ?_
    refine q_val (v := .pointer (some ⟨b7, 0, none⟩)) rfl rfl rfl (e_fieldPt (b := b7) (o := 0) rfl tf7) ?_
    refine q_val (v := Ix (a.x - a.w)) rfl rfl rfl (e_load1 tf2 (v := Ix (a.x - a.w)) rfl (k_pt 1 (cs := #[Ix (a.x - a.w), Ix (a.y - a.h)]) (vs := [Ix (a.x - a.w)]) rfl rfl)) ?_
    refine q_val (v := .pointer (some ⟨b8, 0, none⟩)) rfl rfl rfl (e_fieldPt (b := b8) (o := 0) rfl tf7) ?_
    refine q_val (v := Ix (a.x + a.w)) rfl rfl rfl (e_load1 tf2 (v := Ix (a.x + a.w)) rfl (k_pt 0 (cs := #[Ix (a.x + a.w), Ix (a.y + a.h)]) (vs := [Ix (a.x + a.w)]) rfl rfl)) ?_
    refine q_call (v := Ix (fark (b.x) (a.x - a.w) (a.x + a.w))) rfl rfl rfl (cl_value (fst := []) (cap := []) (vs := [Ix (b.x), Ix (a.x - a.w), Ix (a.x + a.w)]) (all := [Ix (b.x), Ix (a.x - a.w), Ix (a.x + a.w)]) tf117 rfl rfl rfl) (fun w hw => ?_) ?_
    ·obtain ⟨β1, sb, kn, hw1, back⟩ := St.frame_all hw
     exact (far5_ok β1 w hw1 (b.x) (a.x - a.w) (a.x + a.w) (by omega) (by omega) (by omega)).mono (fun e w' ⟨he, hw'⟩ => ⟨he, st_mask [true, true, true, true] rfl (back _ _ hw')⟩)
    refine q_val (v := .pointer (some ⟨b2, 1, none⟩)) rfl rfl rfl (e_fieldPt (b := b2) (o := 0) rfl tf6) ?_
    refine q_val (v := .pointer (some ⟨b2, 2, none⟩)) rfl rfl rfl (e_fieldPt (b := b2) (o := 1) rfl tf8) ?_
    refine q_val (v := Ix (b.y)) rfl rfl rfl (e_load1 tf2 (v := Ix (b.y)) rfl (k_pt 2 (cs := (bC b)) (vs := [Ix (b.y)]) rfl rfl)) ?_
    refine q_val (v := .pointer (some ⟨b7, 1, none⟩)) rfl rfl rfl (e_fieldPt (b := b7) (o := 0) rfl tf8) ?_
    refine q_val (v := Ix (a.y - a.h)) rfl rfl rfl (e_load1 tf2 (v := Ix (a.y - a.h)) rfl (k_pt 1 (cs := #[Ix (a.x - a.w), Ix (a.y - a.h)]) (vs := [Ix (a.y - a.h)]) rfl rfl)) ?_
    refine q_val (v := .pointer (some ⟨b8, 1, none⟩)) rfl rfl rfl (e_fieldPt (b := b8) (o := 0) rfl tf8) ?_
    refine q_val (v := Ix (a.y + a.h)) rfl rfl rfl (e_load1 tf2 (v := Ix (a.y + a.h)) rfl (k_pt 0 (cs := #[Ix (a.x + a.w), Ix (a.y + a.h)]) (vs := [Ix (a.y + a.h)]) rfl rfl)) ?_
    refine q_call (v := Ix (fark (b.y) (a.y - a.h) (a.y + a.h))) rfl rfl rfl (cl_value (fst := []) (cap := []) (vs := [Ix (b.y), Ix (a.y - a.h), Ix (a.y + a.h)]) (all := [Ix (b.y), Ix (a.y - a.h), Ix (a.y + a.h)]) tf117 rfl rfl rfl) (fun w hw => ?_) ?_
    ·obtain ⟨β1, sb, kn, hw1, back⟩ := St.frame_all hw
     exact (far5_ok β1 w hw1 (b.y) (a.y - a.h) (a.y + a.h) (by omega) (by omega) (by omega)).mono (fun e w' ⟨he, hw'⟩ => ⟨he, st_mask [true, true, true, true] rfl (back _ _ hw')⟩)
    refine q_val (v := Ix (fark (b.x) (a.x - a.w) (a.x + a.w))) rfl rfl rfl (e_assign) ?_
    refine q_val (v := Ix (fark (b.y) (a.y - a.h) (a.y + a.h))) rfl rfl rfl (e_assign) ?_
    refine q_nil ?_
    refine f_then ?_
    refine c_seq ?_
    refine c_region ?_
    refine l_val (v := Ix (fark (b.x) (a.x - a.w) (a.x + a.w))) rfl rfl rfl (e_move) ?_
    refine l_val (v := Ix (fark (b.x) (a.x - a.w) (a.x + a.w))) rfl rfl rfl (e_move) ?_
    refine l_val (v := Ix ((fark (b.x) (a.x - a.w) (a.x + a.w)) * (fark (b.x) (a.x - a.w) (a.x + a.w)))) rfl rfl rfl (e_mul (a := (fark (b.x) (a.x - a.w) (a.x + a.w))) (b := (fark (b.x) (a.x - a.w) (a.x + a.w))) rfl rfl (i64w (by omega))) ?_
    refine l_val (v := Ix (fark (b.y) (a.y - a.h) (a.y + a.h))) rfl rfl rfl (e_move) ?_
    refine l_val (v := Ix (fark (b.y) (a.y - a.h) (a.y + a.h))) rfl rfl rfl (e_move) ?_
    refine l_val (v := Ix ((fark (b.y) (a.y - a.h) (a.y + a.h)) * (fark (b.y) (a.y - a.h) (a.y + a.h)))) rfl rfl rfl (e_mul (a := (fark (b.y) (a.y - a.h) (a.y + a.h))) (b := (fark (b.y) (a.y - a.h) (a.y + a.h))) rfl rfl (i64w (by omega))) ?_
    refine l_val (v := Ix (((fark (b.x) (a.x - a.w) (a.x + a.w)) * (fark (b.x) (a.x - a.w) (a.x + a.w))) + ((fark (b.y) (a.y - a.h) (a.y + a.h)) * (fark (b.y) (a.y - a.h) (a.y + a.h))))) rfl rfl rfl (e_add (a := ((fark (b.x) (a.x - a.w) (a.x + a.w)) * (fark (b.x) (a.x - a.w) (a.x + a.w)))) (b := ((fark (b.y) (a.y - a.h) (a.y + a.h)) * (fark (b.y) (a.y - a.h) (a.y + a.h)))) rfl rfl (i64w (by omega))) ?_
    refine l_val (v := .pointer (some ⟨b2, 5, none⟩)) rfl rfl rfl (e_fieldPt (b := b2) (o := 0) rfl tf10) ?_
    refine l_val (v := Ix (b.w)) rfl rfl rfl (e_load1 tf2 (v := Ix (b.w)) rfl (k_pt 2 (cs := (bC b)) (vs := [Ix (b.w)]) rfl rfl)) ?_
    refine l_val (v := .pointer (some ⟨b2, 5, none⟩)) rfl rfl rfl (e_fieldPt (b := b2) (o := 0) rfl tf10) ?_
    refine l_val (v := Ix (b.w)) rfl rfl rfl (e_load1 tf2 (v := Ix (b.w)) rfl (k_pt 2 (cs := (bC b)) (vs := [Ix (b.w)]) rfl rfl)) ?_
    refine l_val (v := Ix ((b.w) * (b.w))) rfl rfl rfl (e_mul (a := (b.w)) (b := (b.w)) rfl rfl (i64w (by omega))) ?_
    refine l_val (v := Ix ((((fark (b.x) (a.x - a.w) (a.x + a.w)) * (fark (b.x) (a.x - a.w) (a.x + a.w))) + ((fark (b.y) (a.y - a.h) (a.y + a.h)) * (fark (b.y) (a.y - a.h) (a.y + a.h)))) - ((b.w) * (b.w)))) rfl rfl rfl (e_sub (a := (((fark (b.x) (a.x - a.w) (a.x + a.w)) * (fark (b.x) (a.x - a.w) (a.x + a.w))) + ((fark (b.y) (a.y - a.h) (a.y + a.h)) * (fark (b.y) (a.y - a.h) (a.y + a.h))))) (b := ((b.w) * (b.w))) rfl rfl (i64w (by omega))) ?_
    refine l_val (v := Ix ((((fark (b.x) (a.x - a.w) (a.x + a.w)) * (fark (b.x) (a.x - a.w) (a.x + a.w))) + ((fark (b.y) (a.y - a.h) (a.y + a.h)) * (fark (b.y) (a.y - a.h) (a.y + a.h)))) - ((b.w) * (b.w)))) rfl rfl rfl (e_assign) ?_
    refine l_nil ?_
    refine f_then ?_
    refine c_ret ?_
    refine f_then_ret ?_
    refine ret1 Tryz.results237 (v := Ix ((((fark (b.x) (a.x - a.w) (a.x + a.w)) * (fark (b.x) (a.x - a.w) (a.x + a.w))) + ((fark (b.y) (a.y - a.h) (a.y + a.h)) * (fark (b.y) (a.y - a.h) (a.y + a.h)))) - ((b.w) * (b.w)))) rfl ?_
    intro w hw
    exact ⟨congrArg (fun z : Int => Ending.returned (Ix z)) (show (((fark (b.x) (a.x - a.w) (a.x + a.w)) * (fark (b.x) (a.x - a.w) (a.x + a.w))) + ((fark (b.y) (a.y - a.h) (a.y + a.h)) * (fark (b.y) (a.y - a.h) (a.y + a.h)))) - ((b.w) * (b.w)) = far5 a b from sq5_ft hc6 hc9 hga hgb), st_mask [false, false, false, false] rfl hw⟩
   ·
    refine c_skip ?_
    refine f_then ?_
    refine c_seq ?_
    refine c_region ?_
    refine l_val (v := .agg (bC b)) rfl rfl rfl (e_load tf22 (cs := (bodyE b)) rfl (k_pt 2 (cs := (bC b)) (vs := (bodyE b)) rfl rfl) rfl) ?_
    refine l_call rfl rfl rfl (cl_value (fst := []) (cap := []) (vs := [.agg (bC b)]) (all := [.agg (bC b)]) tf116 rfl rfl rfl) ?_
    intro w hw
    obtain ⟨β1, sb, kn, hw1, back⟩ := St.frame_all hw
    refine (bounds5_ok β1 w hw1 b hb).mono ?_
    rintro e w' ⟨rfl, hw'⟩
    refine ⟨_, rfl, _, back _ _ hw', ?_⟩
    clear hw hw1 hw' back kn sb
    refine l_val (v := .tuple #[.agg #[Ix (b.x - b.w), Ix (b.y - b.h)], .agg #[Ix (b.x + b.w), Ix (b.y + b.h)]]) rfl rfl rfl (e_move) ?_
    refine l_val (v := .agg #[Ix (b.x - b.w), Ix (b.y - b.h)]) rfl rfl rfl (e_extract (vs := #[.agg #[Ix (b.x - b.w), Ix (b.y - b.h)], .agg #[Ix (b.x + b.w), Ix (b.y + b.h)]]) rfl rfl) ?_
    refine l_val (v := .agg #[Ix (b.x + b.w), Ix (b.y + b.h)]) rfl rfl rfl (e_extract (vs := #[.agg #[Ix (b.x - b.w), Ix (b.y - b.h)], .agg #[Ix (b.x + b.w), Ix (b.y + b.h)]]) rfl rfl) ?_
    refine l_mv rfl rfl rfl (m_alloc tf17) ?_
    rintro _ _ ⟨b10, rfl, rfl⟩
    refine l_mv rfl rfl rfl (m_alloc tf17) ?_
    rintro _ _ ⟨b11, rfl, rfl⟩
    refine l_mu rfl rfl (m_store 1 tf15 (b := b10) (o := 0) (T := 28) (cs := #[.int .i64 (0), .int .i64 (0)]) (cs' := #[Ix (b.x - b.w), Ix (b.y - b.h)]) (v := .agg #[Ix (b.x - b.w), Ix (b.y - b.h)]) rfl rfl rfl rfl rfl rfl rfl) ?_
    refine l_mu rfl rfl (m_store 0 tf15 (b := b11) (o := 0) (T := 28) (cs := #[.int .i64 (0), .int .i64 (0)]) (cs' := #[Ix (b.x + b.w), Ix (b.y + b.h)]) (v := .agg #[Ix (b.x + b.w), Ix (b.y + b.h)]) rfl rfl rfl rfl rfl rfl rfl) ?_
    refine l_nil ?_
    refine f_then ?_
    refine c_seq ?_
    refine c_region ?_
    refine l_val (v := .pointer (some ⟨b7, 0, none⟩)) rfl rfl rfl (e_fieldPt (b := b7) (o := 0) rfl tf7) ?_
    refine l_val (v := Ix (a.x - a.w)) rfl rfl rfl (e_load1 tf2 (v := Ix (a.x - a.w)) rfl (k_pt 3 (cs := #[Ix (a.x - a.w), Ix (a.y - a.h)]) (vs := [Ix (a.x - a.w)]) rfl rfl)) ?_
    refine l_val (v := .pointer (some ⟨b10, 0, none⟩)) rfl rfl rfl (e_fieldPt (b := b10) (o := 0) rfl tf7) ?_
    refine l_val (v := Ix (b.x - b.w)) rfl rfl rfl (e_load1 tf2 (v := Ix (b.x - b.w)) rfl (k_pt 1 (cs := #[Ix (b.x - b.w), Ix (b.y - b.h)]) (vs := [Ix (b.x - b.w)]) rfl rfl)) ?_
    refine l_val (v := Ix (max (a.x - a.w) (b.x - b.w))) rfl rfl rfl (e_max (a := (a.x - a.w)) (b := (b.x - b.w)) rfl rfl) ?_
    refine l_val (v := .pointer (some ⟨b8, 0, none⟩)) rfl rfl rfl (e_fieldPt (b := b8) (o := 0) rfl tf7) ?_
    refine l_val (v := Ix (a.x + a.w)) rfl rfl rfl (e_load1 tf2 (v := Ix (a.x + a.w)) rfl (k_pt 2 (cs := #[Ix (a.x + a.w), Ix (a.y + a.h)]) (vs := [Ix (a.x + a.w)]) rfl rfl)) ?_
    refine l_val (v := .pointer (some ⟨b11, 0, none⟩)) rfl rfl rfl (e_fieldPt (b := b11) (o := 0) rfl tf7) ?_
    refine l_val (v := Ix (b.x + b.w)) rfl rfl rfl (e_load1 tf2 (v := Ix (b.x + b.w)) rfl (k_pt 0 (cs := #[Ix (b.x + b.w), Ix (b.y + b.h)]) (vs := [Ix (b.x + b.w)]) rfl rfl)) ?_
    refine l_val (v := Ix (min (a.x + a.w) (b.x + b.w))) rfl rfl rfl (e_min (a := (a.x + a.w)) (b := (b.x + b.w)) rfl rfl) ?_
    refine l_val (v := Ix ((max (a.x - a.w) (b.x - b.w)) - (min (a.x + a.w) (b.x + b.w)))) rfl rfl rfl (e_sub (a := (max (a.x - a.w) (b.x - b.w))) (b := (min (a.x + a.w) (b.x + b.w))) rfl rfl (i64w (by omega))) ?_
    refine l_val (v := Ix ((max (a.x - a.w) (b.x - b.w)) - (min (a.x + a.w) (b.x + b.w)))) rfl rfl rfl (e_assign) ?_
    refine l_nil ?_
    refine f_then ?_
    refine c_seq ?_
    refine c_region ?_
    refine l_val (v := .pointer (some ⟨b7, 1, none⟩)) rfl rfl rfl (e_fieldPt (b := b7) (o := 0) rfl tf8) ?_
    refine l_val (v := Ix (a.y - a.h)) rfl rfl rfl (e_load1 tf2 (v := Ix (a.y - a.h)) rfl (k_pt 3 (cs := #[Ix (a.x - a.w), Ix (a.y - a.h)]) (vs := [Ix (a.y - a.h)]) rfl rfl)) ?_
    refine l_val (v := .pointer (some ⟨b10, 1, none⟩)) rfl rfl rfl (e_fieldPt (b := b10) (o := 0) rfl tf8) ?_
    refine l_val (v := Ix (b.y - b.h)) rfl rfl rfl (e_load1 tf2 (v := Ix (b.y - b.h)) rfl (k_pt 1 (cs := #[Ix (b.x - b.w), Ix (b.y - b.h)]) (vs := [Ix (b.y - b.h)]) rfl rfl)) ?_
    refine l_val (v := Ix (max (a.y - a.h) (b.y - b.h))) rfl rfl rfl (e_max (a := (a.y - a.h)) (b := (b.y - b.h)) rfl rfl) ?_
    refine l_val (v := .pointer (some ⟨b8, 1, none⟩)) rfl rfl rfl (e_fieldPt (b := b8) (o := 0) rfl tf8) ?_
    refine l_val (v := Ix (a.y + a.h)) rfl rfl rfl (e_load1 tf2 (v := Ix (a.y + a.h)) rfl (k_pt 2 (cs := #[Ix (a.x + a.w), Ix (a.y + a.h)]) (vs := [Ix (a.y + a.h)]) rfl rfl)) ?_
    refine l_val (v := .pointer (some ⟨b11, 1, none⟩)) rfl rfl rfl (e_fieldPt (b := b11) (o := 0) rfl tf8) ?_
    refine l_val (v := Ix (b.y + b.h)) rfl rfl rfl (e_load1 tf2 (v := Ix (b.y + b.h)) rfl (k_pt 0 (cs := #[Ix (b.x + b.w), Ix (b.y + b.h)]) (vs := [Ix (b.y + b.h)]) rfl rfl)) ?_
    refine l_val (v := Ix (min (a.y + a.h) (b.y + b.h))) rfl rfl rfl (e_min (a := (a.y + a.h)) (b := (b.y + b.h)) rfl rfl) ?_
    refine l_val (v := Ix ((max (a.y - a.h) (b.y - b.h)) - (min (a.y + a.h) (b.y + b.h)))) rfl rfl rfl (e_sub (a := (max (a.y - a.h) (b.y - b.h))) (b := (min (a.y + a.h) (b.y + b.h))) rfl rfl (i64w (by omega))) ?_
    refine l_val (v := Ix ((max (a.y - a.h) (b.y - b.h)) - (min (a.y + a.h) (b.y + b.h)))) rfl rfl rfl (e_assign) ?_
    refine l_nil ?_
    refine f_then ?_
    refine c_seq ?_
    refine c_region ?_
    refine l_val (v := Ix ((max (a.x - a.w) (b.x - b.w)) - (min (a.x + a.w) (b.x + b.w)))) rfl rfl rfl (e_move) ?_
    refine l_val (v := Ix ((max (a.y - a.h) (b.y - b.h)) - (min (a.y + a.h) (b.y + b.h)))) rfl rfl rfl (e_move) ?_
    refine l_val (v := Ix (max ((max (a.x - a.w) (b.x - b.w)) - (min (a.x + a.w) (b.x + b.w))) ((max (a.y - a.h) (b.y - b.h)) - (min (a.y + a.h) (b.y + b.h))))) rfl rfl rfl (e_max (a := ((max (a.x - a.w) (b.x - b.w)) - (min (a.x + a.w) (b.x + b.w)))) (b := ((max (a.y - a.h) (b.y - b.h)) - (min (a.y + a.h) (b.y + b.h)))) rfl rfl) ?_
    refine l_val (v := Ix (max ((max (a.x - a.w) (b.x - b.w)) - (min (a.x + a.w) (b.x + b.w))) ((max (a.y - a.h) (b.y - b.h)) - (min (a.y + a.h) (b.y + b.h))))) rfl rfl rfl (e_assign) ?_
    refine l_nil ?_
    refine f_then ?_
    refine c_ret ?_
    refine ret1 Tryz.results237 (v := Ix (max ((max (a.x - a.w) (b.x - b.w)) - (min (a.x + a.w) (b.x + b.w))) ((max (a.y - a.h) (b.y - b.h)) - (min (a.y + a.h) (b.y + b.h))))) rfl ?_
    intro w hw
    exact ⟨congrArg (fun z : Int => Ending.returned (Ix z)) (show max ((max (a.x - a.w) (b.x - b.w)) - (min (a.x + a.w) (b.x + b.w))) ((max (a.y - a.h) (b.y - b.h)) - (min (a.y + a.h) (b.y + b.h))) = far5 a b from sq5_ff hc6 hc9 hga hgb), st_mask [false, false, false, false, false, false] rfl hw⟩
set_option maxHeartbeats 4000000 in
theorem over5_ok (β : Base) (w : World) (hw : St β [] w) (a b : KB) : Calls Tryz.prog 212 #[.agg (bC a), .agg (bC b)] w fun r w' => r = .returned (.bool (decide (over a b))) ∧ St β [] w' := by
 refine enter (n := 17) Tryz.func212 rfl Tryz.ntmps212 rfl ?_ hw
 refine c_seq ?_
 refine c_region ?_
 refine l_mv rfl rfl rfl (m_box (v := .agg (bC a)) rfl) ?_
 rintro _ _ ⟨b1, rfl, rfl⟩
 refine l_mv rfl rfl rfl (m_box (v := .agg (bC b)) rfl) ?_
 rintro _ _ ⟨b2, rfl, rfl⟩
 refine l_val (v := .bool false) rfl rfl rfl (e_assign) ?_
 refine l_nil ?_
 refine f_then ?_
 refine c_seq ?_
 refine c_region ?_
 refine l_val (v := .agg (bC a)) rfl rfl rfl (e_load tf22 (cs := (bodyE a)) rfl (k_pt 1 (cs := (bC a)) (vs := (bodyE a)) rfl rfl) rfl) ?_
 refine l_call rfl rfl rfl (cl_value (fst := []) (cap := []) (vs := [.agg (bC a)]) (all := [.agg (bC a)]) tf115 rfl rfl rfl) ?_
 intro w hw
 obtain ⟨β1, sb, kn, hw1, back⟩ := St.frame_all hw
 refine (valid5_ok β1 w hw1 a).mono ?_
 rintro e w' ⟨rfl, hw'⟩
 refine ⟨_, rfl, _, back _ _ hw', ?_⟩
 clear hw hw1 hw' back kn sb
 refine l_val (v := .bool (decide (okB a))) rfl rfl rfl (e_move) ?_
 refine l_split (s := 7) (p := okB a) rfl (fun hg3 => ?_) (fun hg3 => ?_)
 ·
  have hoa := hg3
  refine g_val (v := .agg (bC b)) rfl rfl rfl rfl rfl (e_load tf22 (cs := (bodyE b)) rfl (k_pt 0 (cs := (bC b)) (vs := (bodyE b)) rfl rfl) rfl) ?_
  refine g_call rfl rfl rfl rfl rfl (cl_value (fst := []) (cap := []) (vs := [.agg (bC b)]) (all := [.agg (bC b)]) tf115 rfl rfl rfl) ?_
  intro w hw
  obtain ⟨β1, sb, kn, hw1, back⟩ := St.frame_all hw
  refine (valid5_ok β1 w hw1 b).mono ?_
  rintro e w' ⟨rfl, hw'⟩
  refine ⟨_, rfl, _, back _ _ hw', ?_⟩
  clear hw hw1 hw' back kn sb
  refine l_val (v := .bool (decide (okB b))) rfl rfl rfl (e_pick_t rfl) ?_
  refine l_val (v := .bool (decide (okB b))) rfl rfl rfl (e_move) ?_
  refine l_split (s := 11) (p := okB b) rfl (fun hg4 => ?_) (fun hg4 => ?_)
  ·
   have hob := hg4
   refine g_val (v := .agg (bC a)) rfl rfl rfl rfl rfl (e_load tf22 (cs := (bodyE a)) rfl (k_pt 1 (cs := (bC a)) (vs := (bodyE a)) rfl rfl) rfl) ?_
   refine g_val (v := .agg (bC b)) rfl rfl rfl rfl rfl (e_load tf22 (cs := (bodyE b)) rfl (k_pt 0 (cs := (bC b)) (vs := (bodyE b)) rfl rfl) rfl) ?_
   refine g_call rfl rfl rfl rfl rfl (cl_value (fst := []) (cap := []) (vs := [.agg (bC a), .agg (bC b)]) (all := [.agg (bC a), .agg (bC b)]) tf118 rfl rfl rfl) ?_
   intro w hw
   obtain ⟨β1, sb, kn, hw1, back⟩ := St.frame_all hw
   refine (square_ok β1 w hw1 a b hoa hob).mono ?_
   rintro e w' ⟨rfl, hw'⟩
   refine ⟨_, rfl, _, back _ _ hw', ?_⟩
   clear hw hw1 hw' back kn sb
   refine g_val (v := .bool (decide ((far5 a b) < (0 : Int)))) rfl rfl rfl rfl rfl (e_lss (a := (far5 a b)) (b := (0 : Int)) rfl rfl) ?_
   refine l_val (v := .bool (decide ((far5 a b) < (0 : Int)))) rfl rfl rfl (e_pick_t rfl) ?_
   refine l_val (v := .bool (decide ((far5 a b) < (0 : Int)))) rfl rfl rfl (e_assign) ?_
   refine l_nil ?_
   refine f_then ?_
   refine c_ret ?_
   refine ret1 Tryz.results212 (v := .bool (decide ((far5 a b) < (0 : Int)))) rfl ?_
   intro w hw
   exact ⟨congrArg (fun b : Bool => Ending.returned (.bool b)) (decide_eq_decide.2 ⟨fun h => ⟨hoa, hob, (far5_neg hoa hob).1 h⟩, fun h => (far5_neg hoa hob).2 h.2.2⟩), st_mask [false, false] rfl hw⟩
  ·
   have hob := hg4
   refine l_skip rfl rfl rfl rfl rfl rfl ?_
   refine l_skip rfl rfl rfl rfl rfl rfl ?_
   refine l_skip rfl rfl rfl rfl rfl rfl ?_
   refine l_skip rfl rfl rfl rfl rfl rfl ?_
   refine l_val (v := .bool false) rfl rfl rfl (e_pick_f rfl) ?_
   refine l_val (v := .bool false) rfl rfl rfl (e_assign) ?_
   refine l_nil ?_
   refine f_then ?_
   refine c_ret ?_
   refine ret1 Tryz.results212 (v := .bool false) rfl ?_
   intro w hw
   exact ⟨congrArg (fun b : Bool => Ending.returned (.bool b)) (decide_eq_false fun h => hob h.2.1).symm, st_mask [false, false] rfl hw⟩
 ·
  have hoa := hg3
  refine l_skip rfl rfl rfl rfl rfl rfl ?_
  refine l_skip rfl rfl rfl rfl rfl rfl ?_
  refine l_val (v := .bool false) rfl rfl rfl (e_pick_f rfl) ?_
  refine l_val (v := .bool false) rfl rfl rfl (e_move) ?_
  refine l_skip rfl rfl rfl rfl rfl rfl ?_
  refine l_skip rfl rfl rfl rfl rfl rfl ?_
  refine l_skip rfl rfl rfl rfl rfl rfl ?_
  refine l_skip rfl rfl rfl rfl rfl rfl ?_
  refine l_val (v := .bool false) rfl rfl rfl (e_pick_f rfl) ?_
  refine l_val (v := .bool false) rfl rfl rfl (e_assign) ?_
  refine l_nil ?_
  refine f_then ?_
  refine c_ret ?_
  refine ret1 Tryz.results212 (v := .bool false) rfl ?_
  intro w hw
  exact ⟨congrArg (fun b : Bool => Ending.returned (.bool b)) (decide_eq_false fun h => hoa h.1).symm, st_mask [false, false] rfl hw⟩
set_option maxHeartbeats 4000000 in
theorem find7_ok (β : Base) (w : World) (hw : St β [] w) (v : Value) (xs : List KB) (hs : Sl KBR β.heap v xs) (i : Int) : Calls Tryz.prog 70 #[v, Ix i] w fun r w' => r = .returned (Ix (idxI (fun y : KB => decide (y.id = i)) xs)) ∧ St β [] w' := by
 obtain ⟨va, vc, rfl, vl, vm, ve⟩ := hs.get
 refine enter (n := 20) Tryz.func70 rfl Tryz.ntmps70 rfl ?_ hw
 refine c_seq ?_
 refine c_region ?_
 refine l_val (v := .int .i64 (0)) rfl rfl rfl (e_assign) ?_
 refine l_nil ?_
 refine f_then ?_
 refine c_seq ?_
 refine c_seq ?_
 refine c_region ?_
 refine l_val (v := .int .i64 (0)) rfl rfl rfl (e_assign) ?_
 refine l_nil ?_
 refine f_then ?_
 refine c_block ?_
 refine c_loop (fun (k : Nat) (f : Fm) (L : List Res) => (f 0 = .slice va (xs.length) (vc) ∧ f 1 = Ix (i) ∧ f 5 = Nx (k)) ∧ L = [] ∧ (k ≤ xs.length ∧ ∀ y ∈ xs.take k, decide (y.id = i) = false)) (fun (k : Nat) => xs.length - k) 0 ?_ ?_
 ·exact ⟨⟨rfl, rfl, rfl⟩, rfl, ⟨by omega, fun y hy => by simp at hy⟩⟩
 rintro k f0 L0 ⟨⟨hs0, hs1, hs5⟩, hL, ⟨hk, hp⟩⟩
 subst L0
 refine rebase (d := 0) hs0 ?_
 refine rebase (d := 1) hs1 ?_
 refine rebase (d := 5) hs5 ?_
 clear hs0 hs1 hs5
 refine c_seq ?_
 refine c_seq ?_
 refine c_region ?_
 refine l_val (v := Nx (k)) rfl rfl rfl (e_move) ?_
 refine l_val (v := .slice va (xs.length) (vc)) rfl rfl rfl (e_move) ?_
 refine l_val (v := Nx (xs.length)) rfl rfl rfl (e_len (a := va) (n := xs.length) (c := vc) rfl tf40) ?_
 refine l_val (v := .bool (decide (((k : Nat) : Int) < ((xs.length : Nat) : Int)))) rfl rfl rfl (e_lss (a := ((k : Nat) : Int)) (b := ((xs.length : Nat) : Int)) rfl rfl) ?_
 refine l_nil ?_
 refine f_then ?_
 refine c_if (((k : Nat) : Int) < ((xs.length : Nat) : Int)) rfl (fun hc1 => ?_) (fun hc1 => ?_)
 ·
  refine c_skip ?_
  refine f_then ?_
  refine c_seq ?_
  refine c_block ?_
  refine c_seq ?_
  refine c_region ?_
  refine l_val (v := .slice va (xs.length) (vc)) rfl rfl rfl (e_move) ?_
  refine l_val (v := Nx (k)) rfl rfl rfl (e_move) ?_
  obtain ⟨x2, hx3⟩ : ∃ x_, (xs)[k]? = some x_ := ⟨_, List.getElem?_eq_getElem (by omega)⟩
  obtain ⟨ha4, cs5, hc6, rfl⟩ := ve _ _ hx3
  refine l_val (v := .pointer (some ((ba va).add (k * 9)))) rfl rfl rfl (e_indexAddr (k := k) (len := xs.length) (cap := vc) (a := va) rfl rfl tf43 (by omega) ha4) ?_
  refine l_val (v := .pointer (some (((ba va).add (k * 9) : Addr).add 0))) rfl rfl rfl (e_fieldAddr (a := (ba va).add (k * 9)) rfl tf3) ?_
  refine l_val (v := Ix (x2.id)) rfl rfl rfl (e_load1 tf2 (v := Ix (x2.id)) rfl (Knows.imp (Knows.of_base (Cs.mono _ _) hc6) (fun _ h => Cs.sub (vs := [Ix (x2.id)]) 0 h rfl))) ?_
  refine l_val (v := Ix (i)) rfl rfl rfl (e_move) ?_
  refine l_val (v := .bool (decide ((x2.id) = (i)))) rfl rfl rfl (e_eql (a := (x2.id)) (b := (i)) rfl rfl) ?_
  refine l_nil ?_
  refine f_then ?_
  refine c_if ((x2.id) = (i)) rfl (fun hc8 => ?_) (fun hc8 => ?_)
  ·
   refine c_seq ?_
   refine c_region ?_
   refine l_val (v := Nx (k)) rfl rfl rfl (e_move) ?_
   refine l_val (v := Nx (k)) rfl rfl rfl (e_assign) ?_
   refine l_nil ?_
   refine f_then ?_
   refine c_ret ?_
   refine f_block_ret ?_
   refine f_then_ret ?_
   refine f_then_ret ?_
   refine f_block_ret ?_
   refine f_then_ret ?_
   refine ret1 Tryz.results70 (v := Nx (k)) rfl ?_
   intro w hw
   exact ⟨congrArg (fun z : Int => Ending.returned (Ix z)) (idx_found hx3 (decide_eq_true hc8) hp).symm, st_mask [] rfl hw⟩
  ·
   refine c_skip ?_
   refine f_block ?_
   refine f_then ?_
   refine c_region ?_
   refine l_val (v := Nx (k)) rfl rfl rfl (e_move) ?_
   refine l_val (v := Nx (k + 1)) rfl rfl rfl (e_add (a := ((k : Nat) : Int)) (b := (1 : Int)) rfl rfl (i64n (by omega) (by omega))) ?_
   refine l_val (v := Nx (k + 1)) rfl rfl rfl (e_assign) ?_
   refine l_nil ?_
   exact f_cut ⟨k + 1, ⟨⟨rfl, rfl, rfl⟩, rfl, ⟨by omega, idx_next hx3 (decide_eq_false hc8) hp⟩⟩, (show xs.length - (k + 1) < xs.length - k from by omega)⟩
 ·
  refine c_exit ?_
  refine f_then_exit ?_
  refine f_then_exit ?_
  refine f_exit ?_
  refine f_then ?_
  refine c_seq ?_
  refine c_region ?_
  refine l_val (v := .int .i64 (-1)) rfl rfl rfl (e_assign) ?_
  refine l_nil ?_
  refine f_then ?_
  refine c_ret ?_
  refine ret1 Tryz.results70 (v := .int .i64 (-1)) rfl ?_
  intro w hw
  exact ⟨congrArg (fun z : Int => Ending.returned (Ix z)) (idx_none (by omega) hp).symm, st_mask [] rfl hw⟩
set_option maxHeartbeats 4000000 in
theorem pull7_ok (β : Base) (w : World) (hw : St β [] w) (x y : Int) : Calls Tryz.prog 115 #[.agg #[Ix x, Ix y]] w fun r w' => r = .returned (.bool (decide (okV x y))) ∧ St β [] w' := by
 refine enter (n := 21) Tryz.func115 rfl Tryz.ntmps115 rfl ?_ hw
 refine c_seq ?_
 refine c_region ?_
 refine l_mv rfl rfl rfl (m_box (v := .agg #[Ix (x), Ix (y)]) rfl) ?_
 rintro _ _ ⟨b1, rfl, rfl⟩
 refine l_val (v := .bool false) rfl rfl rfl (e_assign) ?_
 refine l_nil ?_
 refine f_then ?_
 refine c_seq ?_
 refine c_region ?_
 refine l_val (v := .pointer (some ⟨b1, 0, none⟩)) rfl rfl rfl (e_fieldPt (b := b1) (o := 0) rfl tf7) ?_
 refine l_val (v := Ix (x)) rfl rfl rfl (e_load1 tf2 (v := Ix (x)) rfl (k_pt 0 (cs := #[Ix (x), Ix (y)]) (vs := [Ix (x)]) rfl rfl)) ?_
 refine l_val (v := .bool (decide ((-4096 : Int) ≤ (x)))) rfl rfl rfl (e_geq (a := (x)) (b := (-4096 : Int)) rfl rfl) ?_
 refine l_val (v := .bool (decide ((-4096 : Int) ≤ (x)))) rfl rfl rfl (e_move) ?_
 refine l_split (s := 6) (p := (-4096 : Int) ≤ (x)) rfl (fun hg2 => ?_) (fun hg2 => ?_)
 ·
  refine g_val (v := .pointer (some ⟨b1, 0, none⟩)) rfl rfl rfl rfl rfl (e_fieldPt (b := b1) (o := 0) rfl tf7) ?_
  refine g_val (v := Ix (x)) rfl rfl rfl rfl rfl (e_load1 tf2 (v := Ix (x)) rfl (k_pt 0 (cs := #[Ix (x), Ix (y)]) (vs := [Ix (x)]) rfl rfl)) ?_
  refine g_val (v := .bool (decide ((x) ≤ (4096 : Int)))) rfl rfl rfl rfl rfl (e_leq (a := (x)) (b := (4096 : Int)) rfl rfl) ?_
  refine l_val (v := .bool (decide ((x) ≤ (4096 : Int)))) rfl rfl rfl (e_pick_t rfl) ?_
  refine l_val (v := .bool (decide ((x) ≤ (4096 : Int)))) rfl rfl rfl (e_move) ?_
  refine l_split (s := 11) (p := (x) ≤ (4096 : Int)) rfl (fun hg3 => ?_) (fun hg3 => ?_)
  ·
   refine g_val (v := .pointer (some ⟨b1, 1, none⟩)) rfl rfl rfl rfl rfl (e_fieldPt (b := b1) (o := 0) rfl tf8) ?_
   refine g_val (v := Ix (y)) rfl rfl rfl rfl rfl (e_load1 tf2 (v := Ix (y)) rfl (k_pt 0 (cs := #[Ix (x), Ix (y)]) (vs := [Ix (y)]) rfl rfl)) ?_
   refine g_val (v := .bool (decide ((-4096 : Int) ≤ (y)))) rfl rfl rfl rfl rfl (e_geq (a := (y)) (b := (-4096 : Int)) rfl rfl) ?_
   refine l_val (v := .bool (decide ((-4096 : Int) ≤ (y)))) rfl rfl rfl (e_pick_t rfl) ?_
   refine l_val (v := .bool (decide ((-4096 : Int) ≤ (y)))) rfl rfl rfl (e_move) ?_
   refine l_split (s := 16) (p := (-4096 : Int) ≤ (y)) rfl (fun hg4 => ?_) (fun hg4 => ?_)
   ·
    refine g_val (v := .pointer (some ⟨b1, 1, none⟩)) rfl rfl rfl rfl rfl (e_fieldPt (b := b1) (o := 0) rfl tf8) ?_
    refine g_val (v := Ix (y)) rfl rfl rfl rfl rfl (e_load1 tf2 (v := Ix (y)) rfl (k_pt 0 (cs := #[Ix (x), Ix (y)]) (vs := [Ix (y)]) rfl rfl)) ?_
    refine g_val (v := .bool (decide ((y) ≤ (4096 : Int)))) rfl rfl rfl rfl rfl (e_leq (a := (y)) (b := (4096 : Int)) rfl rfl) ?_
    refine l_val (v := .bool (decide ((y) ≤ (4096 : Int)))) rfl rfl rfl (e_pick_t rfl) ?_
    refine l_val (v := .bool (decide ((y) ≤ (4096 : Int)))) rfl rfl rfl (e_assign) ?_
    refine l_nil ?_
    refine f_then ?_
    refine c_ret ?_
    refine ret1 Tryz.results115 (v := .bool (decide ((y) ≤ (4096 : Int)))) rfl ?_
    intro w hw
    exact ⟨congrArg (fun b : Bool => Ending.returned (.bool b)) (show decide ((y) ≤ (4096 : Int)) = _ by first | (rw [eq_comm, decide_eq_false_iff_not]; unfold okV; omega) | exact decide_eq_decide.2 (by unfold okV; omega)), st_mask [false] rfl hw⟩
   ·
    refine l_skip rfl rfl rfl rfl rfl rfl ?_
    refine l_skip rfl rfl rfl rfl rfl rfl ?_
    refine l_skip rfl rfl rfl rfl rfl rfl ?_
    refine l_val (v := .bool false) rfl rfl rfl (e_pick_f rfl) ?_
    refine l_val (v := .bool false) rfl rfl rfl (e_assign) ?_
    refine l_nil ?_
    refine f_then ?_
    refine c_ret ?_
    refine ret1 Tryz.results115 (v := .bool false) rfl ?_
    intro w hw
    exact ⟨congrArg (fun b : Bool => Ending.returned (.bool b)) (show false = _ by first | (rw [eq_comm, decide_eq_false_iff_not]; unfold okV; omega) | exact decide_eq_decide.2 (by unfold okV; omega)), st_mask [false] rfl hw⟩
  ·
   refine l_skip rfl rfl rfl rfl rfl rfl ?_
   refine l_skip rfl rfl rfl rfl rfl rfl ?_
   refine l_skip rfl rfl rfl rfl rfl rfl ?_
   refine l_val (v := .bool false) rfl rfl rfl (e_pick_f rfl) ?_
   refine l_val (v := .bool false) rfl rfl rfl (e_move) ?_
   refine l_skip rfl rfl rfl rfl rfl rfl ?_
   refine l_skip rfl rfl rfl rfl rfl rfl ?_
   refine l_skip rfl rfl rfl rfl rfl rfl ?_
   refine l_val (v := .bool false) rfl rfl rfl (e_pick_f rfl) ?_
   refine l_val (v := .bool false) rfl rfl rfl (e_assign) ?_
   refine l_nil ?_
   refine f_then ?_
   refine c_ret ?_
   refine ret1 Tryz.results115 (v := .bool false) rfl ?_
   intro w hw
   exact ⟨congrArg (fun b : Bool => Ending.returned (.bool b)) (show false = _ by first | (rw [eq_comm, decide_eq_false_iff_not]; unfold okV; omega) | exact decide_eq_decide.2 (by unfold okV; omega)), st_mask [false] rfl hw⟩
 ·
  refine l_skip rfl rfl rfl rfl rfl rfl ?_
  refine l_skip rfl rfl rfl rfl rfl rfl ?_
  refine l_skip rfl rfl rfl rfl rfl rfl ?_
  refine l_val (v := .bool false) rfl rfl rfl (e_pick_f rfl) ?_
  refine l_val (v := .bool false) rfl rfl rfl (e_move) ?_
  refine l_skip rfl rfl rfl rfl rfl rfl ?_
  refine l_skip rfl rfl rfl rfl rfl rfl ?_
  refine l_skip rfl rfl rfl rfl rfl rfl ?_
  refine l_val (v := .bool false) rfl rfl rfl (e_pick_f rfl) ?_
  refine l_val (v := .bool false) rfl rfl rfl (e_move) ?_
  refine l_skip rfl rfl rfl rfl rfl rfl ?_
  refine l_skip rfl rfl rfl rfl rfl rfl ?_
  refine l_skip rfl rfl rfl rfl rfl rfl ?_
  refine l_val (v := .bool false) rfl rfl rfl (e_pick_f rfl) ?_
  refine l_val (v := .bool false) rfl rfl rfl (e_assign) ?_
  refine l_nil ?_
  refine f_then ?_
  refine c_ret ?_
  refine ret1 Tryz.results115 (v := .bool false) rfl ?_
  intro w hw
  exact ⟨congrArg (fun b : Bool => Ending.returned (.bool b)) (show false = _ by first | (rw [eq_comm, decide_eq_false_iff_not]; unfold okV; omega) | exact decide_eq_decide.2 (by unfold okV; omega)), st_mask [false] rfl hw⟩
theorem clamp7_ok (β : Base) (w : World) (hw : St β [] w) (x : Int) : Calls Tryz.prog 116 #[Ix x] w fun r w' => r = .returned (Ix (clampS x)) ∧ St β [] w' := by
 refine enter (n := 6) Tryz.func116 rfl Tryz.ntmps116 rfl ?_ hw
 refine c_seq ?_
 refine c_region ?_
 refine l_val (v := .int .i64 (0)) rfl rfl rfl (e_assign) ?_
 refine l_nil ?_
 refine f_then ?_
 refine c_seq ?_
 refine c_region ?_
 refine l_val (v := Ix (x)) rfl rfl rfl (e_move) ?_
 refine l_val (v := Ix (max (x) (-4096 : Int))) rfl rfl rfl (e_max (a := (x)) (b := (-4096 : Int)) rfl rfl) ?_
 refine l_val (v := Ix (min (max (x) (-4096 : Int)) (4096 : Int))) rfl rfl rfl (e_min (a := (max (x) (-4096 : Int))) (b := (4096 : Int)) rfl rfl) ?_
 refine l_val (v := Ix (min (max (x) (-4096 : Int)) (4096 : Int))) rfl rfl rfl (e_assign) ?_
 refine l_nil ?_
 refine f_then ?_
 refine c_ret ?_
 refine ret1 Tryz.results116 (v := Ix (min (max (x) (-4096 : Int)) (4096 : Int))) rfl ?_
 intro w hw
 exact ⟨congrArg Ending.returned (congrArg (Value.int .i64) (show (min (max (x) (-4096 : Int)) (4096 : Int)) = clampS x by unfold clampS; omega)), st_mask [] rfl hw⟩
set_option maxHeartbeats 4000000 in
theorem speed7_ok (β : Base) (w : World) (hw : St β [] w) (b : KB) (gx gy : Int) : Calls Tryz.prog 74 #[.agg (bC b), .agg #[Ix gx, Ix gy]] w fun r w' => r = .returned (.agg #[Ix (speedX b gx gy), Ix (speedY b gx gy)]) ∧ St β [] w' := by
 refine enter (n := 33) Tryz.func74 rfl Tryz.ntmps74 rfl ?_ hw
 refine c_seq ?_
 refine c_region ?_
 refine l_mv rfl rfl rfl (m_box (v := .agg (bC b)) rfl) ?_
 rintro _ _ ⟨b1, rfl, rfl⟩
 refine l_mv rfl rfl rfl (m_box (v := .agg #[Ix (gx), Ix (gy)]) rfl) ?_
 rintro _ _ ⟨b2, rfl, rfl⟩
 refine l_mv rfl rfl rfl (m_alloc tf17) ?_
 rintro _ _ ⟨b3, rfl, rfl⟩
 refine l_nil ?_
 refine f_then ?_
 refine c_seq ?_
 refine c_seq ?_
 refine c_region ?_
 refine l_val (v := .agg (bC b)) rfl rfl rfl (e_load tf22 (cs := (bodyE b)) rfl (k_pt 2 (cs := (bC b)) (vs := (bodyE b)) rfl rfl) rfl) ?_
 refine l_call rfl rfl rfl (cl_value (fst := []) (cap := []) (vs := [.agg (bC b)]) (all := [.agg (bC b)]) tf115 rfl rfl rfl) ?_
 intro w hw
 obtain ⟨β1, sb, kn, hw1, back⟩ := St.frame_all hw
 refine (valid5_ok β1 w hw1 b).mono ?_
 rintro e w' ⟨rfl, hw'⟩
 refine ⟨_, rfl, _, back _ _ hw', ?_⟩
 clear hw hw1 hw' back kn sb
 refine l_val (v := .bool (decide (¬ (okB b)))) rfl rfl rfl (e_not_p (p := okB b) rfl) ?_
 refine l_val (v := .bool (decide (¬ (okB b)))) rfl rfl rfl (e_move) ?_
 refine l_split (s := 8) (p := ¬ (okB b)) rfl (fun hg4 => ?_) (fun hg4 => ?_)
 ·
  refine l_skip rfl rfl rfl rfl rfl rfl ?_
  refine l_skip rfl rfl rfl rfl rfl rfl ?_
  refine l_skip rfl rfl rfl rfl rfl rfl ?_
  refine l_val (v := .bool true) rfl rfl rfl (e_pick_t rfl) ?_
  refine l_val (v := .bool true) rfl rfl rfl (e_move) ?_
  refine l_skip rfl rfl rfl rfl rfl rfl ?_
  refine l_skip rfl rfl rfl rfl rfl rfl ?_
  refine l_val (v := .bool true) rfl rfl rfl (e_pick_t rfl) ?_
  refine l_nil ?_
  refine f_then ?_
  refine c_yes rfl ?_
  refine c_seq ?_
  refine c_region ?_
  refine l_val (v := .agg #[.int .i64 (0), .int .i64 (0)]) rfl rfl rfl (e_build tf17 tf16 (vs := []) (cells := #[.int .i64 (0), .int .i64 (0)]) rfl rfl) ?_
  refine l_mu rfl rfl (m_store 0 tf15 (b := b3) (o := 0) (T := 28) (cs := #[.int .i64 (0), .int .i64 (0)]) (cs' := #[.int .i64 (0), .int .i64 (0)]) (v := .agg #[.int .i64 (0), .int .i64 (0)]) rfl rfl rfl rfl rfl rfl rfl) ?_
  refine l_nil ?_
  refine f_then ?_
  refine c_ret ?_
  refine f_then_ret ?_
  refine retG (l := [.cell 4 28]) (m := [.agg #[.int .i64 (0), .int .i64 (0)]]) (v := .agg #[.int .i64 (0), .int .i64 (0)]) Tryz.results74 ⟨rd_cell tf15 (cs := [.int .i64 (0), .int .i64 (0)]) rfl (k_pt 0 (cs := #[.int .i64 (0), .int .i64 (0)]) (vs := [.int .i64 (0), .int .i64 (0)]) rfl rfl) rfl, trivial⟩ rfl ?_
  intro w hw
  exact ⟨by rw [show speedX b gx gy = 0 from if_pos (.inr (.inl hg4)), show speedY b gx gy = 0 from if_pos (.inr (.inl hg4))], st_mask [false, false, false] rfl hw⟩
 ·
  have hob := Decidable.not_not.1 hg4
  refine g_val (v := .agg #[Ix (gx), Ix (gy)]) rfl rfl rfl rfl rfl (e_load tf15 (cs := [Ix (gx), Ix (gy)]) rfl (k_pt 1 (cs := #[Ix (gx), Ix (gy)]) (vs := [Ix (gx), Ix (gy)]) rfl rfl) rfl) ?_
  refine g_call rfl rfl rfl rfl rfl (cl_value (fst := []) (cap := []) (vs := [.agg #[Ix (gx), Ix (gy)]]) (all := [.agg #[Ix (gx), Ix (gy)]]) tf119 rfl rfl rfl) ?_
  intro w hw
  obtain ⟨β1, sb, kn, hw1, back⟩ := St.frame_all hw
  refine (pull7_ok β1 w hw1 (gx) (gy)).mono ?_
  rintro e w' ⟨rfl, hw'⟩
  refine ⟨_, rfl, _, back _ _ hw', ?_⟩
  clear hw hw1 hw' back kn sb
  refine g_val (v := .bool (decide (¬ (okV (gx) (gy))))) rfl rfl rfl rfl rfl (e_not_p (p := okV (gx) (gy)) rfl) ?_
  refine l_val (v := .bool (decide (¬ (okV (gx) (gy))))) rfl rfl rfl (e_pick_f rfl) ?_
  refine l_val (v := .bool (decide (¬ (okV (gx) (gy))))) rfl rfl rfl (e_move) ?_
  refine l_split (s := 13) (p := ¬ (okV (gx) (gy))) rfl (fun hg5 => ?_) (fun hg5 => ?_)
  ·
   refine l_skip rfl rfl rfl rfl rfl rfl ?_
   refine l_skip rfl rfl rfl rfl rfl rfl ?_
   refine l_val (v := .bool true) rfl rfl rfl (e_pick_t rfl) ?_
   refine l_nil ?_
   refine f_then ?_
   refine c_yes rfl ?_
   refine c_seq ?_
   refine c_region ?_
   refine l_val (v := .agg #[.int .i64 (0), .int .i64 (0)]) rfl rfl rfl (e_build tf17 tf16 (vs := []) (cells := #[.int .i64 (0), .int .i64 (0)]) rfl rfl) ?_
   refine l_mu rfl rfl (m_store 0 tf15 (b := b3) (o := 0) (T := 28) (cs := #[.int .i64 (0), .int .i64 (0)]) (cs' := #[.int .i64 (0), .int .i64 (0)]) (v := .agg #[.int .i64 (0), .int .i64 (0)]) rfl rfl rfl rfl rfl rfl rfl) ?_
   refine l_nil ?_
   refine f_then ?_
   refine c_ret ?_
   refine f_then_ret ?_
   refine retG (l := [.cell 4 28]) (m := [.agg #[.int .i64 (0), .int .i64 (0)]]) (v := .agg #[.int .i64 (0), .int .i64 (0)]) Tryz.results74 ⟨rd_cell tf15 (cs := [.int .i64 (0), .int .i64 (0)]) rfl (k_pt 0 (cs := #[.int .i64 (0), .int .i64 (0)]) (vs := [.int .i64 (0), .int .i64 (0)]) rfl rfl) rfl, trivial⟩ rfl ?_
   intro w hw
   exact ⟨by rw [show speedX b gx gy = 0 from if_pos (.inr (.inr hg5)), show speedY b gx gy = 0 from if_pos (.inr (.inr hg5))], st_mask [false, false, false] rfl hw⟩
  ·
   have hov := Decidable.not_not.1 hg5
   refine g_val (v := .pointer (some ⟨b1, 8, none⟩)) rfl rfl rfl rfl rfl (e_fieldPt (b := b1) (o := 0) rfl tf14) ?_
   refine g_val (v := .bool (b.fixed)) rfl rfl rfl rfl rfl (e_load1 tf13 (v := .bool (b.fixed)) rfl (k_pt 2 (cs := (bC b)) (vs := [.bool (b.fixed)]) rfl rfl)) ?_
   refine l_val (v := .bool (b.fixed)) rfl rfl rfl (e_pick_f rfl) ?_
   refine l_nil ?_
   refine f_then ?_
   refine c_ifb (b.fixed) rfl (fun hc6 => ?_) (fun hc6 => ?_)
   ·
    refine c_seq ?_
    refine c_region ?_
    refine l_val (v := .agg #[.int .i64 (0), .int .i64 (0)]) rfl rfl rfl (e_build tf17 tf16 (vs := []) (cells := #[.int .i64 (0), .int .i64 (0)]) rfl rfl) ?_
    refine l_mu rfl rfl (m_store 0 tf15 (b := b3) (o := 0) (T := 28) (cs := #[.int .i64 (0), .int .i64 (0)]) (cs' := #[.int .i64 (0), .int .i64 (0)]) (v := .agg #[.int .i64 (0), .int .i64 (0)]) rfl rfl rfl rfl rfl rfl rfl) ?_
    refine l_nil ?_
    refine f_then ?_
    refine c_ret ?_
    refine f_then_ret ?_
    refine retG (l := [.cell 4 28]) (m := [.agg #[.int .i64 (0), .int .i64 (0)]]) (v := .agg #[.int .i64 (0), .int .i64 (0)]) Tryz.results74 ⟨rd_cell tf15 (cs := [.int .i64 (0), .int .i64 (0)]) rfl (k_pt 0 (cs := #[.int .i64 (0), .int .i64 (0)]) (vs := [.int .i64 (0), .int .i64 (0)]) rfl rfl) rfl, trivial⟩ rfl ?_
    intro w hw
    exact ⟨by rw [show speedX b gx gy = 0 from if_pos (.inl hc6), show speedY b gx gy = 0 from if_pos (.inl hc6)], st_mask [false, false, false] rfl hw⟩
   ·
    refine c_skip ?_
    refine f_then ?_
    refine c_seq ?_
    have v1 := hob.2.2.2.1
    have v2 := hob.2.2.2.2.1
    have v3 := hov.1
    have v4 := hov.2.1
    have v5 := hov.2.2.1
    have v6 := hov.2.2.2
    refine c_any [⟨[], [], [0], [18], fun f => f 18 = .pointer (some ⟨b1, 3, none⟩)⟩, ⟨[0], [0], [], [19], fun f => f 19 = .pointer (some ⟨b1, 3, none⟩)⟩, ⟨[0, 1], [1], [], [20], fun f => f 20 = Ix (b.vx)⟩, ⟨[], [], [1], [21], fun f => f 21 = .pointer (some ⟨b2, 0, none⟩)⟩, ⟨[3], [3], [], [22], fun f => f 22 = Ix (gx)⟩, ⟨[0, 1, 2, 3, 4], [2, 4], [], [23], fun f => f 23 = Ix ((b.vx) + (gx))⟩, ⟨[0, 1, 2, 3, 4, 5], [5], [], [24], fun f => f 24 = Ix (clampS ((b.vx) + (gx)))⟩, ⟨[], [], [0], [25], fun f => f 25 = .pointer (some ⟨b1, 3, none⟩)⟩, ⟨[7], [7], [], [26], fun f => f 26 = .pointer (some ⟨b1, 4, none⟩)⟩, ⟨[7, 8], [8], [], [27], fun f => f 27 = Ix (b.vy)⟩, ⟨[], [], [1], [28], fun f => f 28 = .pointer (some ⟨b2, 1, none⟩)⟩, ⟨[10], [10], [], [29], fun f => f 29 = Ix (gy)⟩, ⟨[7, 8, 9, 10, 11], [9, 11], [], [30], fun f => f 30 = Ix ((b.vy) + (gy))⟩, ⟨[0, 1, 2, 3, 4, 5, 6, 7, 8, 9, 10, 11, 12], [12], [], [31], fun f => f 31 = Ix (clampS ((b.vy) + (gy)))⟩, ⟨[0, 1, 2, 3, 4, 5, 6, 7, 8, 9, 10, 11, 12, 13], [6, 13], [], [32], fun f => f 32 = .agg #[Ix (clampS ((b.vx) + (gx))), Ix (clampS ((b.vy) + (gy)))]⟩, ⟨[0, 1, 2, 3, 4, 5, 6, 7, 8, 9, 10, 11, 12, 13, 14], [14], [2], [], fun _ => True⟩] [⟨none, (some 15), [15], [], fun _ => pt b3 (.cells #[.int .i64 (0), .int .i64 (0)] 28)⟩, ⟨none, none, [4, 11], [], fun _ => pt b2 (.cells #[Ix (gx), Ix (gy)] 28)⟩, ⟨none, none, [2, 9], [], fun _ => pt b1 (.cells (bC b) 52)⟩, ⟨(some 15), none, [], [], fun _ => pt b3 (.cells #[Ix (clampS ((b.vx) + (gx))), Ix (clampS ((b.vy) + (gy)))] 28)⟩] [(2, .pointer (some ⟨b1, 0, none⟩)), (3, .pointer (some ⟨b2, 0, none⟩)), (4, .pointer (some ⟨b3, 0, none⟩))] [2] [] (by kernel_rfl) (by kernel_rfl) (by kernel_rfl) (by kernel_rfl) rfl ⟨rfl, rfl, rfl, trivial⟩ ⟨?_, ?_, ?_, ?_, ?_, ?_, ?_, ?_, ?_, ?_, ?_, ?_, ?_, ?_, ?_, ?_, trivial⟩ ?_
    ·rintro f M - ⟨i0, -⟩
     have hs2 : f 2 = .pointer (some ⟨b1, 0, none⟩) := i0
     refine ob_start (L' := M) (by rfl) (up_cons rfl hs2) ?_
     refine l_val (v := .pointer (some ⟨b1, 3, none⟩)) rfl rfl rfl (e_fieldPt (b := b1) (o := 0) rfl tf9) ?_
     refine l_nil ?_
     exact f_owes_d (up_cons rfl hs2) rfl (List.Perm.refl _)
    ·rintro f M ⟨k0, -⟩ -
     have hs18 : f 18 = .pointer (some ⟨b1, 3, none⟩) := k0
     refine ob_start (L' := M) (by rfl) (up_cons rfl hs18) ?_
     refine l_val (v := .pointer (some ⟨b1, 3, none⟩)) rfl rfl rfl (e_fieldPt (b := b1) (o := 3) rfl tf7) ?_
     refine l_nil ?_
     exact f_owes_d (up_cons rfl hs18) rfl (List.Perm.refl _)
    ·rintro f M ⟨k0, -⟩ -
     have hs19 : f 19 = .pointer (some ⟨b1, 3, none⟩) := k0
     refine ob_start (L' := pt b1 (.cells (bC b) 52) :: M) (by rfl) (up_cons rfl hs19) ?_
     refine l_val (v := Ix (b.vx)) rfl rfl rfl (e_load1 tf2 (v := Ix (b.vx)) rfl (k_pt 0 (cs := (bC b)) (vs := [Ix (b.vx)]) rfl rfl)) ?_
     refine l_nil ?_
     exact f_owes_d (up_cons rfl hs19) rfl (perm_front 0 rfl)
    ·rintro f M - ⟨i0, -⟩
     have hs3 : f 3 = .pointer (some ⟨b2, 0, none⟩) := i0
     refine ob_start (L' := M) (by rfl) (up_cons rfl hs3) ?_
     refine l_val (v := .pointer (some ⟨b2, 0, none⟩)) rfl rfl rfl (e_fieldPt (b := b2) (o := 0) rfl tf7) ?_
     refine l_nil ?_
     exact f_owes_d (up_cons rfl hs3) rfl (List.Perm.refl _)
    ·rintro f M ⟨k0, -⟩ -
     have hs21 : f 21 = .pointer (some ⟨b2, 0, none⟩) := k0
     refine ob_start (L' := pt b2 (.cells #[Ix (gx), Ix (gy)] 28) :: M) (by rfl) (up_cons rfl hs21) ?_
     refine l_val (v := Ix (gx)) rfl rfl rfl (e_load1 tf2 (v := Ix (gx)) rfl (k_pt 0 (cs := #[Ix (gx), Ix (gy)]) (vs := [Ix (gx)]) rfl rfl)) ?_
     refine l_nil ?_
     exact f_owes_d (up_cons rfl hs21) rfl (perm_front 0 rfl)
    ·rintro f M ⟨k0, k1, -⟩ -
     have hs20 : f 20 = Ix (b.vx) := k0
     have hs22 : f 22 = Ix (gx) := k1
     refine ob_start (L' := M) (by rfl) (up_cons (up_cons rfl hs20) hs22) ?_
     refine l_val (v := Ix ((b.vx) + (gx))) rfl rfl rfl (e_add (a := (b.vx)) (b := (gx)) rfl rfl (i64w (by omega))) ?_
     refine l_nil ?_
     exact f_owes_d (up_cons (up_cons rfl hs20) hs22) rfl (List.Perm.refl _)
    ·rintro f M ⟨k0, -⟩ -
     have hs23 : f 23 = Ix ((b.vx) + (gx)) := k0
     refine ob_start (L' := M) (by rfl) (up_cons rfl hs23) ?_
     refine l_call rfl rfl rfl (cl_value (fst := []) (cap := []) (vs := [Ix ((b.vx) + (gx))]) (all := [Ix ((b.vx) + (gx))]) tf120 rfl rfl rfl) ?_
     intro w hw
     obtain ⟨β1, sb, kn, hw1, back⟩ := St.frame_all hw
     refine (clamp7_ok β1 w hw1 ((b.vx) + (gx))).mono ?_
     rintro e w' ⟨rfl, hw'⟩
     refine ⟨_, rfl, _, back _ _ hw', ?_⟩
     clear hw hw1 hw' back kn sb
     refine l_nil ?_
     exact f_owes_d (up_cons rfl hs23) rfl (List.Perm.refl _)
    ·rintro f M - ⟨i0, -⟩
     have hs2 : f 2 = .pointer (some ⟨b1, 0, none⟩) := i0
     refine ob_start (L' := M) (by rfl) (up_cons rfl hs2) ?_
     refine l_val (v := .pointer (some ⟨b1, 3, none⟩)) rfl rfl rfl (e_fieldPt (b := b1) (o := 0) rfl tf9) ?_
     refine l_nil ?_
     exact f_owes_d (up_cons rfl hs2) rfl (List.Perm.refl _)
    ·rintro f M ⟨k0, -⟩ -
     have hs25 : f 25 = .pointer (some ⟨b1, 3, none⟩) := k0
     refine ob_start (L' := M) (by rfl) (up_cons rfl hs25) ?_
     refine l_val (v := .pointer (some ⟨b1, 4, none⟩)) rfl rfl rfl (e_fieldPt (b := b1) (o := 3) rfl tf8) ?_
     refine l_nil ?_
     exact f_owes_d (up_cons rfl hs25) rfl (List.Perm.refl _)
    ·rintro f M ⟨k0, -⟩ -
     have hs26 : f 26 = .pointer (some ⟨b1, 4, none⟩) := k0
     refine ob_start (L' := pt b1 (.cells (bC b) 52) :: M) (by rfl) (up_cons rfl hs26) ?_
     refine l_val (v := Ix (b.vy)) rfl rfl rfl (e_load1 tf2 (v := Ix (b.vy)) rfl (k_pt 0 (cs := (bC b)) (vs := [Ix (b.vy)]) rfl rfl)) ?_
     refine l_nil ?_
     exact f_owes_d (up_cons rfl hs26) rfl (perm_front 0 rfl)
    ·rintro f M - ⟨i0, -⟩
     have hs3 : f 3 = .pointer (some ⟨b2, 0, none⟩) := i0
     refine ob_start (L' := M) (by rfl) (up_cons rfl hs3) ?_
     refine l_val (v := .pointer (some ⟨b2, 1, none⟩)) rfl rfl rfl (e_fieldPt (b := b2) (o := 0) rfl tf8) ?_
     refine l_nil ?_
     exact f_owes_d (up_cons rfl hs3) rfl (List.Perm.refl _)
    ·rintro f M ⟨k0, -⟩ -
     have hs28 : f 28 = .pointer (some ⟨b2, 1, none⟩) := k0
     refine ob_start (L' := pt b2 (.cells #[Ix (gx), Ix (gy)] 28) :: M) (by rfl) (up_cons rfl hs28) ?_
     refine l_val (v := Ix (gy)) rfl rfl rfl (e_load1 tf2 (v := Ix (gy)) rfl (k_pt 0 (cs := #[Ix (gx), Ix (gy)]) (vs := [Ix (gy)]) rfl rfl)) ?_
     refine l_nil ?_
     exact f_owes_d (up_cons rfl hs28) rfl (perm_front 0 rfl)
    ·rintro f M ⟨k0, k1, -⟩ -
     have hs27 : f 27 = Ix (b.vy) := k0
     have hs29 : f 29 = Ix (gy) := k1
     refine ob_start (L' := M) (by rfl) (up_cons (up_cons rfl hs27) hs29) ?_
     refine l_val (v := Ix ((b.vy) + (gy))) rfl rfl rfl (e_add (a := (b.vy)) (b := (gy)) rfl rfl (i64w (by omega))) ?_
     refine l_nil ?_
     exact f_owes_d (up_cons (up_cons rfl hs27) hs29) rfl (List.Perm.refl _)
    ·rintro f M ⟨k0, -⟩ -
     have hs30 : f 30 = Ix ((b.vy) + (gy)) := k0
     refine ob_start (L' := M) (by rfl) (up_cons rfl hs30) ?_
     refine l_call rfl rfl rfl (cl_value (fst := []) (cap := []) (vs := [Ix ((b.vy) + (gy))]) (all := [Ix ((b.vy) + (gy))]) tf120 rfl rfl rfl) ?_
     intro w hw
     obtain ⟨β1, sb, kn, hw1, back⟩ := St.frame_all hw
     refine (clamp7_ok β1 w hw1 ((b.vy) + (gy))).mono ?_
     rintro e w' ⟨rfl, hw'⟩
     refine ⟨_, rfl, _, back _ _ hw', ?_⟩
     clear hw hw1 hw' back kn sb
     refine l_nil ?_
     exact f_owes_d (up_cons rfl hs30) rfl (List.Perm.refl _)
    ·rintro f M ⟨k0, k1, -⟩ -
     have hs24 : f 24 = Ix (clampS ((b.vx) + (gx))) := k0
     have hs31 : f 31 = Ix (clampS ((b.vy) + (gy))) := k1
     refine ob_start (L' := M) (by rfl) (up_cons (up_cons rfl hs24) hs31) ?_
     refine l_val (v := .agg #[Ix (clampS ((b.vx) + (gx))), Ix (clampS ((b.vy) + (gy)))]) rfl rfl rfl (e_build tf17 tf16 (vs := [(0, Ix (clampS ((b.vx) + (gx)))), (1, Ix (clampS ((b.vy) + (gy))))]) (cells := #[Ix (clampS ((b.vx) + (gx))), Ix (clampS ((b.vy) + (gy)))]) rfl rfl) ?_
     refine l_nil ?_
     exact f_owes_d (up_cons (up_cons rfl hs24) hs31) rfl (List.Perm.refl _)
    ·rintro f M ⟨k0, -⟩ ⟨i0, -⟩
     have hs4 : f 4 = .pointer (some ⟨b3, 0, none⟩) := i0
     have hs32 : f 32 = .agg #[Ix (clampS ((b.vx) + (gx))), Ix (clampS ((b.vy) + (gy)))] := k0
     refine ob_start (L' := pt b3 (.cells #[.int .i64 (0), .int .i64 (0)] 28) :: M) (by rfl) (up_cons (up_cons rfl hs4) hs32) ?_
     refine l_mu rfl rfl (m_store 0 tf15 (b := b3) (o := 0) (T := 28) (cs := #[.int .i64 (0), .int .i64 (0)]) (cs' := #[Ix (clampS ((b.vx) + (gx))), Ix (clampS ((b.vy) + (gy)))]) (v := .agg #[Ix (clampS ((b.vx) + (gx))), Ix (clampS ((b.vy) + (gy)))]) rfl rfl rfl rfl rfl rfl rfl) ?_
     refine l_nil ?_
     exact f_owes_n (up_cons (up_cons rfl hs4) hs32) trivial (perm_front 0 rfl)
    rintro fa7 ⟨-, -, -, -, -, -, -, -, -, -, -, -, -, -, -, -, -⟩ ⟨j0, -⟩
    refine f_re (L' := [pt b2 (.cells #[Ix (gx), Ix (gy)] 28), pt b1 (.cells (bC b) 52), pt b3 (.cells #[Ix (clampS ((b.vx) + (gx))), Ix (clampS ((b.vy) + (gy)))] 28)]) (by rfl) ?_
    refine f_rebase (d := 4) (v := .pointer (some ⟨b3, 0, none⟩)) j0 ?_
    refine f_then ?_
    refine c_ret ?_
    refine retG (l := [.cell 4 28]) (m := [.agg #[Ix (clampS ((b.vx) + (gx))), Ix (clampS ((b.vy) + (gy)))]]) (v := .agg #[Ix (clampS ((b.vx) + (gx))), Ix (clampS ((b.vy) + (gy)))]) Tryz.results74 ⟨rd_cell tf15 (cs := [Ix (clampS ((b.vx) + (gx))), Ix (clampS ((b.vy) + (gy)))]) rfl (k_pt 2 (cs := #[Ix (clampS ((b.vx) + (gx))), Ix (clampS ((b.vy) + (gy)))]) (vs := [Ix (clampS ((b.vx) + (gx))), Ix (clampS ((b.vy) + (gy)))]) rfl rfl) rfl, trivial⟩ rfl ?_
    intro w hw
    have hno : ¬ (b.fixed = true ∨ ¬ okB b ∨ ¬ okV gx gy) := fun h => h.elim (fun h => by rw [hc6] at h; cases h) fun h => h.elim (fun h => h hob) fun h => h hov
    exact ⟨by rw [show speedX b gx gy = clampS (b.vx + gx) from if_neg hno, show speedY b gx gy = clampS (b.vy + gy) from if_neg hno], st_mask [false, false, false] rfl hw⟩
end Go.Proofs
