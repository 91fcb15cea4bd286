/-
 The reference's step: shifted, hits, held, move. Printed by a program of my own.
-/
import Derived.Test.YtdkibofhppgbjaaGreatDoorSt14
import Derived.Test.YtdkibofhppgbjaaGreatDoorStRef
namespace Go.Proofs
open Go Go.Sl Go.Stp
theorem ok_of_inside' {b nx : KB} {y : Bool} {j : Int} (h : okB b) (hn : sh y b j = nx) (hi : inside nx) : okB nx := by subst hn; exact ok_of_inside h hi
theorem tf121 : cfB Tryz.prog 212 = true := by kernel_rfl
theorem tf122 : cfB Tryz.prog 70 = true := by kernel_rfl
theorem tf123 : cfB Tryz.prog 213 = true := by kernel_rfl
theorem tf124 : cfB Tryz.prog 177 = true := by kernel_rfl
theorem tf125 : cfB Tryz.prog 178 = true := by kernel_rfl
theorem tf126 : cfB Tryz.prog 179 = true := by kernel_rfl
theorem tf127 : cfB Tryz.prog 180 = true := by kernel_rfl
theorem shift8_1_ok (β : Base) (w : World) (hw : St β [] w) (b : KB) (n : Int) (hb : -1099511627776 ≤ b.x ∧ b.x ≤ 1099511627776) (hn : -1099511627776 ≤ n ∧ n ≤ 1099511627776) : Calls Tryz.prog 177 #[.agg (bC b), .int .u8 (1), Ix n] w fun r w' => r = .returned (.agg (bC (sh false b n))) ∧ St β [] w' := by
 refine enter (n := 24) Tryz.func177 rfl Tryz.ntmps177 rfl ?_ hw
 refine c_seq ?_
 refine c_region ?_
 refine l_mv rfl rfl rfl (m_box (v := .agg (bC b)) rfl) ?_
 rintro _ _ ⟨b1, rfl, rfl⟩
 refine l_mv rfl rfl rfl (m_alloc tf58) ?_
 rintro _ _ ⟨b2, rfl, rfl⟩
 refine l_nil ?_
 refine f_then ?_
 refine c_seq ?_
 refine c_seq ?_
 refine c_region ?_
 refine l_val (v := .int .u8 (1)) rfl rfl rfl (e_move) ?_
 refine l_val (v := .bool true) rfl rfl rfl (e_eql (a := ((1 : UInt8).toNat : Int)) (b := ((1 : UInt8).toNat : Int)) rfl rfl) ?_
 refine l_nil ?_
 refine f_then ?_
 refine c_yes rfl ?_
 refine c_region ?_
 refine l_val (v := .pointer (some ⟨b1, 1, none⟩)) rfl rfl rfl (e_fieldPt (b := b1) (o := 0) rfl tf6) ?_
 refine l_val (v := .pointer (some ⟨b1, 1, none⟩)) rfl rfl rfl (e_fieldPt (b := b1) (o := 1) rfl tf7) ?_
 refine l_val (v := Ix (b.x)) rfl rfl rfl (e_load1 tf2 (v := Ix (b.x)) rfl (k_pt 1 (cs := (bC b)) (vs := [Ix (b.x)]) rfl rfl)) ?_
 refine l_val (v := Ix (n)) rfl rfl rfl (e_move) ?_
 refine l_val (v := Ix ((b.x) + (n))) rfl rfl rfl (e_add (a := (b.x)) (b := (n)) rfl rfl (i64w (by omega))) ?_
 refine l_val (v := .pointer (some ⟨b1, 1, none⟩)) rfl rfl rfl (e_fieldPt (b := b1) (o := 0) rfl tf6) ?_
 refine l_val (v := .pointer (some ⟨b1, 1, none⟩)) rfl rfl rfl (e_fieldPt (b := b1) (o := 1) rfl tf7) ?_
 refine l_mu rfl rfl (m_store 1 tf2 (b := b1) (o := 1) (T := 52) (cs := (bC b)) (cs' := #[Ix (b.id), Ix ((b.x) + (n)), Ix (b.y), Ix (b.vx), Ix (b.vy), Ix (b.w), Ix (b.h), .bool (b.round), .bool (b.fixed)]) (v := Ix ((b.x) + (n))) rfl rfl rfl rfl rfl rfl rfl) ?_
 refine l_nil ?_
 refine f_then ?_
 refine c_seq ?_
 refine c_region ?_
 refine l_val (v := .agg #[Ix (b.id), Ix ((b.x) + (n)), Ix (b.y), Ix (b.vx), Ix (b.vy), Ix (b.w), Ix (b.h), .bool (b.round), .bool (b.fixed)]) rfl rfl rfl (e_load tf22 (cs := [Ix (b.id), Ix ((b.x) + (n)), Ix (b.y), Ix (b.vx), Ix (b.vy), Ix (b.w), Ix (b.h), .bool (b.round), .bool (b.fixed)]) rfl (k_pt 1 (cs := #[Ix (b.id), Ix ((b.x) + (n)), Ix (b.y), Ix (b.vx), Ix (b.vy), Ix (b.w), Ix (b.h), .bool (b.round), .bool (b.fixed)]) (vs := [Ix (b.id), Ix ((b.x) + (n)), Ix (b.y), Ix (b.vx), Ix (b.vy), Ix (b.w), Ix (b.h), .bool (b.round), .bool (b.fixed)]) rfl rfl) rfl) ?_
 refine l_mu rfl rfl (m_store 0 tf22 (b := b2) (o := 0) (T := 52) (cs := #[.int .i64 (0), .int .i64 (0), .int .i64 (0), .int .i64 (0), .int .i64 (0), .int .i64 (0), .int .i64 (0), .bool false, .bool false]) (cs' := #[Ix (b.id), Ix ((b.x) + (n)), Ix (b.y), Ix (b.vx), Ix (b.vy), Ix (b.w), Ix (b.h), .bool (b.round), .bool (b.fixed)]) (v := .agg #[Ix (b.id), Ix ((b.x) + (n)), Ix (b.y), Ix (b.vx), Ix (b.vy), Ix (b.w), Ix (b.h), .bool (b.round), .bool (b.fixed)]) rfl rfl rfl rfl rfl rfl rfl) ?_
 refine l_nil ?_
 refine f_then ?_
 refine c_ret ?_
 refine retG (l := [.cell 6 52]) (m := [.agg #[Ix (b.id), Ix ((b.x) + (n)), Ix (b.y), Ix (b.vx), Ix (b.vy), Ix (b.w), Ix (b.h), .bool (b.round), .bool (b.fixed)]]) (v := .agg #[Ix (b.id), Ix ((b.x) + (n)), Ix (b.y), Ix (b.vx), Ix (b.vy), Ix (b.w), Ix (b.h), .bool (b.round), .bool (b.fixed)]) Tryz.results177 ⟨rd_cell tf22 (cs := [Ix (b.id), Ix ((b.x) + (n)), Ix (b.y), Ix (b.vx), Ix (b.vy), Ix (b.w), Ix (b.h), .bool (b.round), .bool (b.fixed)]) rfl (k_pt 0 (cs := #[Ix (b.id), Ix ((b.x) + (n)), Ix (b.y), Ix (b.vx), Ix (b.vy), Ix (b.w), Ix (b.h), .bool (b.round), .bool (b.fixed)]) (vs := [Ix (b.id), Ix ((b.x) + (n)), Ix (b.y), Ix (b.vx), Ix (b.vy), Ix (b.w), Ix (b.h), .bool (b.round), .bool (b.fixed)]) rfl rfl) rfl, trivial⟩ rfl ?_
 intro w hw
 exact ⟨rfl, st_mask [false, false] rfl hw⟩
theorem shift8_2_ok (β : Base) (w : World) (hw : St β [] w) (b : KB) (n : Int) (hb : -1099511627776 ≤ b.y ∧ b.y ≤ 1099511627776) (hn : -1099511627776 ≤ n ∧ n ≤ 1099511627776) : Calls Tryz.prog 177 #[.agg (bC b), .int .u8 (2), Ix n] w fun r w' => r = .returned (.agg (bC (sh true b n))) ∧ St β [] w' := by
 refine enter (n := 24) Tryz.func177 rfl Tryz.ntmps177 rfl ?_ hw
 refine c_seq ?_
 refine c_region ?_
 refine l_mv rfl rfl rfl (m_box (v := .agg (bC b)) rfl) ?_
 rintro _ _ ⟨b1, rfl, rfl⟩
 refine l_mv rfl rfl rfl (m_alloc tf58) ?_
 rintro _ _ ⟨b2, rfl, rfl⟩
 refine l_nil ?_
 refine f_then ?_
 refine c_seq ?_
 refine c_seq ?_
 refine c_region ?_
 refine l_val (v := .int .u8 (2)) rfl rfl rfl (e_move) ?_
 refine l_val (v := .bool false) rfl rfl rfl (e_eql (a := ((2 : UInt8).toNat : Int)) (b := ((1 : UInt8).toNat : Int)) rfl rfl) ?_
 refine l_nil ?_
 refine f_then ?_
 refine c_no rfl ?_
 refine c_region ?_
 refine l_val (v := .pointer (some ⟨b1, 1, none⟩)) rfl rfl rfl (e_fieldPt (b := b1) (o := 0) rfl tf6) ?_
 refine l_val (v := .pointer (some ⟨b1, 2, none⟩)) rfl rfl rfl (e_fieldPt (b := b1) (o := 1) rfl tf8) ?_
 refine l_val (v := Ix (b.y)) rfl rfl rfl (e_load1 tf2 (v := Ix (b.y)) rfl (k_pt 1 (cs := (bC b)) (vs := [Ix (b.y)]) rfl rfl)) ?_
 refine l_val (v := Ix (n)) rfl rfl rfl (e_move) ?_
 refine l_val (v := Ix ((b.y) + (n))) rfl rfl rfl (e_add (a := (b.y)) (b := (n)) rfl rfl (i64w (by omega))) ?_
 refine l_val (v := .pointer (some ⟨b1, 1, none⟩)) rfl rfl rfl (e_fieldPt (b := b1) (o := 0) rfl tf6) ?_
 refine l_val (v := .pointer (some ⟨b1, 2, none⟩)) rfl rfl rfl (e_fieldPt (b := b1) (o := 1) rfl tf8) ?_
 refine l_mu rfl rfl (m_store 1 tf2 (b := b1) (o := 2) (T := 52) (cs := (bC b)) (cs' := #[Ix (b.id), Ix (b.x), Ix ((b.y) + (n)), Ix (b.vx), Ix (b.vy), Ix (b.w), Ix (b.h), .bool (b.round), .bool (b.fixed)]) (v := Ix ((b.y) + (n))) rfl rfl rfl rfl rfl rfl rfl) ?_
 refine l_nil ?_
 refine f_then ?_
 refine c_seq ?_
 refine c_region ?_
 refine l_val (v := .agg #[Ix (b.id), Ix (b.x), Ix ((b.y) + (n)), Ix (b.vx), Ix (b.vy), Ix (b.w), Ix (b.h), .bool (b.round), .bool (b.fixed)]) rfl rfl rfl (e_load tf22 (cs := [Ix (b.id), Ix (b.x), Ix ((b.y) + (n)), Ix (b.vx), Ix (b.vy), Ix (b.w), Ix (b.h), .bool (b.round), .bool (b.fixed)]) rfl (k_pt 1 (cs := #[Ix (b.id), Ix (b.x), Ix ((b.y) + (n)), Ix (b.vx), Ix (b.vy), Ix (b.w), Ix (b.h), .bool (b.round), .bool (b.fixed)]) (vs := [Ix (b.id), Ix (b.x), Ix ((b.y) + (n)), Ix (b.vx), Ix (b.vy), Ix (b.w), Ix (b.h), .bool (b.round), .bool (b.fixed)]) rfl rfl) rfl) ?_
 refine l_mu rfl rfl (m_store 0 tf22 (b := b2) (o := 0) (T := 52) (cs := #[.int .i64 (0), .int .i64 (0), .int .i64 (0), .int .i64 (0), .int .i64 (0), .int .i64 (0), .int .i64 (0), .bool false, .bool false]) (cs' := #[Ix (b.id), Ix (b.x), Ix ((b.y) + (n)), Ix (b.vx), Ix (b.vy), Ix (b.w), Ix (b.h), .bool (b.round), .bool (b.fixed)]) (v := .agg #[Ix (b.id), Ix (b.x), Ix ((b.y) + (n)), Ix (b.vx), Ix (b.vy), Ix (b.w), Ix (b.h), .bool (b.round), .bool (b.fixed)]) rfl rfl rfl rfl rfl rfl rfl) ?_
 refine l_nil ?_
 refine f_then ?_
 refine c_ret ?_
 refine retG (l := [.cell 6 52]) (m := [.agg #[Ix (b.id), Ix (b.x), Ix ((b.y) + (n)), Ix (b.vx), Ix (b.vy), Ix (b.w), Ix (b.h), .bool (b.round), .bool (b.fixed)]]) (v := .agg #[Ix (b.id), Ix (b.x), Ix ((b.y) + (n)), Ix (b.vx), Ix (b.vy), Ix (b.w), Ix (b.h), .bool (b.round), .bool (b.fixed)]) Tryz.results177 ⟨rd_cell tf22 (cs := [Ix (b.id), Ix (b.x), Ix ((b.y) + (n)), Ix (b.vx), Ix (b.vy), Ix (b.w), Ix (b.h), .bool (b.round), .bool (b.fixed)]) rfl (k_pt 0 (cs := #[Ix (b.id), Ix (b.x), Ix ((b.y) + (n)), Ix (b.vx), Ix (b.vy), Ix (b.w), Ix (b.h), .bool (b.round), .bool (b.fixed)]) (vs := [Ix (b.id), Ix (b.x), Ix ((b.y) + (n)), Ix (b.vx), Ix (b.vy), Ix (b.w), Ix (b.h), .bool (b.round), .bool (b.fixed)]) rfl rfl) rfl, trivial⟩ rfl ?_
 intro w hw
 exact ⟨rfl, st_mask [false, false] rfl hw⟩
theorem shift8_ok (β : Base) (w : World) (hw : St β [] w) (b : KB) (y : Bool) (al : UInt8) (hal : al = if y then 2 else 1) (n : Int) (hb : -1099511627776 ≤ co y b ∧ co y b ≤ 1099511627776) (hn : -1099511627776 ≤ n ∧ n ≤ 1099511627776) (c : KB) (hc : sh y b n = c) : Calls Tryz.prog 177 #[.agg (bC b), Bx al, Ix n] w fun r w' => r = .returned (.agg (bC c)) ∧ St β [] w' := by
 subst hc
 cases y
 ·have e : Bx al = .int .u8 1 := by rw [hal]; rfl
  rw [e]; exact shift8_1_ok β w hw b n hb hn
 ·have e : Bx al = .int .u8 2 := by rw [hal]; rfl
  rw [e]; exact shift8_2_ok β w hw b n hb hn
set_option maxHeartbeats 4000000 in
theorem inside8_ok (β : Base) (w : World) (hw : St β [] w) (b : KB) : Calls Tryz.prog 178 #[.agg (bC b)] w fun r w' => r = .returned (.bool (decide (inside b))) ∧ St β [] w' := by
 refine enter (n := 25) Tryz.func178 rfl Tryz.ntmps178 rfl ?_ hw
 refine c_seq ?_
 refine c_region ?_
 refine l_mv rfl rfl rfl (m_box (v := .agg (bC b)) rfl) ?_
 rintro _ _ ⟨b1, rfl, rfl⟩
 refine l_val (v := .bool false) rfl rfl rfl (e_assign) ?_
 refine l_nil ?_
 refine f_then ?_
 refine c_seq ?_
 refine c_region ?_
 refine l_val (v := .pointer (some ⟨b1, 1, none⟩)) rfl rfl rfl (e_fieldPt (b := b1) (o := 0) rfl tf6) ?_
 refine l_val (v := .pointer (some ⟨b1, 1, none⟩)) rfl rfl rfl (e_fieldPt (b := b1) (o := 1) rfl tf7) ?_
 refine l_val (v := Ix (b.x)) rfl rfl rfl (e_load1 tf2 (v := Ix (b.x)) rfl (k_pt 0 (cs := (bC b)) (vs := [Ix (b.x)]) rfl rfl)) ?_
 refine l_val (v := .bool (decide ((-1048576 : Int) ≤ (b.x)))) rfl rfl rfl (e_geq (a := (b.x)) (b := (-1048576 : Int)) rfl rfl) ?_
 refine l_val (v := .bool (decide ((-1048576 : Int) ≤ (b.x)))) rfl rfl rfl (e_move) ?_
 refine l_split (s := 7) (p := (-1048576 : Int) ≤ (b.x)) rfl (fun hg2 => ?_) (fun hg2 => ?_)
 ·
  refine g_val (v := .pointer (some ⟨b1, 1, none⟩)) rfl rfl rfl rfl rfl (e_fieldPt (b := b1) (o := 0) rfl tf6) ?_
  refine g_val (v := .pointer (some ⟨b1, 1, none⟩)) rfl rfl rfl rfl rfl (e_fieldPt (b := b1) (o := 1) rfl tf7) ?_
  refine g_val (v := Ix (b.x)) rfl rfl rfl rfl rfl (e_load1 tf2 (v := Ix (b.x)) rfl (k_pt 0 (cs := (bC b)) (vs := [Ix (b.x)]) rfl rfl)) ?_
  refine g_val (v := .bool (decide ((b.x) ≤ (1048576 : Int)))) rfl rfl rfl rfl rfl (e_leq (a := (b.x)) (b := (1048576 : Int)) rfl rfl) ?_
  refine l_val (v := .bool (decide ((b.x) ≤ (1048576 : Int)))) rfl rfl rfl (e_pick_t rfl) ?_
  refine l_val (v := .bool (decide ((b.x) ≤ (1048576 : Int)))) rfl rfl rfl (e_move) ?_
  refine l_split (s := 13) (p := (b.x) ≤ (1048576 : Int)) rfl (fun hg3 => ?_) (fun hg3 => ?_)
  ·
   refine g_val (v := .pointer (some ⟨b1, 1, none⟩)) rfl rfl rfl rfl rfl (e_fieldPt (b := b1) (o := 0) rfl tf6) ?_
   refine g_val (v := .pointer (some ⟨b1, 2, none⟩)) rfl rfl rfl rfl rfl (e_fieldPt (b := b1) (o := 1) rfl tf8) ?_
   refine g_val (v := Ix (b.y)) rfl rfl rfl rfl rfl (e_load1 tf2 (v := Ix (b.y)) rfl (k_pt 0 (cs := (bC b)) (vs := [Ix (b.y)]) rfl rfl)) ?_
   refine g_val (v := .bool (decide ((-1048576 : Int) ≤ (b.y)))) rfl rfl rfl rfl rfl (e_geq (a := (b.y)) (b := (-1048576 : Int)) rfl rfl) ?_
   refine l_val (v := .bool (decide ((-1048576 : Int) ≤ (b.y)))) rfl rfl rfl (e_pick_t rfl) ?_
   refine l_val (v := .bool (decide ((-1048576 : Int) ≤ (b.y)))) rfl rfl rfl (e_move) ?_
   refine l_split (s := 19) (p := (-1048576 : Int) ≤ (b.y)) rfl (fun hg4 => ?_) (fun hg4 => ?_)
   ·
    refine g_val (v := .pointer (some ⟨b1, 1, none⟩)) rfl rfl rfl rfl rfl (e_fieldPt (b := b1) (o := 0) rfl tf6) ?_
    refine g_val (v := .pointer (some ⟨b1, 2, none⟩)) rfl rfl rfl rfl rfl (e_fieldPt (b := b1) (o := 1) rfl tf8) ?_
    refine g_val (v := Ix (b.y)) rfl rfl rfl rfl rfl (e_load1 tf2 (v := Ix (b.y)) rfl (k_pt 0 (cs := (bC b)) (vs := [Ix (b.y)]) rfl rfl)) ?_
    refine g_val (v := .bool (decide ((b.y) ≤ (1048576 : Int)))) rfl rfl rfl rfl rfl (e_leq (a := (b.y)) (b := (1048576 : Int)) rfl rfl) ?_
    refine l_val (v := .bool (decide ((b.y) ≤ (1048576 : Int)))) rfl rfl rfl (e_pick_t rfl) ?_
    refine l_val (v := .bool (decide ((b.y) ≤ (1048576 : Int)))) rfl rfl rfl (e_assign) ?_
    refine l_nil ?_
    refine f_then ?_
    refine c_ret ?_
    refine ret1 Tryz.results178 (v := .bool (decide ((b.y) ≤ (1048576 : Int)))) rfl ?_
    intro w hw
    exact ⟨congrArg (fun b : Bool => Ending.returned (.bool b)) (show decide ((b.y) ≤ (1048576 : Int)) = _ by first | (rw [eq_comm, decide_eq_false_iff_not]; unfold inside; omega) | exact decide_eq_decide.2 (by unfold inside; omega)), st_mask [false] rfl hw⟩
   ·
    refine l_skip rfl rfl rfl rfl rfl rfl ?_
    refine l_skip rfl rfl rfl rfl rfl rfl ?_
    refine l_skip rfl rfl rfl rfl rfl rfl ?_
    refine l_skip rfl rfl rfl rfl rfl rfl ?_
    refine l_val (v := .bool false) rfl rfl rfl (e_pick_f rfl) ?_
    refine l_val (v := .bool false) rfl rfl rfl (e_assign) ?_
    refine l_nil ?_
    refine f_then ?_
    refine c_ret ?_
    refine ret1 Tryz.results178 (v := .bool false) rfl ?_
    intro w hw
    exact ⟨congrArg (fun b : Bool => Ending.returned (.bool b)) (show false = _ by first | (rw [eq_comm, decide_eq_false_iff_not]; unfold inside; omega) | exact decide_eq_decide.2 (by unfold inside; omega)), st_mask [false] rfl hw⟩
  ·
   refine l_skip rfl rfl rfl rfl rfl rfl ?_
   refine l_skip rfl rfl rfl rfl rfl rfl ?_
   refine l_skip rfl rfl rfl rfl rfl rfl ?_
   refine l_skip rfl rfl rfl rfl rfl rfl ?_
   refine l_val (v := .bool false) rfl rfl rfl (e_pick_f rfl) ?_
   refine l_val (v := .bool false) rfl rfl rfl (e_move) ?_
   refine l_skip rfl rfl rfl rfl rfl rfl ?_
   refine l_skip rfl rfl rfl rfl rfl rfl ?_
   refine l_skip rfl rfl rfl rfl rfl rfl ?_
   refine l_skip rfl rfl rfl rfl rfl rfl ?_
   refine l_val (v := .bool false) rfl rfl rfl (e_pick_f rfl) ?_
   refine l_val (v := .bool false) rfl rfl rfl (e_assign) ?_
   refine l_nil ?_
   refine f_then ?_
   refine c_ret ?_
   refine ret1 Tryz.results178 (v := .bool false) rfl ?_
   intro w hw
   exact ⟨congrArg (fun b : Bool => Ending.returned (.bool b)) (show false = _ by first | (rw [eq_comm, decide_eq_false_iff_not]; unfold inside; omega) | exact decide_eq_decide.2 (by unfold inside; omega)), st_mask [false] rfl hw⟩
 ·
  refine l_skip rfl rfl rfl rfl rfl rfl ?_
  refine l_skip rfl rfl rfl rfl rfl rfl ?_
  refine l_skip rfl rfl rfl rfl rfl rfl ?_
  refine l_skip rfl rfl rfl rfl rfl rfl ?_
  refine l_val (v := .bool false) rfl rfl rfl (e_pick_f rfl) ?_
  refine l_val (v := .bool false) rfl rfl rfl (e_move) ?_
  refine l_skip rfl rfl rfl rfl rfl rfl ?_
  refine l_skip rfl rfl rfl rfl rfl rfl ?_
  refine l_skip rfl rfl rfl rfl rfl rfl ?_
  refine l_skip rfl rfl rfl rfl rfl rfl ?_
  refine l_val (v := .bool false) rfl rfl rfl (e_pick_f rfl) ?_
  refine l_val (v := .bool false) rfl rfl rfl (e_move) ?_
  refine l_skip rfl rfl rfl rfl rfl rfl ?_
  refine l_skip rfl rfl rfl rfl rfl rfl ?_
  refine l_skip rfl rfl rfl rfl rfl rfl ?_
  refine l_skip rfl rfl rfl rfl rfl rfl ?_
  refine l_val (v := .bool false) rfl rfl rfl (e_pick_f rfl) ?_
  refine l_val (v := .bool false) rfl rfl rfl (e_assign) ?_
  refine l_nil ?_
  refine f_then ?_
  refine c_ret ?_
  refine ret1 Tryz.results178 (v := .bool false) rfl ?_
  intro w hw
  exact ⟨congrArg (fun b : Bool => Ending.returned (.bool b)) (show false = _ by first | (rw [eq_comm, decide_eq_false_iff_not]; unfold inside; omega) | exact decide_eq_decide.2 (by unfold inside; omega)), st_mask [false] rfl hw⟩
theorem far8_ok (β : Base) (w : World) (hw : St β [] w) (a b : KB) (ha : midB a) (hb : midB b) : Calls Tryz.prog 213 #[.agg (bC a), .agg (bC b)] w fun r w' => r = .returned (Ix (dist a b)) ∧ St β [] w' := by
 obtain ⟨a1, a2⟩ := ha
 obtain ⟨b1, b2⟩ := hb
 have q1 := sq_bd (x := a.x - b.x) (B := 4194304) (by omega) (by omega)
 have q2 := sq_bd (x := a.y - b.y) (B := 4194304) (by omega) (by omega)
 refine enter (n := 28) Tryz.func213 rfl Tryz.ntmps213 rfl ?_ hw
 refine c_seq ?_
 refine c_region ?_
 refine l_mv rfl rfl rfl (m_box (v := .agg (bC a)) rfl) ?_
 rintro _ _ ⟨b1, rfl, rfl⟩
 refine l_mv rfl rfl rfl (m_box (v := .agg (bC b)) rfl) ?_
 rintro _ _ ⟨b2, rfl, rfl⟩
 refine l_val (v := .int .i64 (0)) rfl rfl rfl (e_assign) ?_
 refine l_nil ?_
 refine f_then ?_
 refine c_seq ?_
 refine c_quiet (by kernel_rfl) (by kernel_rfl) ?_
 refine q_val (v := .pointer (some ⟨b1, 1, none⟩)) rfl rfl rfl (e_fieldPt (b := b1) (o := 0) rfl tf6) ?_
 refine q_val (v := .pointer (some ⟨b1, 1, none⟩)) rfl rfl rfl (e_fieldPt (b := b1) (o := 1) rfl tf7) ?_
 refine q_val (v := Ix (a.x)) rfl rfl rfl (e_load1 tf2 (v := Ix (a.x)) rfl (k_pt 1 (cs := (bC a)) (vs := [Ix (a.x)]) rfl rfl)) ?_
 refine q_val (v := .pointer (some ⟨b2, 1, none⟩)) rfl rfl rfl (e_fieldPt (b := b2) (o := 0) rfl tf6) ?_
 refine q_val (v := .pointer (some ⟨b2, 1, none⟩)) rfl rfl rfl (e_fieldPt (b := b2) (o := 1) rfl tf7) ?_
 refine q_val (v := Ix (b.x)) rfl rfl rfl (e_load1 tf2 (v := Ix (b.x)) rfl (k_pt 0 (cs := (bC b)) (vs := [Ix (b.x)]) rfl rfl)) ?_
 refine q_val (v := Ix ((a.x) - (b.x))) rfl rfl rfl (e_sub (a := (a.x)) (b := (b.x)) rfl rfl (i64w (by omega))) ?_
 refine q_val (v := .pointer (some ⟨b1, 1, none⟩)) rfl rfl rfl (e_fieldPt (b := b1) (o := 0) rfl tf6) ?_
 refine q_val (v := .pointer (some ⟨b1, 2, none⟩)) rfl rfl rfl (e_fieldPt (b := b1) (o := 1) rfl tf8) ?_
 refine q_val (v := Ix (a.y)) rfl rfl rfl (e_load1 tf2 (v := Ix (a.y)) rfl (k_pt 1 (cs := (bC a)) (vs := [Ix (a.y)]) rfl rfl)) ?_
 refine q_val (v := .pointer (some ⟨b2, 1, none⟩)) rfl rfl rfl (e_fieldPt (b := b2) (o := 0) rfl tf6) ?_
 refine q_val (v := .pointer (some ⟨b2, 2, none⟩)) rfl rfl rfl (e_fieldPt (b := b2) (o := 1) rfl tf8) ?_
 refine q_val (v := Ix (b.y)) rfl rfl rfl (e_load1 tf2 (v := Ix (b.y)) rfl (k_pt 0 (cs := (bC b)) (vs := [Ix (b.y)]) rfl rfl)) ?_
 refine q_val (v := Ix ((a.y) - (b.y))) rfl rfl rfl (e_sub (a := (a.y)) (b := (b.y)) rfl rfl (i64w (by omega))) ?_
 refine q_val (v := Ix ((a.x) - (b.x))) rfl rfl rfl (e_assign) ?_
 refine q_val (v := Ix ((a.y) - (b.y))) rfl rfl rfl (e_assign) ?_
 refine q_nil ?_
 refine f_then ?_
 refine c_seq ?_
 refine c_region ?_
 refine l_val (v := Ix ((a.x) - (b.x))) rfl rfl rfl (e_move) ?_
 refine l_val (v := Ix ((a.x) - (b.x))) rfl rfl rfl (e_move) ?_
 refine l_val (v := Ix (((a.x) - (b.x)) * ((a.x) - (b.x)))) rfl rfl rfl (e_mul (a := ((a.x) - (b.x))) (b := ((a.x) - (b.x))) rfl rfl (i64w (by omega))) ?_
 refine l_val (v := Ix ((a.y) - (b.y))) rfl rfl rfl (e_move) ?_
 refine l_val (v := Ix ((a.y) - (b.y))) rfl rfl rfl (e_move) ?_
 refine l_val (v := Ix (((a.y) - (b.y)) * ((a.y) - (b.y)))) rfl rfl rfl (e_mul (a := ((a.y) - (b.y))) (b := ((a.y) - (b.y))) rfl rfl (i64w (by omega))) ?_
 refine l_val (v := Ix ((((a.x) - (b.x)) * ((a.x) - (b.x))) + (((a.y) - (b.y)) * ((a.y) - (b.y))))) rfl rfl rfl (e_add (a := (((a.x) - (b.x)) * ((a.x) - (b.x)))) (b := (((a.y) - (b.y)) * ((a.y) - (b.y)))) rfl rfl (i64w (by omega))) ?_
 refine l_val (v := Ix ((((a.x) - (b.x)) * ((a.x) - (b.x))) + (((a.y) - (b.y)) * ((a.y) - (b.y))))) rfl rfl rfl (e_assign) ?_
 refine l_nil ?_
 refine f_then ?_
 refine c_ret ?_
 refine ret1 Tryz.results213 (v := Ix ((((a.x) - (b.x)) * ((a.x) - (b.x))) + (((a.y) - (b.y)) * ((a.y) - (b.y))))) rfl ?_
 intro w hw
 exact ⟨rfl, st_mask [false, false] rfl hw⟩
set_option maxHeartbeats 4000000 in
theorem hits8_ok (β : Base) (w : World) (hw : St β [] w) (v rv : Value) (gx gy : Int) (bs : List KB) (rs : List KR) (hs : Sl KBR β.heap v bs) (hr : Sl KRR β.heap rv rs) (ho : ordB bs) (hbs : ∀ o ∈ bs, okB o) (hrs : ∀ r ∈ rs, okR bs r) (k : Nat) (b : KB) (hk : bs[k]? = some b) (nb : KB) : Calls Tryz.prog 179 #[.agg #[v, rv, Ix gx, Ix gy], Nx k, .agg (bC nb)] w fun r w' => r = .returned (Ix (hitI bs b nb)) ∧ St β [] w' := by
 obtain ⟨va, vc, rfl, vl, vm, ve⟩ := hs.get
 obtain ⟨rva, rvc, rfl, rvl, rvm, rve⟩ := hr.get
 have hkl := (List.getElem?_eq_some_iff.1 hk).1
 obtain ⟨hak, csk, hck, rfl⟩ := ve _ _ hk
 refine enter (n := 47) Tryz.func179 rfl Tryz.ntmps179 rfl ?_ hw
 refine c_seq ?_
 refine c_region ?_
 refine l_mv rfl rfl rfl (m_box (v := .agg #[.slice va (bs.length) (vc), .slice rva (rs.length) (rvc), Ix (gx), Ix (gy)]) rfl) ?_
 rintro _ _ ⟨b1, rfl, rfl⟩
 refine l_mv rfl rfl rfl (m_box (v := .agg (bC nb)) rfl) ?_
 rintro _ _ ⟨b2, rfl, rfl⟩
 refine l_val (v := .int .i64 (0)) rfl rfl rfl (e_assign) ?_
 refine l_nil ?_
 refine f_then ?_
 refine c_seq ?_
 refine c_seq ?_
 refine c_region ?_
 refine l_val (v := .int .i64 (0)) rfl rfl rfl (e_assign) ?_
 refine l_nil ?_
 refine f_then ?_
 refine c_block ?_
 refine c_loop (fun (i : Nat) (f : Fm) (L : List Res) => (f 1 = Nx (k) ∧ f 3 = .pointer (some ⟨b1, 0, none⟩) ∧ f 5 = .pointer (some ⟨b2, 0, none⟩) ∧ f 7 = Nx (i)) ∧ L = [pt b2 (.cells (bC nb) 52), pt b1 (.cells #[.slice va (bs.length) (vc), .slice rva (rs.length) (rvc), Ix (gx), Ix (gy)] 30)] ∧ (i ≤ bs.length ∧ ∀ j, j < i → ∀ z, bs[j]? = some z → ¬ (z.id ≠ b.id ∧ ¬ Stp.over z b ∧ Stp.over nb z))) (fun (i : Nat) => bs.length - i) 0 ?_ ?_
 ·exact ⟨⟨rfl, rfl, rfl, rfl⟩, rfl, ⟨by omega, fun j hj => by omega⟩⟩
 rintro i f0 L0 ⟨⟨hs1, hs3, hs5, hs7⟩, hL, ⟨hi, hp⟩⟩
 subst L0
 refine rebase (d := 1) hs1 ?_
 refine rebase (d := 3) hs3 ?_
 refine rebase (d := 5) hs5 ?_
 refine rebase (d := 7) hs7 ?_
 clear hs1 hs3 hs5 hs7
 refine c_seq ?_
 refine c_seq ?_
 refine c_region ?_
 refine l_val (v := Nx (i)) rfl rfl rfl (e_move) ?_
 refine l_val (v := .pointer (some ⟨b1, 0, none⟩)) rfl rfl rfl (e_fieldPt (b := b1) (o := 0) rfl tf49) ?_
 refine l_val (v := .slice va (bs.length) (vc)) rfl rfl rfl (e_load1 tf50 (v := .slice va (bs.length) (vc)) rfl (k_pt 1 (cs := #[.slice va (bs.length) (vc), .slice rva (rs.length) (rvc), Ix (gx), Ix (gy)]) (vs := [.slice va (bs.length) (vc)]) rfl rfl)) ?_
 refine l_val (v := Nx (bs.length)) rfl rfl rfl (e_len (a := va) (n := bs.length) (c := vc) rfl tf40) ?_
 refine l_val (v := .bool (decide (((i : Nat) : Int) < ((bs.length : Nat) : Int)))) rfl rfl rfl (e_lss (a := ((i : Nat) : Int)) (b := ((bs.length : Nat) : Int)) rfl rfl) ?_
 refine l_nil ?_
 refine f_then ?_
 refine c_if (((i : Nat) : Int) < ((bs.length : Nat) : Int)) rfl (fun hc3 => ?_) (fun hc3 => ?_)
 ·
  refine c_skip ?_
  refine f_then ?_
  refine c_seq ?_
  refine c_block ?_
  refine c_seq ?_
  refine c_quiet (by kernel_rfl) (by kernel_rfl) ?_
  refine q_val (v := Nx (i)) rfl rfl rfl (e_move) ?_
  refine q_val (v := Nx (k)) rfl rfl rfl (e_move) ?_
  refine q_val (v := .bool (decide (((i : Nat) : Int) ≠ ((k : Nat) : Int)))) rfl rfl rfl (e_neq (a := ((i : Nat) : Int)) (b := ((k : Nat) : Int)) rfl rfl) ?_
  refine q_val (v := .bool (decide (((i : Nat) : Int) ≠ ((k : Nat) : Int)))) rfl rfl rfl (e_move) ?_
  refine q_split (s := 18) (p := ((i : Nat) : Int) ≠ ((k : Nat) : Int)) rfl (fun hg4 => ?_) (fun hg4 => ?_)
  ·
   refine qg_val (v := .agg (bC nb)) rfl rfl rfl rfl rfl (e_load tf22 (cs := (bodyE nb)) rfl (k_pt 0 (cs := (bC nb)) (vs := (bodyE nb)) rfl rfl) rfl) ?_
   refine qg_val (v := .pointer (some ⟨b1, 0, none⟩)) rfl rfl rfl rfl rfl (e_fieldPt (b := b1) (o := 0) rfl tf49) ?_
   refine qg_val (v := .slice va (bs.length) (vc)) rfl rfl rfl rfl rfl (e_load1 tf50 (v := .slice va (bs.length) (vc)) rfl (k_pt 1 (cs := #[.slice va (bs.length) (vc), .slice rva (rs.length) (rvc), Ix (gx), Ix (gy)]) (vs := [.slice va (bs.length) (vc)]) rfl rfl)) ?_
   refine qg_val (v := Nx (i)) rfl rfl rfl rfl rfl (e_move) ?_
   obtain ⟨x5, hx6⟩ : ∃ x_, (bs)[i]? = some x_ := ⟨_, List.getElem?_eq_getElem (by omega)⟩
   obtain ⟨ha7, cs8, hc9, rfl⟩ := ve _ _ hx6
   refine qg_val (v := .pointer (some ((ba va).add (i * 9)))) rfl rfl rfl rfl rfl (e_indexAddr (k := i) (len := bs.length) (cap := vc) (a := va) rfl rfl tf43 (by omega) ha7) ?_
   refine qg_val (v := .agg (bC x5)) rfl rfl rfl rfl rfl (e_load tf22 (cs := (bodyE x5)) rfl (Knows.of_base (Cs.mono _ _) hc9) rfl) ?_
   refine qg_call (v := .bool (decide (Stp.over nb x5))) rfl rfl rfl rfl rfl (cl_value (fst := []) (cap := []) (vs := [.agg (bC nb), .agg (bC x5)]) (all := [.agg (bC nb), .agg (bC x5)]) tf121 rfl rfl rfl) (fun w hw => ?_) ?_
   ·obtain ⟨β1, sb, kn, hw1, back⟩ := St.frame_all hw
    exact (over5_ok β1 w hw1 nb x5).mono (fun e w' ⟨he, hw'⟩ => ⟨he, st_mask [true, true] rfl (back _ _ hw')⟩)
   refine q_val (v := .bool (decide (Stp.over nb x5))) rfl rfl rfl (e_pick_t rfl) ?_
   refine q_val (v := .bool (decide (Stp.over nb x5))) rfl rfl rfl (e_move) ?_
   refine q_split (s := 27) (p := Stp.over nb x5) rfl (fun hg11 => ?_) (fun hg11 => ?_)
   ·
    refine qg_val (v := .pointer (some ⟨b1, 0, none⟩)) rfl rfl rfl rfl rfl (e_fieldPt (b := b1) (o := 0) rfl tf49) ?_
    refine qg_val (v := .slice va (bs.length) (vc)) rfl rfl rfl rfl rfl (e_load1 tf50 (v := .slice va (bs.length) (vc)) rfl (k_pt 1 (cs := #[.slice va (bs.length) (vc), .slice rva (rs.length) (rvc), Ix (gx), Ix (gy)]) (vs := [.slice va (bs.length) (vc)]) rfl rfl)) ?_
    refine qg_val (v := Nx (k)) rfl rfl rfl rfl rfl (e_move) ?_
    refine qg_val (v := .pointer (some ((ba va).add (k * 9)))) rfl rfl rfl rfl rfl (e_indexAddr (k := k) (len := bs.length) (cap := vc) (a := va) rfl rfl tf43 (by omega) hak) ?_
    refine qg_val (v := .agg (bC b)) rfl rfl rfl rfl rfl (e_load tf22 (cs := (bodyE b)) rfl (Knows.of_base (Cs.mono _ _) hck) rfl) ?_
    refine qg_val (v := .pointer (some ⟨b1, 0, none⟩)) rfl rfl rfl rfl rfl (e_fieldPt (b := b1) (o := 0) rfl tf49) ?_
    refine qg_val (v := .slice va (bs.length) (vc)) rfl rfl rfl rfl rfl (e_load1 tf50 (v := .slice va (bs.length) (vc)) rfl (k_pt 1 (cs := #[.slice va (bs.length) (vc), .slice rva (rs.length) (rvc), Ix (gx), Ix (gy)]) (vs := [.slice va (bs.length) (vc)]) rfl rfl)) ?_
    refine qg_val (v := Nx (i)) rfl rfl rfl rfl rfl (e_move) ?_
    refine qg_val (v := .pointer (some ((ba va).add (i * 9)))) rfl rfl rfl rfl rfl (e_indexAddr (k := i) (len := bs.length) (cap := vc) (a := va) rfl rfl tf43 (by omega) ha7) ?_
    refine qg_val (v := .agg (bC x5)) rfl rfl rfl rfl rfl (e_load tf22 (cs := (bodyE x5)) rfl (Knows.of_base (Cs.mono _ _) hc9) rfl) ?_
    refine qg_call (v := .bool (decide (Stp.over b x5))) rfl rfl rfl rfl rfl (cl_value (fst := []) (cap := []) (vs := [.agg (bC b), .agg (bC x5)]) (all := [.agg (bC b), .agg (bC x5)]) tf121 rfl rfl rfl) (fun w hw => ?_) ?_
    ·obtain ⟨β1, sb, kn, hw1, back⟩ := St.frame_all hw
     exact (over5_ok β1 w hw1 b x5).mono (fun e w' ⟨he, hw'⟩ => ⟨he, st_mask [true, true] rfl (back _ _ hw')⟩)
    refine qg_val (v := .bool (decide (¬ (Stp.over b x5)))) rfl rfl rfl rfl rfl (e_not_p (p := Stp.over b x5) rfl) ?_
    refine q_val (v := .bool (decide (¬ (Stp.over b x5)))) rfl rfl rfl (e_pick_t rfl) ?_
    refine q_nil ?_
    refine f_then ?_
    refine c_if (¬ (Stp.over b x5)) rfl (fun hc12 => ?_) (fun hc12 => ?_)
    ·
     refine c_seq ?_
     refine c_region ?_
     refine l_val (v := .pointer (some ⟨b1, 0, none⟩)) rfl rfl rfl (e_fieldPt (b := b1) (o := 0) rfl tf49) ?_
     refine l_val (v := .slice va (bs.length) (vc)) rfl rfl rfl (e_load1 tf50 (v := .slice va (bs.length) (vc)) rfl (k_pt 1 (cs := #[.slice va (bs.length) (vc), .slice rva (rs.length) (rvc), Ix (gx), Ix (gy)]) (vs := [.slice va (bs.length) (vc)]) rfl rfl)) ?_
     refine l_val (v := Nx (i)) rfl rfl rfl (e_move) ?_
     refine l_val (v := .pointer (some ((ba va).add (i * 9)))) rfl rfl rfl (e_indexAddr (k := i) (len := bs.length) (cap := vc) (a := va) rfl rfl tf43 (by omega) ha7) ?_
     refine l_val (v := .pointer (some (((ba va).add (i * 9) : Addr).add 0))) rfl rfl rfl (e_fieldAddr (a := (ba va).add (i * 9)) rfl tf3) ?_
     refine l_val (v := Ix (x5.id)) rfl rfl rfl (e_load1 tf2 (v := Ix (x5.id)) rfl (Knows.imp (Knows.of_base (Cs.mono _ _) hc9) (fun _ h => Cs.sub (vs := [Ix (x5.id)]) 0 h rfl))) ?_
     refine l_val (v := Ix (x5.id)) rfl rfl rfl (e_assign) ?_
     refine l_nil ?_
     refine f_then ?_
     refine c_ret ?_
     refine f_block_ret ?_
     refine f_then_ret ?_
     refine f_then_ret ?_
     refine f_block_ret ?_
     refine f_then_ret ?_
     refine ret1 Tryz.results179 (v := Ix (x5.id)) rfl ?_
     intro w hw
     exact ⟨congrArg (fun z : Int => Ending.returned (Ix z)) (show x5.id = hitI bs b nb by unfold hitI; rw [hit_at hx6 ((id_iff ho hx6 hk).2 (by omega)) (fun q => hc12 ((over_comm _ _).1 q)) hg11 hp]; rfl), st_mask [false, false] rfl hw⟩
    ·
     refine c_skip ?_
     refine f_block ?_
     refine f_then ?_
     refine c_region ?_
     refine l_val (v := Nx (i)) rfl rfl rfl (e_move) ?_
     refine l_val (v := Nx (i + 1)) rfl rfl rfl (e_add (a := ((i : Nat) : Int)) (b := (1 : Int)) rfl rfl (i64n (by omega) (by omega))) ?_
     refine l_val (v := Nx (i + 1)) rfl rfl rfl (e_assign) ?_
     refine l_nil ?_
     exact f_cut ⟨i + 1, ⟨⟨rfl, rfl, rfl, rfl⟩, rfl, ⟨by omega, hits_next hx6 hp (fun q => q.2.1 ((over_comm _ _).1 (Decidable.not_not.1 hc12)))⟩⟩, (show bs.length - (i + 1) < bs.length - i from by omega)⟩
   ·
    refine q_skip rfl rfl rfl rfl rfl rfl ?_
    refine q_skip rfl rfl rfl rfl rfl rfl ?_
    refine q_skip rfl rfl rfl rfl rfl rfl ?_
    refine q_skip rfl rfl rfl rfl rfl rfl ?_
    refine q_skip rfl rfl rfl rfl rfl rfl ?_
    refine q_skip rfl rfl rfl rfl rfl rfl ?_
    refine q_skip rfl rfl rfl rfl rfl rfl ?_
    refine q_skip rfl rfl rfl rfl rfl rfl ?_
    refine q_skip rfl rfl rfl rfl rfl rfl ?_
    refine q_skip rfl rfl rfl rfl rfl rfl ?_
    refine q_skip rfl rfl rfl rfl rfl rfl ?_
    refine q_skip rfl rfl rfl rfl rfl rfl ?_
    refine q_val (v := .bool false) rfl rfl rfl (e_pick_f rfl) ?_
    refine q_nil ?_
    refine f_then ?_
    refine c_no rfl ?_
    refine c_skip ?_
    refine f_block ?_
    refine f_then ?_
    refine c_region ?_
    refine l_val (v := Nx (i)) rfl rfl rfl (e_move) ?_
    refine l_val (v := Nx (i + 1)) rfl rfl rfl (e_add (a := ((i : Nat) : Int)) (b := (1 : Int)) rfl rfl (i64n (by omega) (by omega))) ?_
    refine l_val (v := Nx (i + 1)) rfl rfl rfl (e_assign) ?_
    refine l_nil ?_
    exact f_cut ⟨i + 1, ⟨⟨rfl, rfl, rfl, rfl⟩, rfl, ⟨by omega, hits_next hx6 hp (fun q => hg11 q.2.2)⟩⟩, (show bs.length - (i + 1) < bs.length - i from by omega)⟩
  ·
   refine q_skip rfl rfl rfl rfl rfl rfl ?_
   refine q_skip rfl rfl rfl rfl rfl rfl ?_
   refine q_skip rfl rfl rfl rfl rfl rfl ?_
   refine q_skip rfl rfl rfl rfl rfl rfl ?_
   refine q_skip rfl rfl rfl rfl rfl rfl ?_
   refine q_skip rfl rfl rfl rfl rfl rfl ?_
   refine q_skip rfl rfl rfl rfl rfl rfl ?_
   refine q_val (v := .bool false) rfl rfl rfl (e_pick_f rfl) ?_
   refine q_val (v := .bool false) rfl rfl rfl (e_move) ?_
   refine q_skip rfl rfl rfl rfl rfl rfl ?_
   refine q_skip rfl rfl rfl rfl rfl rfl ?_
   refine q_skip rfl rfl rfl rfl rfl rfl ?_
   refine q_skip rfl rfl rfl rfl rfl rfl ?_
   refine q_skip rfl rfl rfl rfl rfl rfl ?_
   refine q_skip rfl rfl rfl rfl rfl rfl ?_
   refine q_skip rfl rfl rfl rfl rfl rfl ?_
   refine q_skip rfl rfl rfl rfl rfl rfl ?_
   refine q_skip rfl rfl rfl rfl rfl rfl ?_
   refine q_skip rfl rfl rfl rfl rfl rfl ?_
   refine q_skip rfl rfl rfl rfl rfl rfl ?_
   refine q_skip rfl rfl rfl rfl rfl rfl ?_
   refine q_val (v := .bool false) rfl rfl rfl (e_pick_f rfl) ?_
   refine q_nil ?_
   refine f_then ?_
   refine c_no rfl ?_
   refine c_skip ?_
   refine f_block ?_
   refine f_then ?_
   refine c_region ?_
   refine l_val (v := Nx (i)) rfl rfl rfl (e_move) ?_
   refine l_val (v := Nx (i + 1)) rfl rfl rfl (e_add (a := ((i : Nat) : Int)) (b := (1 : Int)) rfl rfl (i64n (by omega) (by omega))) ?_
   refine l_val (v := Nx (i + 1)) rfl rfl rfl (e_assign) ?_
   refine l_nil ?_
   obtain ⟨xq, hxq⟩ : ∃ z, bs[i]? = some z := ⟨_, List.getElem?_eq_getElem (by omega)⟩
   exact f_cut ⟨i + 1, ⟨⟨rfl, rfl, rfl, rfl⟩, rfl, ⟨by omega, hits_next hxq hp (fun q => absurd ((id_iff ho hxq hk).1 q.1) (by omega))⟩⟩, (show bs.length - (i + 1) < bs.length - i from by omega)⟩
 ·
  refine c_exit ?_
  refine f_then_exit ?_
  refine f_then_exit ?_
  refine f_exit ?_
  refine f_then ?_
  refine c_seq ?_
  refine c_region ?_
  refine l_val (v := .int .i64 (-1)) rfl rfl rfl (e_assign) ?_
  refine l_nil ?_
  refine f_then ?_
  refine c_ret ?_
  refine ret1 Tryz.results179 (v := .int .i64 (-1)) rfl ?_
  intro w hw
  exact ⟨congrArg (fun z : Int => Ending.returned (Ix z)) (show (-1 : Int) = hitI bs b nb by unfold hitI; rw [hit_no (m := i) (by omega) hp]; rfl), st_mask [false, false] rfl hw⟩
theorem find7K_ok (β : Base) (w : World) (hw : St β [] w) (v : Value) (xs : List KB) (hs : Sl KBR β.heap v xs) (i : Int) (k : Nat) (hk : idxI (fun y : KB => decide (y.id = i)) xs = k) : Calls Tryz.prog 70 #[v, Ix i] w fun r w' => r = .returned (Nx k) ∧ St β [] w' := by
 refine (find7_ok β w hw v xs hs i).mono ?_
 rintro r w' ⟨rfl, hw'⟩
 exact ⟨by rw [hk], hw'⟩
set_option maxHeartbeats 4000000 in
theorem held8_ok (β : Base) (w : World) (hw : St β [] w) (v rv : Value) (gx gy : Int) (bs : List KB) (rs : List KR) (hs : Sl KBR β.heap v bs) (hr : Sl KRR β.heap rv rs) (ho : ordB bs) (hbs : ∀ o ∈ bs, okB o) (hrs : ∀ r ∈ rs, okR bs r) (k : Nat) (b : KB) (hk : bs[k]? = some b) (nb : KB) (mid_nb : midB nb) (hid : nb.id = b.id) : Calls Tryz.prog 180 #[.agg #[v, rv, Ix gx, Ix gy], Nx k, .agg (bC nb)] w fun r w' => r = .returned (.bool (held bs rs b nb)) ∧ St β [] w' := by
 obtain ⟨va, vc, rfl, vl, vm, ve⟩ := hs.get
 obtain ⟨rva, rvc, rfl, rvl, rvm, rve⟩ := hr.get
 have hkl := (List.getElem?_eq_some_iff.1 hk).1
 obtain ⟨hak, csk, hck, rfl⟩ := ve _ _ hk
 have mid_b := (hbs _ (List.mem_of_getElem? hk)).mid
 refine enter (n := 67) Tryz.func180 rfl Tryz.ntmps180 rfl ?_ hw
 refine c_seq ?_
 refine c_region ?_
 refine l_mv rfl rfl rfl (m_box (v := .agg #[.slice va (bs.length) (vc), .slice rva (rs.length) (rvc), Ix (gx), Ix (gy)]) rfl) ?_
 rintro _ _ ⟨b1, rfl, rfl⟩
 refine l_mv rfl rfl rfl (m_box (v := .agg (bC nb)) rfl) ?_
 rintro _ _ ⟨b2, rfl, rfl⟩
 refine l_val (v := .bool false) rfl rfl rfl (e_assign) ?_
 refine l_nil ?_
 refine f_then ?_
 refine c_seq ?_
 refine c_seq ?_
 refine c_region ?_
 refine l_val (v := .int .i64 (0)) rfl rfl rfl (e_assign) ?_
 refine l_nil ?_
 refine f_then ?_
 refine c_block ?_
 refine c_loop (fun (i : Nat) (f : Fm) (L : List Res) => (f 1 = Nx (k) ∧ f 3 = .pointer (some ⟨b1, 0, none⟩) ∧ f 5 = .pointer (some ⟨b2, 0, none⟩) ∧ f 7 = Nx (i)) ∧ L = [pt b2 (.cells (bC nb) 52), pt b1 (.cells #[.slice va (bs.length) (vc), .slice rva (rs.length) (rvc), Ix (gx), Ix (gy)] 30)] ∧ (i ≤ rs.length ∧ held bs (rs.take i) b nb = false)) (fun (i : Nat) => rs.length - i) 0 ?_ ?_
 ·exact ⟨⟨rfl, rfl, rfl, rfl⟩, rfl, ⟨by omega, rfl⟩⟩
 rintro i f0 L0 ⟨⟨hs1, hs3, hs5, hs7⟩, hL, ⟨hi, hp⟩⟩
 subst L0
 refine rebase (d := 1) hs1 ?_
 refine rebase (d := 3) hs3 ?_
 refine rebase (d := 5) hs5 ?_
 refine rebase (d := 7) hs7 ?_
 clear hs1 hs3 hs5 hs7
 refine c_seq ?_
 refine c_seq ?_
 refine c_region ?_
 refine l_val (v := Nx (i)) rfl rfl rfl (e_move) ?_
 refine l_val (v := .pointer (some ⟨b1, 1, none⟩)) rfl rfl rfl (e_fieldPt (b := b1) (o := 0) rfl tf55) ?_
 refine l_val (v := .slice rva (rs.length) (rvc)) rfl rfl rfl (e_load1 tf56 (v := .slice rva (rs.length) (rvc)) rfl (k_pt 1 (cs := #[.slice va (bs.length) (vc), .slice rva (rs.length) (rvc), Ix (gx), Ix (gy)]) (vs := [.slice rva (rs.length) (rvc)]) rfl rfl)) ?_
 refine l_val (v := Nx (rs.length)) rfl rfl rfl (e_len (a := rva) (n := rs.length) (c := rvc) rfl tf45) ?_
 refine l_val (v := .bool (decide (((i : Nat) : Int) < ((rs.length : Nat) : Int)))) rfl rfl rfl (e_lss (a := ((i : Nat) : Int)) (b := ((rs.length : Nat) : Int)) rfl rfl) ?_
 refine l_nil ?_
 refine f_then ?_
 refine c_if (((i : Nat) : Int) < ((rs.length : Nat) : Int)) rfl (fun hc3 => ?_) (fun hc3 => ?_)
 ·
  refine c_skip ?_
  refine f_then ?_
  refine c_seq ?_
  refine c_block ?_
  refine c_seq ?_
  refine c_region ?_
  refine l_val (v := .pointer (some ⟨b1, 1, none⟩)) rfl rfl rfl (e_fieldPt (b := b1) (o := 0) rfl tf55) ?_
  refine l_val (v := .slice rva (rs.length) (rvc)) rfl rfl rfl (e_load1 tf56 (v := .slice rva (rs.length) (rvc)) rfl (k_pt 1 (cs := #[.slice va (bs.length) (vc), .slice rva (rs.length) (rvc), Ix (gx), Ix (gy)]) (vs := [.slice rva (rs.length) (rvc)]) rfl rfl)) ?_
  refine l_val (v := Nx (i)) rfl rfl rfl (e_move) ?_
  obtain ⟨x4, hx5⟩ : ∃ x_, (rs)[i]? = some x_ := ⟨_, List.getElem?_eq_getElem (by omega)⟩
  obtain ⟨ha6, cs7, hc8, rfl⟩ := rve _ _ hx5
  refine l_val (v := .pointer (some ((ba rva).add (i * 3)))) rfl rfl rfl (e_indexAddr (k := i) (len := rs.length) (cap := rvc) (a := rva) rfl rfl tf46 (by omega) ha6) ?_
  refine l_val (v := .agg #[Ix (x4.a), Ix (x4.b), Ix (x4.len)]) rfl rfl rfl (e_load tf47 (cs := [Ix (x4.a), Ix (x4.b), Ix (x4.len)]) rfl (Knows.of_base (Cs.mono _ _) hc8) rfl) ?_
  refine l_mv rfl rfl rfl (m_alloc tf77) ?_
  rintro _ _ ⟨b10, rfl, rfl⟩
  refine l_mu rfl rfl (m_store 0 tf47 (b := b10) (o := 0) (T := 78) (cs := #[.int .i64 (0), .int .i64 (0), .int .i64 (0)]) (cs' := #[Ix (x4.a), Ix (x4.b), Ix (x4.len)]) (v := .agg #[Ix (x4.a), Ix (x4.b), Ix (x4.len)]) rfl rfl rfl rfl rfl rfl rfl) ?_
  refine l_nil ?_
  refine f_then ?_
  refine c_seq ?_
  refine c_region ?_
  refine l_val (v := .pointer (some ⟨b10, 0, none⟩)) rfl rfl rfl (e_fieldPt (b := b10) (o := 0) rfl tf51) ?_
  refine l_val (v := Ix (x4.a)) rfl rfl rfl (e_load1 tf2 (v := Ix (x4.a)) rfl (k_pt 0 (cs := #[Ix (x4.a), Ix (x4.b), Ix (x4.len)]) (vs := [Ix (x4.a)]) rfl rfl)) ?_
  refine l_val (v := Ix (x4.a)) rfl rfl rfl (e_assign) ?_
  refine l_nil ?_
  refine f_then ?_
  refine c_seq ?_
  refine c_seq ?_
  refine c_region ?_
  refine l_val (v := .pointer (some ⟨b10, 0, none⟩)) rfl rfl rfl (e_fieldPt (b := b10) (o := 0) rfl tf51) ?_
  refine l_val (v := Ix (x4.a)) rfl rfl rfl (e_load1 tf2 (v := Ix (x4.a)) rfl (k_pt 0 (cs := #[Ix (x4.a), Ix (x4.b), Ix (x4.len)]) (vs := [Ix (x4.a)]) rfl rfl)) ?_
  refine l_val (v := .pointer (some ⟨b2, 0, none⟩)) rfl rfl rfl (e_fieldPt (b := b2) (o := 0) rfl tf3) ?_
  refine l_val (v := Ix (nb.id)) rfl rfl rfl (e_load1 tf2 (v := Ix (nb.id)) rfl (k_pt 1 (cs := (bC nb)) (vs := [Ix (nb.id)]) rfl rfl)) ?_
  refine l_val (v := .bool (decide ((x4.a) = (nb.id)))) rfl rfl rfl (e_eql (a := (x4.a)) (b := (nb.id)) rfl rfl) ?_
  refine l_nil ?_
  refine f_then ?_
  refine c_if ((x4.a) = (nb.id)) rfl (fun hc11 => ?_) (fun hc11 => ?_)
  ·
   refine c_region ?_
   refine l_val (v := .pointer (some ⟨b10, 1, none⟩)) rfl rfl rfl (e_fieldPt (b := b10) (o := 0) rfl tf53) ?_
   refine l_val (v := Ix (x4.b)) rfl rfl rfl (e_load1 tf2 (v := Ix (x4.b)) rfl (k_pt 0 (cs := #[Ix (x4.a), Ix (x4.b), Ix (x4.len)]) (vs := [Ix (x4.b)]) rfl rfl)) ?_
   refine l_val (v := Ix (x4.b)) rfl rfl rfl (e_assign) ?_
   refine l_nil ?_
   refine f_then ?_
   refine c_seq ?_
   have he : x4.a = b.id ∨ x4.b = b.id := .inl (by rw [← hid]; exact hc11)
   have hok := hrs _ (List.mem_of_getElem? hx5)
   have hri := rope_ids hbs hok
   obtain ⟨o, hfo⟩ := end_found hok he
   have hen := endOf_some he hfo
   rw [show x4.a + x4.b - b.id = x4.b by omega] at hfo
   obtain ⟨kq, hkq, hx0⟩ := idx_body hfo
   have hk1 := (List.getElem?_eq_some_iff.1 hx0).1
   obtain ⟨ha0, cs0, hc0, rfl⟩ := ve _ _ hx0
   have mid_o := (hbs _ (List.mem_of_getElem? hx0)).mid
   have hq := sq_bd (x := x4.len) (B := 2097152) (by omega) (by omega)
   refine c_any [⟨[], [], [0], [38], fun f => f 38 = .pointer (some ⟨b1, 0, none⟩)⟩, ⟨[0], [0], [], [39], fun f => f 39 = .slice va (bs.length) (vc)⟩, ⟨[], [], [0], [40], fun f => f 40 = .pointer (some ⟨b1, 0, none⟩)⟩, ⟨[2], [2], [], [41], fun f => f 41 = .slice va (bs.length) (vc)⟩, ⟨[], [], [1], [42], fun f => f 42 = Ix (x4.b)⟩, ⟨[2, 3, 4], [3, 4], [], [43], fun f => f 43 = Nx (kq)⟩, ⟨[0, 1, 2, 3, 4, 5], [1, 5], [], [44], fun f => f 44 = .pointer (some ((ba va).add (kq * 9)))⟩, ⟨[0, 1, 2, 3, 4, 5, 6], [6], [], [45], fun f => f 45 = .agg (bC o)⟩, ⟨[], [], [], [10], fun f => f 10 = .pointer (some ⟨(blk (f 10)), 0, none⟩)⟩, ⟨[0, 1, 2, 3, 4, 5, 6, 7, 8], [8, 7], [], [], fun _ => True⟩] [⟨none, none, [], [], fun _ => pt b10 (.cells #[Ix (x4.a), Ix (x4.b), Ix (x4.len)] 78)⟩, ⟨none, none, [], [], fun _ => pt b2 (.cells (bC nb) 52)⟩, ⟨none, none, [1, 3], [], fun _ => pt b1 (.cells #[.slice va (bs.length) (vc), .slice rva (rs.length) (rvc), Ix (gx), Ix (gy)] 30)⟩, ⟨(some 8), (some 9), [9], [10], fun f => pt (blk (f 10)) (.cells #[.int .i64 (0), .int .i64 (0), .int .i64 (0), .int .i64 (0), .int .i64 (0), .int .i64 (0), .int .i64 (0), .bool false, .bool false] 52)⟩, ⟨(some 9), none, [], [10], fun f => pt (blk (f 10)) (.cells (bC o) 52)⟩] [(3, .pointer (some ⟨b1, 0, none⟩)), (9, Ix (x4.b)), (1, Nx (k)), (5, .pointer (some ⟨b2, 0, none⟩)), (7, Nx (i)), (8, .pointer (some ⟨b10, 0, none⟩))] [2, 0, 3, 4, 5] [] (by kernel_rfl) (by kernel_rfl) (by kernel_rfl) (by kernel_rfl) rfl ⟨rfl, rfl, rfl, rfl, rfl, rfl, trivial⟩ ⟨?_, ?_, ?_, ?_, ?_, ?_, ?_, ?_, ?_, ?_, trivial⟩ ?_
   ·rintro f M - ⟨i0, -⟩
    have hs3 : f 3 = .pointer (some ⟨b1, 0, none⟩) := i0
    refine ob_start (L' := M) (by rfl) (up_cons rfl hs3) ?_
    refine l_val (v := .pointer (some ⟨b1, 0, none⟩)) rfl rfl rfl (e_fieldPt (b := b1) (o := 0) rfl tf49) ?_
    refine l_nil ?_
    exact f_owes_d (up_cons rfl hs3) rfl (List.Perm.refl _)
   ·rintro f M ⟨k0, -⟩ -
    have hs38 : f 38 = .pointer (some ⟨b1, 0, none⟩) := k0
    refine ob_start (L' := pt b1 (.cells #[.slice va (bs.length) (vc), .slice rva (rs.length) (rvc), Ix (gx), Ix (gy)] 30) :: M) (by rfl) (up_cons rfl hs38) ?_
    refine l_val (v := .slice va (bs.length) (vc)) rfl rfl rfl (e_load1 tf50 (v := .slice va (bs.length) (vc)) rfl (k_pt 0 (cs := #[.slice va (bs.length) (vc), .slice rva (rs.length) (rvc), Ix (gx), Ix (gy)]) (vs := [.slice va (bs.length) (vc)]) rfl rfl)) ?_
    refine l_nil ?_
    exact f_owes_d (up_cons rfl hs38) rfl (perm_front 0 rfl)
   ·rintro f M - ⟨i0, -⟩
    have hs3 : f 3 = .pointer (some ⟨b1, 0, none⟩) := i0
    refine ob_start (L' := M) (by rfl) (up_cons rfl hs3) ?_
    refine l_val (v := .pointer (some ⟨b1, 0, none⟩)) rfl rfl rfl (e_fieldPt (b := b1) (o := 0) rfl tf49) ?_
    refine l_nil ?_
    exact f_owes_d (up_cons rfl hs3) rfl (List.Perm.refl _)
   ·rintro f M ⟨k0, -⟩ -
    have hs40 : f 40 = .pointer (some ⟨b1, 0, none⟩) := k0
    refine ob_start (L' := pt b1 (.cells #[.slice va (bs.length) (vc), .slice rva (rs.length) (rvc), Ix (gx), Ix (gy)] 30) :: M) (by rfl) (up_cons rfl hs40) ?_
    refine l_val (v := .slice va (bs.length) (vc)) rfl rfl rfl (e_load1 tf50 (v := .slice va (bs.length) (vc)) rfl (k_pt 0 (cs := #[.slice va (bs.length) (vc), .slice rva (rs.length) (rvc), Ix (gx), Ix (gy)]) (vs := [.slice va (bs.length) (vc)]) rfl rfl)) ?_
    refine l_nil ?_
    exact f_owes_d (up_cons rfl hs40) rfl (perm_front 0 rfl)
   ·rintro f M - ⟨i0, -⟩
    have hs9 : f 9 = Ix (x4.b) := i0
    refine ob_start (L' := M) (by rfl) (up_cons rfl hs9) ?_
    refine l_val (v := Ix (x4.b)) rfl rfl rfl (e_move) ?_
    refine l_nil ?_
    exact f_owes_d (up_cons rfl hs9) rfl (List.Perm.refl _)
   ·rintro f M ⟨k0, k1, -⟩ -
    have hs41 : f 41 = .slice va (bs.length) (vc) := k0
    have hs42 : f 42 = Ix (x4.b) := k1
    refine ob_start (L' := M) (by rfl) (up_cons (up_cons rfl hs41) hs42) ?_
    refine l_call rfl rfl rfl (cl_value (fst := []) (cap := []) (vs := [.slice va (bs.length) (vc), Ix (x4.b)]) (all := [.slice va (bs.length) (vc), Ix (x4.b)]) tf122 rfl rfl rfl) ?_
    intro w hw
    obtain ⟨β1, sb, kn, hw1, back⟩ := St.frame_all hw
    refine (find7K_ok β1 w hw1 _ bs (Sl.mono _ _ _ _ _ sb (⟨⟨_, _, rfl, vl, vm, ve⟩⟩ : Sl KBR _ _ bs)) (x4.b) kq hkq).mono ?_
    rintro e w' ⟨rfl, hw'⟩
    refine ⟨_, rfl, _, back _ _ hw', ?_⟩
    clear hw hw1 hw' back kn sb
    refine l_nil ?_
    exact f_owes_d (up_cons (up_cons rfl hs41) hs42) rfl (List.Perm.refl _)
   ·rintro f M ⟨k0, k1, -⟩ -
    have hs39 : f 39 = .slice va (bs.length) (vc) := k0
    have hs43 : f 43 = Nx (kq) := k1
    refine ob_start (L' := M) (by rfl) (up_cons (up_cons rfl hs39) hs43) ?_
    refine l_val (v := .pointer (some ((ba va).add (kq * 9)))) rfl rfl rfl (e_indexAddr (k := kq) (len := bs.length) (cap := vc) (a := va) rfl rfl tf43 (by omega) ha0) ?_
    refine l_nil ?_
    exact f_owes_d (up_cons (up_cons rfl hs39) hs43) rfl (List.Perm.refl _)
   ·rintro f M ⟨k0, -⟩ -
    have hs44 : f 44 = .pointer (some ((ba va).add (kq * 9))) := k0
    refine ob_start (L' := M) (by rfl) (up_cons rfl hs44) ?_
    refine l_val (v := .agg (bC o)) rfl rfl rfl (e_load tf22 (cs := (bodyE o)) rfl (Knows.of_base (Cs.mono _ _) hc0) rfl) ?_
    refine l_nil ?_
    exact f_owes_d (up_cons rfl hs44) rfl (List.Perm.refl _)
   ·rintro f M - -
    refine ob_start (L' := M) (by rfl) rfl ?_
    refine l_mv rfl rfl rfl (m_alloc tf58) ?_
    rintro _ _ ⟨b13, rfl, rfl⟩
    refine l_nil ?_
    exact f_owes_d rfl rfl (perm_front 0 rfl)
   ·rintro f M ⟨k0, k1, -⟩ -
    have hs10 : f 10 = .pointer (some ⟨(blk (f 10)), 0, none⟩) := k0
    have hs45 : f 45 = .agg (bC o) := k1
    refine ob_start (L' := pt (blk (f 10)) (.cells #[.int .i64 (0), .int .i64 (0), .int .i64 (0), .int .i64 (0), .int .i64 (0), .int .i64 (0), .int .i64 (0), .bool false, .bool false] 52) :: M) (by rfl) (up_cons (up_cons rfl hs10) hs45) ?_
    refine l_mu rfl rfl (m_store 0 tf22 (b := (blk (f 10))) (o := 0) (T := 52) (cs := #[.int .i64 (0), .int .i64 (0), .int .i64 (0), .int .i64 (0), .int .i64 (0), .int .i64 (0), .int .i64 (0), .bool false, .bool false]) (cs' := (bC o)) (v := .agg (bC o)) rfl rfl rfl rfl rfl rfl rfl) ?_
    refine l_nil ?_
    exact f_owes_n (up_cons (up_cons rfl hs10) hs45) trivial (perm_front 0 rfl)
   rintro fa14 ⟨-, -, -, -, -, -, -, -, k8, -, -⟩ ⟨j0, j1, j2, j3, j4, -⟩
   refine f_re (L' := [pt b10 (.cells #[Ix (x4.a), Ix (x4.b), Ix (x4.len)] 78), pt b2 (.cells (bC nb) 52), pt b1 (.cells #[.slice va (bs.length) (vc), .slice rva (rs.length) (rvc), Ix (gx), Ix (gy)] 30), pt (blk (fa14 10)) (.cells (bC o) 52)]) (by rfl) ?_
   refine f_rebase (d := 1) (v := Nx (k)) j0 ?_
   refine f_rebase (d := 3) (v := .pointer (some ⟨b1, 0, none⟩)) j1 ?_
   refine f_rebase (d := 5) (v := .pointer (some ⟨b2, 0, none⟩)) j2 ?_
   refine f_rebase (d := 7) (v := Nx (i)) j3 ?_
   refine f_rebase (d := 8) (v := .pointer (some ⟨b10, 0, none⟩)) j4 ?_
   refine f_rebase (d := 10) (v := .pointer (some ⟨(blk (fa14 10)), 0, none⟩)) k8 ?_
   refine f_then ?_
   refine c_seq ?_
   refine c_region ?_
   refine l_val (v := .agg (bC nb)) rfl rfl rfl (e_load tf22 (cs := (bodyE nb)) rfl (k_pt 1 (cs := (bC nb)) (vs := (bodyE nb)) rfl rfl) rfl) ?_
   refine l_val (v := .agg (bC o)) rfl rfl rfl (e_load tf22 (cs := (bodyE o)) rfl (k_pt 3 (cs := (bC o)) (vs := (bodyE o)) rfl rfl) rfl) ?_
   refine l_call rfl rfl rfl (cl_value (fst := []) (cap := []) (vs := [.agg (bC nb), .agg (bC o)]) (all := [.agg (bC nb), .agg (bC o)]) tf123 rfl rfl rfl) ?_
   intro w hw
   obtain ⟨β1, sb, kn, hw1, back⟩ := St.frame_all hw
   refine (far8_ok β1 w hw1 nb o mid_nb mid_o).mono ?_
   rintro e w' ⟨rfl, hw'⟩
   refine ⟨_, rfl, _, back _ _ hw', ?_⟩
   clear hw hw1 hw' back kn sb
   refine l_val (v := Ix (Stp.dist nb o)) rfl rfl rfl (e_assign) ?_
   refine l_nil ?_
   refine f_then ?_
   refine c_seq ?_
   refine c_quiet (by kernel_rfl) (by kernel_rfl) ?_
   refine q_val (v := Ix (Stp.dist nb o)) rfl rfl rfl (e_move) ?_
   refine q_val (v := .pointer (some ⟨b10, 2, none⟩)) rfl rfl rfl (e_fieldPt (b := b10) (o := 0) rfl tf54) ?_
   refine q_val (v := Ix (x4.len)) rfl rfl rfl (e_load1 tf2 (v := Ix (x4.len)) rfl (k_pt 0 (cs := #[Ix (x4.a), Ix (x4.b), Ix (x4.len)]) (vs := [Ix (x4.len)]) rfl rfl)) ?_
   refine q_val (v := .pointer (some ⟨b10, 2, none⟩)) rfl rfl rfl (e_fieldPt (b := b10) (o := 0) rfl tf54) ?_
   refine q_val (v := Ix (x4.len)) rfl rfl rfl (e_load1 tf2 (v := Ix (x4.len)) rfl (k_pt 0 (cs := #[Ix (x4.a), Ix (x4.b), Ix (x4.len)]) (vs := [Ix (x4.len)]) rfl rfl)) ?_
   refine q_val (v := Ix ((x4.len) * (x4.len))) rfl rfl rfl (e_mul (a := (x4.len)) (b := (x4.len)) rfl rfl (i64w (by omega))) ?_
   refine q_val (v := .bool (decide (((x4.len) * (x4.len)) < (Stp.dist nb o)))) rfl rfl rfl (e_gtr (a := (Stp.dist nb o)) (b := ((x4.len) * (x4.len))) rfl rfl) ?_
   refine q_val (v := .bool (decide (((x4.len) * (x4.len)) < (Stp.dist nb o)))) rfl rfl rfl (e_move) ?_
   refine q_split (s := 56) (p := ((x4.len) * (x4.len)) < (Stp.dist nb o)) rfl (fun hg15 => ?_) (fun hg15 => ?_)
   ·
    refine qg_val (v := Ix (Stp.dist nb o)) rfl rfl rfl rfl rfl (e_move) ?_
    refine qg_val (v := .pointer (some ⟨b1, 0, none⟩)) rfl rfl rfl rfl rfl (e_fieldPt (b := b1) (o := 0) rfl tf49) ?_
    refine qg_val (v := .slice va (bs.length) (vc)) rfl rfl rfl rfl rfl (e_load1 tf50 (v := .slice va (bs.length) (vc)) rfl (k_pt 2 (cs := #[.slice va (bs.length) (vc), .slice rva (rs.length) (rvc), Ix (gx), Ix (gy)]) (vs := [.slice va (bs.length) (vc)]) rfl rfl)) ?_
    refine qg_val (v := Nx (k)) rfl rfl rfl rfl rfl (e_move) ?_
    refine qg_val (v := .pointer (some ((ba va).add (k * 9)))) rfl rfl rfl rfl rfl (e_indexAddr (k := k) (len := bs.length) (cap := vc) (a := va) rfl rfl tf43 (by omega) hak) ?_
    refine qg_val (v := .agg (bC b)) rfl rfl rfl rfl rfl (e_load tf22 (cs := (bodyE b)) rfl (Knows.of_base (Cs.mono _ _) hck) rfl) ?_
    refine qg_val (v := .agg (bC o)) rfl rfl rfl rfl rfl (e_load tf22 (cs := (bodyE o)) rfl (k_pt 3 (cs := (bC o)) (vs := (bodyE o)) rfl rfl) rfl) ?_
    refine qg_call (v := Ix (Stp.dist b o)) rfl rfl rfl rfl rfl (cl_value (fst := []) (cap := []) (vs := [.agg (bC b), .agg (bC o)]) (all := [.agg (bC b), .agg (bC o)]) tf123 rfl rfl rfl) (fun w hw => ?_) ?_
    ·obtain ⟨β1, sb, kn, hw1, back⟩ := St.frame_all hw
     exact (far8_ok β1 w hw1 b o mid_b mid_o).mono (fun e w' ⟨he, hw'⟩ => ⟨he, st_mask [true, true, true, true] rfl (back _ _ hw')⟩)
    refine qg_val (v := .bool (decide ((Stp.dist b o) < (Stp.dist nb o)))) rfl rfl rfl rfl rfl (e_gtr (a := (Stp.dist nb o)) (b := (Stp.dist b o)) rfl rfl) ?_
    refine q_val (v := .bool (decide ((Stp.dist b o) < (Stp.dist nb o)))) rfl rfl rfl (e_pick_t rfl) ?_
    refine q_nil ?_
    refine f_then ?_
    refine c_if ((Stp.dist b o) < (Stp.dist nb o)) rfl (fun hc16 => ?_) (fun hc16 => ?_)
    ·
     refine c_seq ?_
     refine c_region ?_
     refine l_val (v := .bool true) rfl rfl rfl (e_assign) ?_
     refine l_nil ?_
     refine f_then ?_
     refine c_ret ?_
     refine f_block_ret ?_
     refine f_then_ret ?_
     refine f_then_ret ?_
     refine f_block_ret ?_
     refine f_then_ret ?_
     refine ret1 Tryz.results180 (v := .bool true) rfl ?_
     intro w hw
     exact ⟨congrArg (fun b : Bool => Ending.returned (.bool b)) (held_prefix (k := i + 1) (by rw [held_snoc hx5, hen]; simp only [Bool.or_eq_true, decide_eq_true_eq]; right; omega)).symm, st_mask [false, false, false, false] rfl hw⟩
    ·
     refine c_skip ?_
     refine f_block ?_
     refine f_then ?_
     refine c_region ?_
     refine l_val (v := Nx (i)) rfl rfl rfl (e_move) ?_
     refine l_val (v := Nx (i + 1)) rfl rfl rfl (e_add (a := ((i : Nat) : Int)) (b := (1 : Int)) rfl rfl (i64n (by omega) (by omega))) ?_
     refine l_val (v := Nx (i + 1)) rfl rfl rfl (e_assign) ?_
     refine l_nil ?_
     refine f_mask (L' := [pt b2 (.cells (bC nb) 52), pt b1 (.cells #[.slice va (bs.length) (vc), .slice rva (rs.length) (rvc), Ix (gx), Ix (gy)] 30)]) [false, true, true, false] rfl ?_
     exact f_cut ⟨i + 1, ⟨⟨rfl, rfl, rfl, rfl⟩, rfl, ⟨by omega, by rw [held_snoc hx5, hen, hp]; simp only [Bool.false_or, decide_eq_false_iff_not]; omega⟩⟩, (show rs.length - (i + 1) < rs.length - i from by omega)⟩
   ·
    refine q_skip rfl rfl rfl rfl rfl rfl ?_
    refine q_skip rfl rfl rfl rfl rfl rfl ?_
    refine q_skip rfl rfl rfl rfl rfl rfl ?_
    refine q_skip rfl rfl rfl rfl rfl rfl ?_
    refine q_skip rfl rfl rfl rfl rfl rfl ?_
    refine q_skip rfl rfl rfl rfl rfl rfl ?_
    refine q_skip rfl rfl rfl rfl rfl rfl ?_
    refine q_skip rfl rfl rfl rfl rfl rfl ?_
    refine q_skip rfl rfl rfl rfl rfl rfl ?_
    refine q_val (v := .bool false) rfl rfl rfl (e_pick_f rfl) ?_
    refine q_nil ?_
    refine f_then ?_
    refine c_no rfl ?_
    refine c_skip ?_
    refine f_block ?_
    refine f_then ?_
    refine c_region ?_
    refine l_val (v := Nx (i)) rfl rfl rfl (e_move) ?_
    refine l_val (v := Nx (i + 1)) rfl rfl rfl (e_add (a := ((i : Nat) : Int)) (b := (1 : Int)) rfl rfl (i64n (by omega) (by omega))) ?_
    refine l_val (v := Nx (i + 1)) rfl rfl rfl (e_assign) ?_
    refine l_nil ?_
    refine f_mask (L' := [pt b2 (.cells (bC nb) 52), pt b1 (.cells #[.slice va (bs.length) (vc), .slice rva (rs.length) (rvc), Ix (gx), Ix (gy)] 30)]) [false, true, true, false] rfl ?_
    exact f_cut ⟨i + 1, ⟨⟨rfl, rfl, rfl, rfl⟩, rfl, ⟨by omega, by rw [held_snoc hx5, hen, hp]; simp only [Bool.false_or, decide_eq_false_iff_not]; omega⟩⟩, (show rs.length - (i + 1) < rs.length - i from by omega)⟩
  ·
   refine c_seq ?_
   refine c_region ?_
   refine l_val (v := .pointer (some ⟨b10, 1, none⟩)) rfl rfl rfl (e_fieldPt (b := b10) (o := 0) rfl tf53) ?_
   refine l_val (v := Ix (x4.b)) rfl rfl rfl (e_load1 tf2 (v := Ix (x4.b)) rfl (k_pt 0 (cs := #[Ix (x4.a), Ix (x4.b), Ix (x4.len)]) (vs := [Ix (x4.b)]) rfl rfl)) ?_
   refine l_val (v := .pointer (some ⟨b2, 0, none⟩)) rfl rfl rfl (e_fieldPt (b := b2) (o := 0) rfl tf3) ?_
   refine l_val (v := Ix (nb.id)) rfl rfl rfl (e_load1 tf2 (v := Ix (nb.id)) rfl (k_pt 1 (cs := (bC nb)) (vs := [Ix (nb.id)]) rfl rfl)) ?_
   refine l_val (v := .bool (decide ((x4.b) ≠ (nb.id)))) rfl rfl rfl (e_neq (a := (x4.b)) (b := (nb.id)) rfl rfl) ?_
   refine l_nil ?_
   refine f_then ?_
   refine c_if ((x4.b) ≠ (nb.id)) rfl (fun hc17 => ?_) (fun hc17 => ?_)
   ·
    refine c_exit ?_
    refine f_then_exit ?_
    refine f_exit ?_
    refine f_then ?_
    refine c_region ?_
    refine l_val (v := Nx (i)) rfl rfl rfl (e_move) ?_
    refine l_val (v := Nx (i + 1)) rfl rfl rfl (e_add (a := ((i : Nat) : Int)) (b := (1 : Int)) rfl rfl (i64n (by omega) (by omega))) ?_
    refine l_val (v := Nx (i + 1)) rfl rfl rfl (e_assign) ?_
    refine l_nil ?_
    refine f_mask (L' := [pt b2 (.cells (bC nb) 52), pt b1 (.cells #[.slice va (bs.length) (vc), .slice rva (rs.length) (rvc), Ix (gx), Ix (gy)] 30)]) [false, true, true] rfl ?_
    exact f_cut ⟨i + 1, ⟨⟨rfl, rfl, rfl, rfl⟩, rfl, ⟨by omega, by rw [held_snoc hx5, endOf_skip (by rw [← hid]; exact hc11) (by rw [← hid]; exact hc17), hp]; rfl⟩⟩, (show rs.length - (i + 1) < rs.length - i from by omega)⟩
   ·
    refine c_skip ?_
    refine f_then ?_
    refine c_seq ?_
    have he : x4.a = b.id ∨ x4.b = b.id := .inr (by rw [← hid]; exact Decidable.not_not.1 hc17)
    have hok := hrs _ (List.mem_of_getElem? hx5)
    have hri := rope_ids hbs hok
    obtain ⟨o, hfo⟩ := end_found hok he
    have hen := endOf_some he hfo
    rw [show x4.a + x4.b - b.id = x4.a by omega] at hfo
    obtain ⟨kq, hkq, hx0⟩ := idx_body hfo
    have hk1 := (List.getElem?_eq_some_iff.1 hx0).1
    obtain ⟨ha0, cs0, hc0, rfl⟩ := ve _ _ hx0
    have mid_o := (hbs _ (List.mem_of_getElem? hx0)).mid
    have hq := sq_bd (x := x4.len) (B := 2097152) (by omega) (by omega)
    refine c_any [⟨[], [], [0], [38], fun f => f 38 = .pointer (some ⟨b1, 0, none⟩)⟩, ⟨[0], [0], [], [39], fun f => f 39 = .slice va (bs.length) (vc)⟩, ⟨[], [], [0], [40], fun f => f 40 = .pointer (some ⟨b1, 0, none⟩)⟩, ⟨[2], [2], [], [41], fun f => f 41 = .slice va (bs.length) (vc)⟩, ⟨[], [], [1], [42], fun f => f 42 = Ix (x4.a)⟩, ⟨[2, 3, 4], [3, 4], [], [43], fun f => f 43 = Nx (kq)⟩, ⟨[0, 1, 2, 3, 4, 5], [1, 5], [], [44], fun f => f 44 = .pointer (some ((ba va).add (kq * 9)))⟩, ⟨[0, 1, 2, 3, 4, 5, 6], [6], [], [45], fun f => f 45 = .agg (bC o)⟩, ⟨[], [], [], [10], fun f => f 10 = .pointer (some ⟨(blk (f 10)), 0, none⟩)⟩, ⟨[0, 1, 2, 3, 4, 5, 6, 7, 8], [8, 7], [], [], fun _ => True⟩] [⟨none, none, [], [], fun _ => pt b10 (.cells #[Ix (x4.a), Ix (x4.b), Ix (x4.len)] 78)⟩, ⟨none, none, [], [], fun _ => pt b2 (.cells (bC nb) 52)⟩, ⟨none, none, [1, 3], [], fun _ => pt b1 (.cells #[.slice va (bs.length) (vc), .slice rva (rs.length) (rvc), Ix (gx), Ix (gy)] 30)⟩, ⟨(some 8), (some 9), [9], [10], fun f => pt (blk (f 10)) (.cells #[.int .i64 (0), .int .i64 (0), .int .i64 (0), .int .i64 (0), .int .i64 (0), .int .i64 (0), .int .i64 (0), .bool false, .bool false] 52)⟩, ⟨(some 9), none, [], [10], fun f => pt (blk (f 10)) (.cells (bC o) 52)⟩] [(3, .pointer (some ⟨b1, 0, none⟩)), (9, Ix (x4.a)), (1, Nx (k)), (5, .pointer (some ⟨b2, 0, none⟩)), (7, Nx (i)), (8, .pointer (some ⟨b10, 0, none⟩))] [2, 0, 3, 4, 5] [] (by kernel_rfl) (by kernel_rfl) (by kernel_rfl) (by kernel_rfl) rfl ⟨rfl, rfl, rfl, rfl, rfl, rfl, trivial⟩ ⟨?_, ?_, ?_, ?_, ?_, ?_, ?_, ?_, ?_, ?_, trivial⟩ ?_
    ·rintro f M - ⟨i0, -⟩
     have hs3 : f 3 = .pointer (some ⟨b1, 0, none⟩) := i0
     refine ob_start (L' := M) (by rfl) (up_cons rfl hs3) ?_
     refine l_val (v := .pointer (some ⟨b1, 0, none⟩)) rfl rfl rfl (e_fieldPt (b := b1) (o := 0) rfl tf49) ?_
     refine l_nil ?_
     exact f_owes_d (up_cons rfl hs3) rfl (List.Perm.refl _)
    ·rintro f M ⟨k0, -⟩ -
     have hs38 : f 38 = .pointer (some ⟨b1, 0, none⟩) := k0
     refine ob_start (L' := pt b1 (.cells #[.slice va (bs.length) (vc), .slice rva (rs.length) (rvc), Ix (gx), Ix (gy)] 30) :: M) (by rfl) (up_cons rfl hs38) ?_
     refine l_val (v := .slice va (bs.length) (vc)) rfl rfl rfl (e_load1 tf50 (v := .slice va (bs.length) (vc)) rfl (k_pt 0 (cs := #[.slice va (bs.length) (vc), .slice rva (rs.length) (rvc), Ix (gx), Ix (gy)]) (vs := [.slice va (bs.length) (vc)]) rfl rfl)) ?_
     refine l_nil ?_
     exact f_owes_d (up_cons rfl hs38) rfl (perm_front 0 rfl)
    ·rintro f M - ⟨i0, -⟩
     have hs3 : f 3 = .pointer (some ⟨b1, 0, none⟩) := i0
     refine ob_start (L' := M) (by rfl) (up_cons rfl hs3) ?_
     refine l_val (v := .pointer (some ⟨b1, 0, none⟩)) rfl rfl rfl (e_fieldPt (b := b1) (o := 0) rfl tf49) ?_
     refine l_nil ?_
     exact f_owes_d (up_cons rfl hs3) rfl (List.Perm.refl _)
    ·rintro f M ⟨k0, -⟩ -
     have hs40 : f 40 = .pointer (some ⟨b1, 0, none⟩) := k0
     refine ob_start (L' := pt b1 (.cells #[.slice va (bs.length) (vc), .slice rva (rs.length) (rvc), Ix (gx), Ix (gy)] 30) :: M) (by rfl) (up_cons rfl hs40) ?_
     refine l_val (v := .slice va (bs.length) (vc)) rfl rfl rfl (e_load1 tf50 (v := .slice va (bs.length) (vc)) rfl (k_pt 0 (cs := #[.slice va (bs.length) (vc), .slice rva (rs.length) (rvc), Ix (gx), Ix (gy)]) (vs := [.slice va (bs.length) (vc)]) rfl rfl)) ?_
     refine l_nil ?_
     exact f_owes_d (up_cons rfl hs40) rfl (perm_front 0 rfl)
    ·rintro f M - ⟨i0, -⟩
     have hs9 : f 9 = Ix (x4.a) := i0
     refine ob_start (L' := M) (by rfl) (up_cons rfl hs9) ?_
     refine l_val (v := Ix (x4.a)) rfl rfl rfl (e_move) ?_
     refine l_nil ?_
     exact f_owes_d (up_cons rfl hs9) rfl (List.Perm.refl _)
    ·rintro f M ⟨k0, k1, -⟩ -
     have hs41 : f 41 = .slice va (bs.length) (vc) := k0
     have hs42 : f 42 = Ix (x4.a) := k1
     refine ob_start (L' := M) (by rfl) (up_cons (up_cons rfl hs41) hs42) ?_
     refine l_call rfl rfl rfl (cl_value (fst := []) (cap := []) (vs := [.slice va (bs.length) (vc), Ix (x4.a)]) (all := [.slice va (bs.length) (vc), Ix (x4.a)]) tf122 rfl rfl rfl) ?_
     intro w hw
     obtain ⟨β1, sb, kn, hw1, back⟩ := St.frame_all hw
     refine (find7K_ok β1 w hw1 _ bs (Sl.mono _ _ _ _ _ sb (⟨⟨_, _, rfl, vl, vm, ve⟩⟩ : Sl KBR _ _ bs)) (x4.a) kq hkq).mono ?_
     rintro e w' ⟨rfl, hw'⟩
     refine ⟨_, rfl, _, back _ _ hw', ?_⟩
     clear hw hw1 hw' back kn sb
     refine l_nil ?_
     exact f_owes_d (up_cons (up_cons rfl hs41) hs42) rfl (List.Perm.refl _)
    ·rintro f M ⟨k0, k1, -⟩ -
     have hs39 : f 39 = .slice va (bs.length) (vc) := k0
     have hs43 : f 43 = Nx (kq) := k1
     refine ob_start (L' := M) (by rfl) (up_cons (up_cons rfl hs39) hs43) ?_
     refine l_val (v := .pointer (some ((ba va).add (kq * 9)))) rfl rfl rfl (e_indexAddr (k := kq) (len := bs.length) (cap := vc) (a := va) rfl rfl tf43 (by omega) ha0) ?_
     refine l_nil ?_
     exact f_owes_d (up_cons (up_cons rfl hs39) hs43) rfl (List.Perm.refl _)
    ·rintro f M ⟨k0, -⟩ -
     have hs44 : f 44 = .pointer (some ((ba va).add (kq * 9))) := k0
     refine ob_start (L' := M) (by rfl) (up_cons rfl hs44) ?_
     refine l_val (v := .agg (bC o)) rfl rfl rfl (e_load tf22 (cs := (bodyE o)) rfl (Knows.of_base (Cs.mono _ _) hc0) rfl) ?_
     refine l_nil ?_
     exact f_owes_d (up_cons rfl hs44) rfl (List.Perm.refl _)
    ·rintro f M - -
     refine ob_start (L' := M) (by rfl) rfl ?_
     refine l_mv rfl rfl rfl (m_alloc tf58) ?_
     rintro _ _ ⟨b19, rfl, rfl⟩
     refine l_nil ?_
     exact f_owes_d rfl rfl (perm_front 0 rfl)
    ·rintro f M ⟨k0, k1, -⟩ -
     have hs10 : f 10 = .pointer (some ⟨(blk (f 10)), 0, none⟩) := k0
     have hs45 : f 45 = .agg (bC o) := k1
     refine ob_start (L' := pt (blk (f 10)) (.cells #[.int .i64 (0), .int .i64 (0), .int .i64 (0), .int .i64 (0), .int .i64 (0), .int .i64 (0), .int .i64 (0), .bool false, .bool false] 52) :: M) (by rfl) (up_cons (up_cons rfl hs10) hs45) ?_
     refine l_mu rfl rfl (m_store 0 tf22 (b := (blk (f 10))) (o := 0) (T := 52) (cs := #[.int .i64 (0), .int .i64 (0), .int .i64 (0), .int .i64 (0), .int .i64 (0), .int .i64 (0), .int .i64 (0), .bool false, .bool false]) (cs' := (bC o)) (v := .agg (bC o)) rfl rfl rfl rfl rfl rfl rfl) ?_
     refine l_nil ?_
     exact f_owes_n (up_cons (up_cons rfl hs10) hs45) trivial (perm_front 0 rfl)
    rintro fa20 ⟨-, -, -, -, -, -, -, -, k8, -, -⟩ ⟨j0, j1, j2, j3, j4, -⟩
    refine f_re (L' := [pt b10 (.cells #[Ix (x4.a), Ix (x4.b), Ix (x4.len)] 78), pt b2 (.cells (bC nb) 52), pt b1 (.cells #[.slice va (bs.length) (vc), .slice rva (rs.length) (rvc), Ix (gx), Ix (gy)] 30), pt (blk (fa20 10)) (.cells (bC o) 52)]) (by rfl) ?_
    refine f_rebase (d := 1) (v := Nx (k)) j0 ?_
    refine f_rebase (d := 3) (v := .pointer (some ⟨b1, 0, none⟩)) j1 ?_
    refine f_rebase (d := 5) (v := .pointer (some ⟨b2, 0, none⟩)) j2 ?_
    refine f_rebase (d := 7) (v := Nx (i)) j3 ?_
    refine f_rebase (d := 8) (v := .pointer (some ⟨b10, 0, none⟩)) j4 ?_
    refine f_rebase (d := 10) (v := .pointer (some ⟨(blk (fa20 10)), 0, none⟩)) k8 ?_
    refine f_then ?_
    refine c_seq ?_
    refine c_region ?_
    refine l_val (v := .agg (bC nb)) rfl rfl rfl (e_load tf22 (cs := (bodyE nb)) rfl (k_pt 1 (cs := (bC nb)) (vs := (bodyE nb)) rfl rfl) rfl) ?_
    refine l_val (v := .agg (bC o)) rfl rfl rfl (e_load tf22 (cs := (bodyE o)) rfl (k_pt 3 (cs := (bC o)) (vs := (bodyE o)) rfl rfl) rfl) ?_
    refine l_call rfl rfl rfl (cl_value (fst := []) (cap := []) (vs := [.agg (bC nb), .agg (bC o)]) (all := [.agg (bC nb), .agg (bC o)]) tf123 rfl rfl rfl) ?_
    intro w hw
    obtain ⟨β1, sb, kn, hw1, back⟩ := St.frame_all hw
    refine (far8_ok β1 w hw1 nb o mid_nb mid_o).mono ?_
    rintro e w' ⟨rfl, hw'⟩
    refine ⟨_, rfl, _, back _ _ hw', ?_⟩
    clear hw hw1 hw' back kn sb
    refine l_val (v := Ix (Stp.dist nb o)) rfl rfl rfl (e_assign) ?_
    refine l_nil ?_
    refine f_then ?_
    refine c_seq ?_
    refine c_quiet (by kernel_rfl) (by kernel_rfl) ?_
    refine q_val (v := Ix (Stp.dist nb o)) rfl rfl rfl (e_move) ?_
    refine q_val (v := .pointer (some ⟨b10, 2, none⟩)) rfl rfl rfl (e_fieldPt (b := b10) (o := 0) rfl tf54) ?_
    refine q_val (v := Ix (x4.len)) rfl rfl rfl (e_load1 tf2 (v := Ix (x4.len)) rfl (k_pt 0 (cs := #[Ix (x4.a), Ix (x4.b), Ix (x4.len)]) (vs := [Ix (x4.len)]) rfl rfl)) ?_
    refine q_val (v := .pointer (some ⟨b10, 2, none⟩)) rfl rfl rfl (e_fieldPt (b := b10) (o := 0) rfl tf54) ?_
    refine q_val (v := Ix (x4.len)) rfl rfl rfl (e_load1 tf2 (v := Ix (x4.len)) rfl (k_pt 0 (cs := #[Ix (x4.a), Ix (x4.b), Ix (x4.len)]) (vs := [Ix (x4.len)]) rfl rfl)) ?_
    refine q_val (v := Ix ((x4.len) * (x4.len))) rfl rfl rfl (e_mul (a := (x4.len)) (b := (x4.len)) rfl rfl (i64w (by omega))) ?_
    refine q_val (v := .bool (decide (((x4.len) * (x4.len)) < (Stp.dist nb o)))) rfl rfl rfl (e_gtr (a := (Stp.dist nb o)) (b := ((x4.len) * (x4.len))) rfl rfl) ?_
    refine q_val (v := .bool (decide (((x4.len) * (x4.len)) < (Stp.dist nb o)))) rfl rfl rfl (e_move) ?_
    refine q_split (s := 56) (p := ((x4.len) * (x4.len)) < (Stp.dist nb o)) rfl (fun hg21 => ?_) (fun hg21 => ?_)
    ·
     refine qg_val (v := Ix (Stp.dist nb o)) rfl rfl rfl rfl rfl (e_move) ?_
     refine qg_val (v := .pointer (some ⟨b1, 0, none⟩)) rfl rfl rfl rfl rfl (e_fieldPt (b := b1) (o := 0) rfl tf49) ?_
     refine qg_val (v := .slice va (bs.length) (vc)) rfl rfl rfl rfl rfl (e_load1 tf50 (v := .slice va (bs.length) (vc)) rfl (k_pt 2 (cs := #[.slice va (bs.length) (vc), .slice rva (rs.length) (rvc), Ix (gx), Ix (gy)]) (vs := [.slice va (bs.length) (vc)]) rfl rfl)) ?_
     refine qg_val (v := Nx (k)) rfl rfl rfl rfl rfl (e_move) ?_
     refine qg_val (v := .pointer (some ((ba va).add (k * 9)))) rfl rfl rfl rfl rfl (e_indexAddr (k := k) (len := bs.length) (cap := vc) (a := va) rfl rfl tf43 (by omega) hak) ?_
     refine qg_val (v := .agg (bC b)) rfl rfl rfl rfl rfl (e_load tf22 (cs := (bodyE b)) rfl (Knows.of_base (Cs.mono _ _) hck) rfl) ?_
     refine qg_val (v := .agg (bC o)) rfl rfl rfl rfl rfl (e_load tf22 (cs := (bodyE o)) rfl (k_pt 3 (cs := (bC o)) (vs := (bodyE o)) rfl rfl) rfl) ?_
     refine qg_call (v := Ix (Stp.dist b o)) rfl rfl rfl rfl rfl (cl_value (fst := []) (cap := []) (vs := [.agg (bC b), .agg (bC o)]) (all := [.agg (bC b), .agg (bC o)]) tf123 rfl rfl rfl) (fun w hw => ?_) ?_
     ·obtain ⟨β1, sb, kn, hw1, back⟩ := St.frame_all hw
      exact (far8_ok β1 w hw1 b o mid_b mid_o).mono (fun e w' ⟨he, hw'⟩ => ⟨he, st_mask [true, true, true, true] rfl (back _ _ hw')⟩)
     refine qg_val (v := .bool (decide ((Stp.dist b o) < (Stp.dist nb o)))) rfl rfl rfl rfl rfl (e_gtr (a := (Stp.dist nb o)) (b := (Stp.dist b o)) rfl rfl) ?_
     refine q_val (v := .bool (decide ((Stp.dist b o) < (Stp.dist nb o)))) rfl rfl rfl (e_pick_t rfl) ?_
     refine q_nil ?_
     refine f_then ?_
     refine c_if ((Stp.dist b o) < (Stp.dist nb o)) rfl (fun hc22 => ?_) (fun hc22 => ?_)
     ·
      refine c_seq ?_
      refine c_region ?_
      refine l_val (v := .bool true) rfl rfl rfl (e_assign) ?_
      refine l_nil ?_
      refine f_then ?_
      refine c_ret ?_
      refine f_block_ret ?_
      refine f_then_ret ?_
      refine f_then_ret ?_
      refine f_block_ret ?_
      refine f_then_ret ?_
      refine ret1 Tryz.results180 (v := .bool true) rfl ?_
      intro w hw
      exact ⟨congrArg (fun b : Bool => Ending.returned (.bool b)) (held_prefix (k := i + 1) (by rw [held_snoc hx5, hen]; simp only [Bool.or_eq_true, decide_eq_true_eq]; right; omega)).symm, st_mask [false, false, false, false] rfl hw⟩
     ·
      refine c_skip ?_
      refine f_block ?_
      refine f_then ?_
      refine c_region ?_
      refine l_val (v := Nx (i)) rfl rfl rfl (e_move) ?_
      refine l_val (v := Nx (i + 1)) rfl rfl rfl (e_add (a := ((i : Nat) : Int)) (b := (1 : Int)) rfl rfl (i64n (by omega) (by omega))) ?_
      refine l_val (v := Nx (i + 1)) rfl rfl rfl (e_assign) ?_
      refine l_nil ?_
      refine f_mask (L' := [pt b2 (.cells (bC nb) 52), pt b1 (.cells #[.slice va (bs.length) (vc), .slice rva (rs.length) (rvc), Ix (gx), Ix (gy)] 30)]) [false, true, true, false] rfl ?_
      exact f_cut ⟨i + 1, ⟨⟨rfl, rfl, rfl, rfl⟩, rfl, ⟨by omega, by rw [held_snoc hx5, hen, hp]; simp only [Bool.false_or, decide_eq_false_iff_not]; omega⟩⟩, (show rs.length - (i + 1) < rs.length - i from by omega)⟩
    ·
     refine q_skip rfl rfl rfl rfl rfl rfl ?_
     refine q_skip rfl rfl rfl rfl rfl rfl ?_
     refine q_skip rfl rfl rfl rfl rfl rfl ?_
     refine q_skip rfl rfl rfl rfl rfl rfl ?_
     refine q_skip rfl rfl rfl rfl rfl rfl ?_
     refine q_skip rfl rfl rfl rfl rfl rfl ?_
     refine q_skip rfl rfl rfl rfl rfl rfl ?_
     refine q_skip rfl rfl rfl rfl rfl rfl ?_
     refine q_skip rfl rfl rfl rfl rfl rfl ?_
     refine q_val (v := .bool false) rfl rfl rfl (e_pick_f rfl) ?_
     refine q_nil ?_
     refine f_then ?_
     refine c_no rfl ?_
     refine c_skip ?_
     refine f_block ?_
     refine f_then ?_
     refine c_region ?_
     refine l_val (v := Nx (i)) rfl rfl rfl (e_move) ?_
     refine l_val (v := Nx (i + 1)) rfl rfl rfl (e_add (a := ((i : Nat) : Int)) (b := (1 : Int)) rfl rfl (i64n (by omega) (by omega))) ?_
     refine l_val (v := Nx (i + 1)) rfl rfl rfl (e_assign) ?_
     refine l_nil ?_
     refine f_mask (L' := [pt b2 (.cells (bC nb) 52), pt b1 (.cells #[.slice va (bs.length) (vc), .slice rva (rs.length) (rvc), Ix (gx), Ix (gy)] 30)]) [false, true, true, false] rfl ?_
     exact f_cut ⟨i + 1, ⟨⟨rfl, rfl, rfl, rfl⟩, rfl, ⟨by omega, by rw [held_snoc hx5, hen, hp]; simp only [Bool.false_or, decide_eq_false_iff_not]; omega⟩⟩, (show rs.length - (i + 1) < rs.length - i from by omega)⟩
 ·
  refine c_exit ?_
  refine f_then_exit ?_
  refine f_then_exit ?_
  refine f_exit ?_
  refine f_then ?_
  refine c_seq ?_
  refine c_region ?_
  refine l_val (v := .bool false) rfl rfl rfl (e_assign) ?_
  refine l_nil ?_
  refine f_then ?_
  refine c_ret ?_
  refine ret1 Tryz.results180 (v := .bool false) rfl ?_
  intro w hw
  exact ⟨congrArg (fun b : Bool => Ending.returned (.bool b)) (show false = held bs rs b nb by rw [List.take_of_length_le (by omega)] at hp; exact hp.symm), st_mask [false, false] rfl hw⟩
set_option maxHeartbeats 4000000 in
theorem move8_ok (β : Base) (w : World) (hw : St β [] w) (v rv : Value) (gx gy : Int) (bs : List KB) (rs : List KR) (hs : Sl KBR β.heap v bs) (hr : Sl KRR β.heap rv rs) (ho : ordB bs) (hbs : ∀ o ∈ bs, okB o) (hrs : ∀ r ∈ rs, okR bs r) (k : Nat) (b : KB) (hk : bs[k]? = some b) (y : Bool) (al : UInt8) (hal : al = if y then 2 else 1) (n : Int) (hn : -4096 ≤ n ∧ n ≤ 4096) : Calls Tryz.prog 118 #[.agg #[v, rv, Ix gx, Ix gy], Nx k, Bx al, Ix n] w fun r w' => r = .returned (.tuple #[.agg #[Ix ((sh y b (sgn n * ((runM bs rs b y n).1 : Nat))).id), Ix ((sh y b (sgn n * ((runM bs rs b y n).1 : Nat))).x), Ix ((sh y b (sgn n * ((runM bs rs b y n).1 : Nat))).y), Ix ((sh y b (sgn n * ((runM bs rs b y n).1 : Nat))).vx), Ix ((sh y b (sgn n * ((runM bs rs b y n).1 : Nat))).vy), Ix ((sh y b (sgn n * ((runM bs rs b y n).1 : Nat))).w), Ix ((sh y b (sgn n * ((runM bs rs b y n).1 : Nat))).h), .bool ((sh y b (sgn n * ((runM bs rs b y n).1 : Nat))).round), .bool ((sh y b (sgn n * ((runM bs rs b y n).1 : Nat))).fixed)], .bool (runM bs rs b y n).2.isSome, Ix ((runM bs rs b y n).2.getD 0)]) ∧ St β [] w' := by
 obtain ⟨va, vc, rfl, vl, vm, ve⟩ := hs.get
 obtain ⟨rva, rvc, rfl, rvl, rvm, rve⟩ := hr.get
 have hkl := (List.getElem?_eq_some_iff.1 hk).1
 obtain ⟨hak, csk, hck, rfl⟩ := ve _ _ hk
 have hokb := hbs _ (List.mem_of_getElem? hk)
 have hco := hokb.co y
 refine enter (n := 60) Tryz.func118 rfl Tryz.ntmps118 rfl ?_ hw
 refine c_seq ?_
 refine c_region ?_
 refine l_mv rfl rfl rfl (m_box (v := .agg #[.slice va (bs.length) (vc), .slice rva (rs.length) (rvc), Ix (gx), Ix (gy)]) rfl) ?_
 rintro _ _ ⟨b1, rfl, rfl⟩
 refine l_mv rfl rfl rfl (m_alloc tf58) ?_
 rintro _ _ ⟨b2, rfl, rfl⟩
 refine l_val (v := .bool false) rfl rfl rfl (e_assign) ?_
 refine l_val (v := .int .i64 (0)) rfl rfl rfl (e_assign) ?_
 refine l_nil ?_
 refine f_then ?_
 refine c_seq ?_
 refine c_region ?_
 refine l_val (v := .pointer (some ⟨b1, 0, none⟩)) rfl rfl rfl (e_fieldPt (b := b1) (o := 0) rfl tf49) ?_
 refine l_val (v := .slice va (bs.length) (vc)) rfl rfl rfl (e_load1 tf50 (v := .slice va (bs.length) (vc)) rfl (k_pt 1 (cs := #[.slice va (bs.length) (vc), .slice rva (rs.length) (rvc), Ix (gx), Ix (gy)]) (vs := [.slice va (bs.length) (vc)]) rfl rfl)) ?_
 refine l_val (v := Nx (k)) rfl rfl rfl (e_move) ?_
 refine l_val (v := .pointer (some ((ba va).add (k * 9)))) rfl rfl rfl (e_indexAddr (k := k) (len := bs.length) (cap := vc) (a := va) rfl rfl tf43 (by omega) hak) ?_
 refine l_val (v := .agg (bC b)) rfl rfl rfl (e_load tf22 (cs := (bodyE b)) rfl (Knows.of_base (Cs.mono _ _) hck) rfl) ?_
 refine l_mv rfl rfl rfl (m_alloc tf58) ?_
 rintro _ _ ⟨b3, rfl, rfl⟩
 refine l_mu rfl rfl (m_store 0 tf22 (b := b3) (o := 0) (T := 52) (cs := #[.int .i64 (0), .int .i64 (0), .int .i64 (0), .int .i64 (0), .int .i64 (0), .int .i64 (0), .int .i64 (0), .bool false, .bool false]) (cs' := (bC b)) (v := .agg (bC b)) rfl rfl rfl rfl rfl rfl rfl) ?_
 refine l_nil ?_
 refine f_then ?_
 refine c_seq ?_
 refine c_region ?_
 refine l_val (v := .int .i64 (1)) rfl rfl rfl (e_assign) ?_
 refine l_nil ?_
 refine f_then ?_
 refine c_seq_cut (fun (f : Fm) (L : List Res) => ∃ (s : Int), (f 1 = Nx (k) ∧ f 2 = Bx (al) ∧ f 3 = Ix (n) ∧ f 4 = .pointer (some ⟨b1, 0, none⟩) ∧ f 8 = .pointer (some ⟨b2, 0, none⟩) ∧ f 11 = .pointer (some ⟨b3, 0, none⟩) ∧ f 12 = Ix (s)) ∧ L = [pt b3 (.cells (bC b) 52), pt b2 (.cells #[.int .i64 (0), .int .i64 (0), .int .i64 (0), .int .i64 (0), .int .i64 (0), .int .i64 (0), .int .i64 (0), .bool false, .bool false] 52), pt b1 (.cells #[.slice va (bs.length) (vc), .slice rva (rs.length) (rvc), Ix (gx), Ix (gy)] 30)] ∧ (s = sgn n)) ?_ ?_
 ·
  refine c_seq ?_
  refine c_region ?_
  refine l_val (v := Ix (n)) rfl rfl rfl (e_move) ?_
  refine l_val (v := .bool (decide ((n) < (0 : Int)))) rfl rfl rfl (e_lss (a := (n)) (b := (0 : Int)) rfl rfl) ?_
  refine l_nil ?_
  refine f_then ?_
  refine c_if ((n) < (0 : Int)) rfl (fun hc4 => ?_) (fun hc4 => ?_)
  ·
   refine c_region ?_
   refine l_val (v := .int .i64 (-1)) rfl rfl rfl (e_assign) ?_
   refine l_nil ?_
   exact f_cut ⟨(-1), ⟨rfl, rfl, rfl, rfl, rfl, rfl, rfl⟩, rfl, (by unfold sgn; rw [if_pos]; exact hc4)⟩
  ·
   refine c_skip ?_
   exact f_cut ⟨1, ⟨rfl, rfl, rfl, rfl, rfl, rfl, rfl⟩, rfl, (by unfold sgn; rw [if_neg]; exact hc4)⟩
 rintro f0 L0 ⟨s, ⟨hs1, hs2, hs3, hs4, hs8, hs11, hs12⟩, hL, hsn⟩
 subst L0
 refine rebase (d := 1) hs1 ?_
 refine rebase (d := 2) hs2 ?_
 refine rebase (d := 3) hs3 ?_
 refine rebase (d := 4) hs4 ?_
 refine rebase (d := 8) hs8 ?_
 refine rebase (d := 11) hs11 ?_
 refine rebase (d := 12) hs12 ?_
 clear hs1 hs2 hs3 hs4 hs8 hs11 hs12
 have hsb : s = 1 ∨ s = -1 := hsn ▸ sgn_or n
 refine c_seq ?_
 refine c_seq ?_
 refine c_region ?_
 refine l_val (v := Ix (s)) rfl rfl rfl (e_move) ?_
 refine l_val (v := Ix (s)) rfl rfl rfl (e_assign) ?_
 refine l_nil ?_
 refine f_then ?_
 refine c_block ?_
 refine c_loop (fun (x_ : Nat × KB × Int) (f : Fm) (L : List Res) => match x_ with | (m, C, jv) => (f 1 = Nx (k) ∧ f 2 = Bx (al) ∧ f 3 = Ix (n) ∧ f 4 = .pointer (some ⟨b1, 0, none⟩) ∧ f 8 = .pointer (some ⟨b2, 0, none⟩) ∧ f 11 = .pointer (some ⟨b3, 0, none⟩) ∧ f 12 = Ix (s) ∧ f 13 = Ix (jv)) ∧ L = [pt b3 (.cells (bC C) 52), pt b2 (.cells #[.int .i64 (0), .int .i64 (0), .int .i64 (0), .int .i64 (0), .int .i64 (0), .int .i64 (0), .int .i64 (0), .bool false, .bool false] 52), pt b1 (.cells #[.slice va (bs.length) (vc), .slice rva (rs.length) (rvc), Ix (gx), Ix (gy)] 30)] ∧ (m ≤ n.natAbs ∧ sh y b (sgn n * ((m : Nat) : Int)) = C ∧ jv = s * ((m + 1 : Nat) : Int) ∧ ∀ i : Nat, 0 < i → i ≤ m → stopB bs rs b (sh y b (sgn n * i)) = none)) (fun (x_ : Nat × KB × Int) => match x_ with | (m, C, jv) => n.natAbs - m) (0, b, s) ?_ ?_
 ·exact ⟨⟨rfl, rfl, rfl, rfl, rfl, rfl, rfl, rfl⟩, rfl, ⟨by omega, by rw [show sgn n * ((0 : Nat) : Int) = 0 by omega, sh_zero], by rcases hsb with e | e <;> rw [e] <;> rfl, fun i h1 h2 => by omega⟩⟩
 rintro ⟨m, C, jv⟩ f0 L0 ⟨⟨hs1, hs2, hs3, hs4, hs8, hs11, hs12, hs13⟩, hL, ⟨hm, hC, hjv, hst⟩⟩
 subst L0
 refine rebase (d := 1) hs1 ?_
 refine rebase (d := 2) hs2 ?_
 refine rebase (d := 3) hs3 ?_
 refine rebase (d := 4) hs4 ?_
 refine rebase (d := 8) hs8 ?_
 refine rebase (d := 11) hs11 ?_
 refine rebase (d := 12) hs12 ?_
 refine rebase (d := 13) hs13 ?_
 clear hs1 hs2 hs3 hs4 hs8 hs11 hs12 hs13
 have hjb : -4097 ≤ jv ∧ jv ≤ 4097 := by rw [hjv]; rcases hsb with e | e <;> rw [e] <;> omega
 refine c_seq ?_
 refine c_seq ?_
 refine c_region ?_
 refine l_val (v := Ix (jv)) rfl rfl rfl (e_move) ?_
 refine l_val (v := Ix (n)) rfl rfl rfl (e_move) ?_
 refine l_val (v := Ix (s)) rfl rfl rfl (e_move) ?_
 refine l_val (v := Ix ((n) + (s))) rfl rfl rfl (e_add (a := (n)) (b := (s)) rfl rfl (i64w (by omega))) ?_
 refine l_val (v := .bool (decide ((jv) ≠ ((n) + (s))))) rfl rfl rfl (e_neq (a := (jv)) (b := ((n) + (s))) rfl rfl) ?_
 refine l_nil ?_
 refine f_then ?_
 refine c_if ((jv) ≠ ((n) + (s))) rfl (fun hc5 => ?_) (fun hc5 => ?_)
 ·
  refine c_skip ?_
  refine f_then ?_
  refine c_seq ?_
  refine c_block ?_
  refine c_seq ?_
  have hmn := move_lt hsn hm (by rw [← hjv]; exact hc5)
  obtain ⟨nx, hnx⟩ : ∃ z, sh y b jv = z := ⟨_, rfl⟩
  have hst1 : stopB bs rs b (sh y b (sgn n * ((m + 1 : Nat) : Int))) = stopB bs rs b nx := by rw [← hnx, hjv, hsn]
  refine c_region ?_
  refine l_val (v := .pointer (some ⟨b1, 0, none⟩)) rfl rfl rfl (e_fieldPt (b := b1) (o := 0) rfl tf49) ?_
  refine l_val (v := .slice va (bs.length) (vc)) rfl rfl rfl (e_load1 tf50 (v := .slice va (bs.length) (vc)) rfl (k_pt 2 (cs := #[.slice va (bs.length) (vc), .slice rva (rs.length) (rvc), Ix (gx), Ix (gy)]) (vs := [.slice va (bs.length) (vc)]) rfl rfl)) ?_
  refine l_val (v := Nx (k)) rfl rfl rfl (e_move) ?_
  refine l_val (v := .pointer (some ((ba va).add (k * 9)))) rfl rfl rfl (e_indexAddr (k := k) (len := bs.length) (cap := vc) (a := va) rfl rfl tf43 (by omega) hak) ?_
  refine l_val (v := .agg (bC b)) rfl rfl rfl (e_load tf22 (cs := (bodyE b)) rfl (Knows.of_base (Cs.mono _ _) hck) rfl) ?_
  refine l_val (v := Bx (al)) rfl rfl rfl (e_move) ?_
  refine l_val (v := Ix (jv)) rfl rfl rfl (e_move) ?_
  refine l_call rfl rfl rfl (cl_value (fst := []) (cap := []) (vs := [.agg (bC b), Bx (al), Ix (jv)]) (all := [.agg (bC b), Bx (al), Ix (jv)]) tf124 rfl rfl rfl) ?_
  intro w hw
  obtain ⟨β1, sb, kn, hw1, back⟩ := St.frame_all hw
  refine (shift8_ok β1 w hw1 b y al hal (jv) (by omega) (by omega) nx hnx).mono ?_
  rintro e w' ⟨rfl, hw'⟩
  refine ⟨_, rfl, _, back _ _ hw', ?_⟩
  clear hw hw1 hw' back kn sb
  refine l_mv rfl rfl rfl (m_alloc tf58) ?_
  rintro _ _ ⟨b6, rfl, rfl⟩
  refine l_mu rfl rfl (m_store 0 tf22 (b := b6) (o := 0) (T := 52) (cs := #[.int .i64 (0), .int .i64 (0), .int .i64 (0), .int .i64 (0), .int .i64 (0), .int .i64 (0), .int .i64 (0), .bool false, .bool false]) (cs' := (bC nx)) (v := .agg (bC nx)) rfl rfl rfl rfl rfl rfl rfl) ?_
  refine l_nil ?_
  refine f_then ?_
  refine c_seq ?_
  refine c_seq ?_
  refine c_region ?_
  refine l_val (v := .agg (bC nx)) rfl rfl rfl (e_load tf22 (cs := (bodyE nx)) rfl (k_pt 0 (cs := (bC nx)) (vs := (bodyE nx)) rfl rfl) rfl) ?_
  refine l_call rfl rfl rfl (cl_value (fst := []) (cap := []) (vs := [.agg (bC nx)]) (all := [.agg (bC nx)]) tf125 rfl rfl rfl) ?_
  intro w hw
  obtain ⟨β1, sb, kn, hw1, back⟩ := St.frame_all hw
  refine (inside8_ok β1 w hw1 nx).mono ?_
  rintro e w' ⟨rfl, hw'⟩
  refine ⟨_, rfl, _, back _ _ hw', ?_⟩
  clear hw hw1 hw' back kn sb
  refine l_val (v := .bool (decide (¬ (inside nx)))) rfl rfl rfl (e_not_p (p := inside nx) rfl) ?_
  refine l_nil ?_
  refine f_then ?_
  refine c_if (¬ (inside nx)) rfl (fun hc7 => ?_) (fun hc7 => ?_)
  ·
   refine c_seq ?_
   refine c_region ?_
   refine l_val (v := .agg (bC C)) rfl rfl rfl (e_load tf22 (cs := (bodyE C)) rfl (k_pt 1 (cs := (bC C)) (vs := (bodyE C)) rfl rfl) rfl) ?_
   refine l_mu rfl rfl (m_store 2 tf22 (b := b2) (o := 0) (T := 52) (cs := #[.int .i64 (0), .int .i64 (0), .int .i64 (0), .int .i64 (0), .int .i64 (0), .int .i64 (0), .int .i64 (0), .bool false, .bool false]) (cs' := (bC C)) (v := .agg (bC C)) rfl rfl rfl rfl rfl rfl rfl) ?_
   refine l_val (v := .bool true) rfl rfl rfl (e_assign) ?_
   refine l_val (v := .int .i64 (-1)) rfl rfl rfl (e_assign) ?_
   refine l_nil ?_
   refine f_then ?_
   refine c_ret ?_
   refine f_then_ret ?_
   refine f_block_ret ?_
   refine f_then_ret ?_
   refine f_then_ret ?_
   refine f_block_ret ?_
   refine f_then_ret ?_
   refine retG (l := [.cell 8 52, .tmp 9, .tmp 10]) (m := [.agg (bC C), .bool true, .int .i64 (-1)]) (v := .tuple #[.agg (bC C), .bool true, .int .i64 (-1)]) Tryz.results118 ⟨rd_cell tf22 (cs := (bodyE C)) rfl (k_pt 2 (cs := (bC C)) (vs := (bodyE C)) rfl rfl) rfl, rd_tmp (v := .bool true) rfl, rd_tmp (v := .int .i64 (-1)) rfl, trivial⟩ rfl ?_
   intro w hw
   have he := move_stop hst hmn (by rw [hst1]; exact stop_out hc7)
   exact ⟨by rw [he, hC]; rfl, st_mask [false, false, false, false] rfl hw⟩
  ·
   refine c_skip ?_
   refine f_then ?_
   refine c_seq ?_
   have hin := Decidable.not_not.1 hc7
   have hsi := stop_in (rs := rs) (b := b) hin (fun o ho => (hbs o ho).1.1)
   refine c_region ?_
   refine l_val (v := .agg #[.slice va (bs.length) (vc), .slice rva (rs.length) (rvc), Ix (gx), Ix (gy)]) rfl rfl rfl (e_load tf86 (cs := [.slice va (bs.length) (vc), .slice rva (rs.length) (rvc), Ix (gx), Ix (gy)]) rfl (k_pt 3 (cs := #[.slice va (bs.length) (vc), .slice rva (rs.length) (rvc), Ix (gx), Ix (gy)]) (vs := [.slice va (bs.length) (vc), .slice rva (rs.length) (rvc), Ix (gx), Ix (gy)]) rfl rfl) rfl) ?_
   refine l_val (v := Nx (k)) rfl rfl rfl (e_move) ?_
   refine l_val (v := .agg (bC nx)) rfl rfl rfl (e_load tf22 (cs := (bodyE nx)) rfl (k_pt 0 (cs := (bC nx)) (vs := (bodyE nx)) rfl rfl) rfl) ?_
   refine l_call rfl rfl rfl (cl_value (fst := []) (cap := []) (vs := [.agg #[.slice va (bs.length) (vc), .slice rva (rs.length) (rvc), Ix (gx), Ix (gy)], Nx (k), .agg (bC nx)]) (all := [.agg #[.slice va (bs.length) (vc), .slice rva (rs.length) (rvc), Ix (gx), Ix (gy)], Nx (k), .agg (bC nx)]) tf126 rfl rfl rfl) ?_
   intro w hw
   obtain ⟨β1, sb, kn, hw1, back⟩ := St.frame_all hw
   refine (hits8_ok β1 w hw1 _ _ gx gy bs rs (Sl.mono _ _ _ _ _ sb (⟨⟨_, _, rfl, vl, vm, ve⟩⟩ : Sl KBR _ _ bs)) (Sl.mono _ _ _ _ _ sb (⟨⟨_, _, rfl, rvl, rvm, rve⟩⟩ : Sl KRR _ _ rs)) ho hbs hrs k b hk nx).mono ?_
   rintro e w' ⟨rfl, hw'⟩
   refine ⟨_, rfl, _, back _ _ hw', ?_⟩
   clear hw hw1 hw' back kn sb
   refine l_val (v := Ix (hitI bs b nx)) rfl rfl rfl (e_assign) ?_
   refine l_nil ?_
   refine f_then ?_
   refine c_seq ?_
   refine c_seq ?_
   refine c_region ?_
   refine l_val (v := Ix (hitI bs b nx)) rfl rfl rfl (e_move) ?_
   refine l_val (v := .bool (decide ((0 : Int) ≤ (hitI bs b nx)))) rfl rfl rfl (e_geq (a := (hitI bs b nx)) (b := (0 : Int)) rfl rfl) ?_
   refine l_val (v := .bool (decide ((0 : Int) ≤ (hitI bs b nx)))) rfl rfl rfl (e_move) ?_
   refine l_split (s := 50) (p := (0 : Int) ≤ (hitI bs b nx)) rfl (fun hg8 => ?_) (fun hg8 => ?_)
   ·
    refine l_skip rfl rfl rfl rfl rfl rfl ?_
    refine l_skip rfl rfl rfl rfl rfl rfl ?_
    refine l_skip rfl rfl rfl rfl rfl rfl ?_
    refine l_skip rfl rfl rfl rfl rfl rfl ?_
    refine l_val (v := .bool true) rfl rfl rfl (e_pick_t rfl) ?_
    refine l_nil ?_
    refine f_then ?_
    refine c_yes rfl ?_
    refine c_seq ?_
    refine c_region ?_
    refine l_val (v := .agg (bC C)) rfl rfl rfl (e_load tf22 (cs := (bodyE C)) rfl (k_pt 1 (cs := (bC C)) (vs := (bodyE C)) rfl rfl) rfl) ?_
    refine l_val (v := Ix (hitI bs b nx)) rfl rfl rfl (e_move) ?_
    refine l_mu rfl rfl (m_store 2 tf22 (b := b2) (o := 0) (T := 52) (cs := #[.int .i64 (0), .int .i64 (0), .int .i64 (0), .int .i64 (0), .int .i64 (0), .int .i64 (0), .int .i64 (0), .bool false, .bool false]) (cs' := (bC C)) (v := .agg (bC C)) rfl rfl rfl rfl rfl rfl rfl) ?_
    refine l_val (v := .bool true) rfl rfl rfl (e_assign) ?_
    refine l_val (v := Ix (hitI bs b nx)) rfl rfl rfl (e_assign) ?_
    refine l_nil ?_
    refine f_then ?_
    refine c_ret ?_
    refine f_then_ret ?_
    refine f_block_ret ?_
    refine f_then_ret ?_
    refine f_then_ret ?_
    refine f_block_ret ?_
    refine f_then_ret ?_
    refine retG (l := [.cell 8 52, .tmp 9, .tmp 10]) (m := [.agg (bC C), .bool true, Ix (hitI bs b nx)]) (v := .tuple #[.agg (bC C), .bool true, Ix (hitI bs b nx)]) Tryz.results118 ⟨rd_cell tf22 (cs := (bodyE C)) rfl (k_pt 2 (cs := (bC C)) (vs := (bodyE C)) rfl rfl) rfl, rd_tmp (v := .bool true) rfl, rd_tmp (v := Ix (hitI bs b nx)) rfl, trivial⟩ rfl ?_
    intro w hw
    have he := move_stop hst hmn (by rw [hst1, hsi, if_pos (.inl hg8)])
    exact ⟨by rw [he, hC]; rfl, st_mask [false, false, false, false] rfl hw⟩
   ·
    refine g_val (v := .agg #[.slice va (bs.length) (vc), .slice rva (rs.length) (rvc), Ix (gx), Ix (gy)]) rfl rfl rfl rfl rfl (e_load tf86 (cs := [.slice va (bs.length) (vc), .slice rva (rs.length) (rvc), Ix (gx), Ix (gy)]) rfl (k_pt 3 (cs := #[.slice va (bs.length) (vc), .slice rva (rs.length) (rvc), Ix (gx), Ix (gy)]) (vs := [.slice va (bs.length) (vc), .slice rva (rs.length) (rvc), Ix (gx), Ix (gy)]) rfl rfl) rfl) ?_
    refine g_val (v := Nx (k)) rfl rfl rfl rfl rfl (e_move) ?_
    refine g_val (v := .agg (bC nx)) rfl rfl rfl rfl rfl (e_load tf22 (cs := (bodyE nx)) rfl (k_pt 0 (cs := (bC nx)) (vs := (bodyE nx)) rfl rfl) rfl) ?_
    refine g_call rfl rfl rfl rfl rfl (cl_value (fst := []) (cap := []) (vs := [.agg #[.slice va (bs.length) (vc), .slice rva (rs.length) (rvc), Ix (gx), Ix (gy)], Nx (k), .agg (bC nx)]) (all := [.agg #[.slice va (bs.length) (vc), .slice rva (rs.length) (rvc), Ix (gx), Ix (gy)], Nx (k), .agg (bC nx)]) tf127 rfl rfl rfl) ?_
    intro w hw
    obtain ⟨β1, sb, kn, hw1, back⟩ := St.frame_all hw
    refine (held8_ok β1 w hw1 _ _ gx gy bs rs (Sl.mono _ _ _ _ _ sb (⟨⟨_, _, rfl, vl, vm, ve⟩⟩ : Sl KBR _ _ bs)) (Sl.mono _ _ _ _ _ sb (⟨⟨_, _, rfl, rvl, rvm, rve⟩⟩ : Sl KRR _ _ rs)) ho hbs hrs k b hk nx (ok_of_inside' hokb hnx hin).mid (by rw [← hnx, sh_id])).mono ?_
    rintro e w' ⟨rfl, hw'⟩
    refine ⟨_, rfl, _, back _ _ hw', ?_⟩
    clear hw hw1 hw' back kn sb
    refine l_val (v := .bool (held bs rs b nx)) rfl rfl rfl (e_pick_f rfl) ?_
    refine l_nil ?_
    refine f_then ?_
    refine c_ifb (held bs rs b nx) rfl (fun hc9 => ?_) (fun hc9 => ?_)
    ·
     refine c_seq ?_
     refine c_region ?_
     refine l_val (v := .agg (bC C)) rfl rfl rfl (e_load tf22 (cs := (bodyE C)) rfl (k_pt 1 (cs := (bC C)) (vs := (bodyE C)) rfl rfl) rfl) ?_
     refine l_val (v := Ix (hitI bs b nx)) rfl rfl rfl (e_move) ?_
     refine l_mu rfl rfl (m_store 2 tf22 (b := b2) (o := 0) (T := 52) (cs := #[.int .i64 (0), .int .i64 (0), .int .i64 (0), .int .i64 (0), .int .i64 (0), .int .i64 (0), .int .i64 (0), .bool false, .bool false]) (cs' := (bC C)) (v := .agg (bC C)) rfl rfl rfl rfl rfl rfl rfl) ?_
     refine l_val (v := .bool true) rfl rfl rfl (e_assign) ?_
     refine l_val (v := Ix (hitI bs b nx)) rfl rfl rfl (e_assign) ?_
     refine l_nil ?_
     refine f_then ?_
     refine c_ret ?_
     refine f_then_ret ?_
     refine f_block_ret ?_
     refine f_then_ret ?_
     refine f_then_ret ?_
     refine f_block_ret ?_
     refine f_then_ret ?_
     refine retG (l := [.cell 8 52, .tmp 9, .tmp 10]) (m := [.agg (bC C), .bool true, Ix (hitI bs b nx)]) (v := .tuple #[.agg (bC C), .bool true, Ix (hitI bs b nx)]) Tryz.results118 ⟨rd_cell tf22 (cs := (bodyE C)) rfl (k_pt 2 (cs := (bC C)) (vs := (bodyE C)) rfl rfl) rfl, rd_tmp (v := .bool true) rfl, rd_tmp (v := Ix (hitI bs b nx)) rfl, trivial⟩ rfl ?_
     intro w hw
     have he := move_stop hst hmn (by rw [hst1, hsi, if_pos (.inr hc9)])
     exact ⟨by rw [he, hC]; rfl, st_mask [false, false, false, false] rfl hw⟩
    ·
     refine c_skip ?_
     refine f_then ?_
     have hnone : stopB bs rs b (sh y b (sgn n * ((m + 1 : Nat) : Int))) = none := by rw [hst1, hsi, if_neg (by rintro (q | q); exact hg8 q; rw [hc9] at q; cases q)]
     refine c_region ?_
     refine l_val (v := .agg (bC nx)) rfl rfl rfl (e_load tf22 (cs := (bodyE nx)) rfl (k_pt 0 (cs := (bC nx)) (vs := (bodyE nx)) rfl rfl) rfl) ?_
     refine l_mu rfl rfl (m_store 1 tf22 (b := b3) (o := 0) (T := 52) (cs := (bC C)) (cs' := (bC nx)) (v := .agg (bC nx)) rfl rfl rfl rfl rfl rfl rfl) ?_
     refine l_nil ?_
     refine f_block ?_
     refine f_then ?_
     refine c_region ?_
     refine l_val (v := Ix (jv)) rfl rfl rfl (e_move) ?_
     refine l_val (v := Ix (s)) rfl rfl rfl (e_move) ?_
     refine l_val (v := Ix ((jv) + (s))) rfl rfl rfl (e_add (a := (jv)) (b := (s)) rfl rfl (i64w (by omega))) ?_
     refine l_val (v := Ix ((jv) + (s))) rfl rfl rfl (e_assign) ?_
     refine l_nil ?_
     refine f_mask (L' := [pt b3 (.cells (bC nx) 52), pt b2 (.cells #[.int .i64 (0), .int .i64 (0), .int .i64 (0), .int .i64 (0), .int .i64 (0), .int .i64 (0), .int .i64 (0), .bool false, .bool false] 52), pt b1 (.cells #[.slice va (bs.length) (vc), .slice rva (rs.length) (rvc), Ix (gx), Ix (gy)] 30)]) [false, true, true, true] rfl ?_
     exact f_cut ⟨(m + 1, nx, jv + s), ⟨⟨rfl, rfl, rfl, rfl, rfl, rfl, rfl, rfl⟩, rfl, ⟨by omega, by rw [← hnx, hjv, hsn], by rw [hjv]; rcases hsb with e | e <;> rw [e] <;> omega, stops_next hst hnone⟩⟩, (show n.natAbs - (m + 1) < n.natAbs - m from by omega)⟩
 ·
  refine c_exit ?_
  refine f_then_exit ?_
  refine f_then_exit ?_
  refine f_exit ?_
  refine f_then ?_
  refine c_seq ?_
  refine c_region ?_
  refine l_val (v := .agg (bC C)) rfl rfl rfl (e_load tf22 (cs := (bodyE C)) rfl (k_pt 0 (cs := (bC C)) (vs := (bodyE C)) rfl rfl) rfl) ?_
  refine l_mu rfl rfl (m_store 1 tf22 (b := b2) (o := 0) (T := 52) (cs := #[.int .i64 (0), .int .i64 (0), .int .i64 (0), .int .i64 (0), .int .i64 (0), .int .i64 (0), .int .i64 (0), .bool false, .bool false]) (cs' := (bC C)) (v := .agg (bC C)) rfl rfl rfl rfl rfl rfl rfl) ?_
  refine l_val (v := .bool false) rfl rfl rfl (e_assign) ?_
  refine l_val (v := .int .i64 (0)) rfl rfl rfl (e_assign) ?_
  refine l_nil ?_
  refine f_then ?_
  refine c_ret ?_
  refine retG (l := [.cell 8 52, .tmp 9, .tmp 10]) (m := [.agg (bC C), .bool false, .int .i64 (0)]) (v := .tuple #[.agg (bC C), .bool false, .int .i64 (0)]) Tryz.results118 ⟨rd_cell tf22 (cs := (bodyE C)) rfl (k_pt 1 (cs := (bC C)) (vs := (bodyE C)) rfl rfl) rfl, rd_tmp (v := .bool false) rfl, rd_tmp (v := .int .i64 (0)) rfl, trivial⟩ rfl ?_
  intro w hw
  have he := move_end hst (move_eq hsn hm (by rw [← hjv]; exact Decidable.not_not.1 hc5))
  exact ⟨by rw [he, hC]; rfl, st_mask [false, false, false] rfl hw⟩
end Go.Proofs
