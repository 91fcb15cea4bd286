/-
 The reference's walks of bodies and scenes, what is lent, kept and the same: chapter 8's walks under chapter 7's numbers (trans.py). Own work.
-/
import Derived.Test.YtoijanalppaplaaGreatIsSt
import Derived.Test.YtoijanalppaplaaGreatSlC
open Go.Sl
namespace Go.Stp
end Go.Stp
namespace Go.Stp
end Go.Stp
namespace Go.Stp
theorem idx_neg {bs : List KB} {i : Int} : idxI (fun y : KB => decide (y.id = i)) bs < 0 ↔ (findB bs i).isSome = false := by
 cases h : findB bs i with
 | some o => obtain ⟨k, e, _⟩ := idx_body h; rw [e]; simp
 | none =>
  unfold findB at h; rw [List.find?_eq_none] at h
  rw [idx_none (k := bs.length) (Nat.le_refl _) fun y hy => by have := h y (List.mem_of_mem_take hy); simpa using this]
  simp
theorem idx_pos {bs : List KB} {i : Int} (h : ¬ idxI (fun y : KB => decide (y.id = i)) bs < 0) : (findB bs i).isSome = true := by
 cases e : (findB bs i).isSome with
 | true => rfl
 | false => exact absurd (idx_neg.2 e) h
theorem al_next {α : Type} {P : α → Prop} {bs : List α} {k : Nat} {x : α} (hx : bs[k]? = some x) (h : ∀ b ∈ bs.take k, P b) (hok : P x) : ∀ b ∈ bs.take (k + 1), P b := by
 intro b hb
 rw [List.take_add_one, hx] at hb
 rcases List.mem_append.1 hb with hb | hb
 ·exact h b hb
 have : b = x := by simpa using hb
 rw [this]; exact hok
theorem al_all {α : Type} {P : α → Prop} {bs : List α} {k : Nat} (hk : bs.length ≤ k) (h : ∀ b ∈ bs.take k, P b) : ∀ b ∈ bs, P b := by rwa [List.take_of_length_le hk] at h
end Go.Stp
namespace Go.Stp
end Go.Stp
namespace Go.Stp
end Go.Stp
namespace Go.Proofs
open Go Go.Sl Go.Stp
theorem ua114 : cfB Tryz.prog 66 = true := by kernel_rfl
theorem ua115 : cfB Tryz.prog 33 = true := by kernel_rfl
theorem ua119 : cfB Tryz.prog 34 = true := by kernel_rfl
theorem ua120 : cfB Tryz.prog 35 = true := by kernel_rfl
theorem within_ok (β : Base) (w : World) (hw : St β [] w) (x m : Int) (hm : 0 ≤ m ∧ m ≤ 1099511627776) : Calls Tryz.prog 66 #[Ix x, Ix m] w fun r w' => r = .returned (.bool (decide (-m ≤ x ∧ x ≤ m))) ∧ St β [] w' := by
 refine enter (n := 14) Tryz.func66 rfl Tryz.ntmps66 rfl ?_ hw
 refine csr ?_
 refine l_val (v := .bool false) rfl rfl rfl e_assign ?_
 refine lnc ?_
 refine lv (v := Ix (x)) e_move ?_
 refine lv (v := Ix (m)) e_move ?_
 refine lv (v := Ix (0 - (m))) (e_neg (a := (m)) rfl (i64w (by omega))) ?_
 refine lv (e_geq (a := (x)) (b := (0 - (m))) rfl rfl) ?_
 refine lv (v := .bool (decide ((0 - (m)) ≤ (x)))) e_move ?_
 refine l_split (s := 9) (p := (0 - (m)) ≤ (x)) rfl (fun hg1 => ?_) (fun hg1 => ?_)
 ·refine g_val (v := Ix (x)) rfl rfl rfl rfl rfl e_move ?_
  refine g_val (v := Ix (m)) rfl rfl rfl rfl rfl e_move ?_
  refine g_val rfl rfl rfl rfl rfl (e_leq (a := (x)) (b := (m)) rfl rfl) ?_
  refine lv (v := .bool (decide ((x) ≤ (m)))) (e_pick_t rfl) ?_
  refine lv (v := .bool (decide ((x) ≤ (m)))) e_assign ?_
  refine lnf ?_
  refine c_ret ?_
  refine ret1 Tryz.results66 (v := .bool (decide ((x) ≤ (m)))) rfl ?_
  intro w hw
  exact ⟨congrArg (fun b : Bool => Ending.returned (.bool b)) (show decide ((x) ≤ (m)) = _ by first | (rw [eq_comm, decide_eq_false_iff_not]; omega) | exact decide_eq_decide.2 (by omega)), st_mask [] rfl hw⟩
 refine l_skip rfl rfl rfl rfl rfl rfl ?_
 refine l_skip rfl rfl rfl rfl rfl rfl ?_
 refine l_skip rfl rfl rfl rfl rfl rfl ?_
 refine lv (v := .bool false) (e_pick_f rfl) ?_
 refine lv (v := .bool false) e_assign ?_
 refine lnf ?_
 refine c_ret ?_
 refine ret1 Tryz.results66 (v := .bool false) rfl ?_
 intro w hw
 exact ⟨congrArg (fun b : Bool => Ending.returned (.bool b)) (show false = _ by first | (rw [eq_comm, decide_eq_false_iff_not]; omega) | exact decide_eq_decide.2 (by omega)), st_mask [] rfl hw⟩
set_option maxHeartbeats 4000000 in
theorem valid5_ok (β : Base) (w : World) (hw : St β [] w) (b : KB) : Calls Tryz.prog 33 #[.agg (bC b)] w fun r w' => r = .returned (.bool (decide (okB b))) ∧ St β [] w' := by
 refine enter (n := 83) Tryz.func33 rfl Tryz.ntmps33 rfl ?_ hw
 refine csr ?_
 refine l_mv rfl rfl rfl (m_box (v := .agg (bC b)) rfl) ?_
 rintro _ _ ⟨b1, rfl, rfl⟩
 refine lv (v := .bool false) e_assign ?_
 refine lnf ?_
 refine cs2 ?_
 refine c_region ?_
 refine lv (v := pp b1 0) (e_fieldPt rfl ua3) ?_
 refine lv (v := Ix (b.id)) (e_load1 ua2 rfl (k_pt 0 rfl rfl)) ?_
 refine lv (e_lss (a := (b.id)) (b := (0 : Int)) rfl rfl) ?_
 refine lv (v := .bool (decide ((b.id) < (0 : Int)))) e_move ?_
 refine l_split (s := 6) (p := (b.id) < (0 : Int)) rfl (fun hg2 => ?_) (fun hg2 => ?_)
 ·refine l_skip rfl rfl rfl rfl rfl rfl ?_
  refine l_skip rfl rfl rfl rfl rfl rfl ?_
  refine l_skip rfl rfl rfl rfl rfl rfl ?_
  refine lv (v := .bool true) (e_pick_t rfl) ?_
  refine lv (v := .bool true) e_move ?_
  refine l_skip rfl rfl rfl rfl rfl rfl ?_
  refine l_skip rfl rfl rfl rfl rfl rfl ?_
  refine l_skip rfl rfl rfl rfl rfl rfl ?_
  refine l_skip rfl rfl rfl rfl rfl rfl ?_
  refine l_skip rfl rfl rfl rfl rfl rfl ?_
  refine lv (v := .bool true) (e_pick_t rfl) ?_
  refine lv (v := .bool true) e_move ?_
  refine l_skip rfl rfl rfl rfl rfl rfl ?_
  refine l_skip rfl rfl rfl rfl rfl rfl ?_
  refine l_skip rfl rfl rfl rfl rfl rfl ?_
  refine l_skip rfl rfl rfl rfl rfl rfl ?_
  refine l_skip rfl rfl rfl rfl rfl rfl ?_
  refine lv (v := .bool true) (e_pick_t rfl) ?_
  refine lv (v := .bool true) e_move ?_
  refine l_skip rfl rfl rfl rfl rfl rfl ?_
  refine l_skip rfl rfl rfl rfl rfl rfl ?_
  refine l_skip rfl rfl rfl rfl rfl rfl ?_
  refine l_skip rfl rfl rfl rfl rfl rfl ?_
  refine l_skip rfl rfl rfl rfl rfl rfl ?_
  refine lv (v := .bool true) (e_pick_t rfl) ?_
  refine lv (v := .bool true) e_move ?_
  refine l_skip rfl rfl rfl rfl rfl rfl ?_
  refine l_skip rfl rfl rfl rfl rfl rfl ?_
  refine l_skip rfl rfl rfl rfl rfl rfl ?_
  refine l_skip rfl rfl rfl rfl rfl rfl ?_
  refine l_skip rfl rfl rfl rfl rfl rfl ?_
  refine lv (v := .bool true) (e_pick_t rfl) ?_
  refine lnf ?_
  refine c_yes rfl ?_
  refine csr ?_
  refine l_val (v := .bool false) rfl rfl rfl e_assign ?_
  refine lnf ?_
  refine c_ret ?_
  refine f_then_ret ?_
  refine ret1 Tryz.results33 (v := .bool false) rfl ?_
  intro w hw
  exact ⟨congrArg (fun b : Bool => Ending.returned (.bool b)) (show false = _ by rw [eq_comm, decide_eq_false_iff_not]; intro hok; obtain ⟨h1, h2, h3, h4, h5, h6, h7, h8, h9⟩ := hok; first | omega | (simp_all; done) | (simp_all; omega)), st_mask [false] rfl hw⟩
 refine g_val (v := pp b1 0) rfl rfl rfl rfl rfl (e_fieldPt rfl ua3) ?_
 refine g_val (v := Ix (b.id)) rfl rfl rfl rfl rfl (e_load1 ua2 rfl (k_pt 0 rfl rfl)) ?_
 refine g_val rfl rfl rfl rfl rfl (e_gtr (a := (b.id)) (b := (65536 : Int)) rfl rfl) ?_
 refine lv (v := .bool (decide ((65536 : Int) < (b.id)))) (e_pick_f rfl) ?_
 refine lv (v := .bool (decide ((65536 : Int) < (b.id)))) e_move ?_
 refine l_split (s := 11) (p := (65536 : Int) < (b.id)) rfl (fun hg3 => ?_) (fun hg3 => ?_)
 ·refine l_skip rfl rfl rfl rfl rfl rfl ?_
  refine l_skip rfl rfl rfl rfl rfl rfl ?_
  refine l_skip rfl rfl rfl rfl rfl rfl ?_
  refine l_skip rfl rfl rfl rfl rfl rfl ?_
  refine l_skip rfl rfl rfl rfl rfl rfl ?_
  refine lv (v := .bool true) (e_pick_t rfl) ?_
  refine lv (v := .bool true) e_move ?_
  refine l_skip rfl rfl rfl rfl rfl rfl ?_
  refine l_skip rfl rfl rfl rfl rfl rfl ?_
  refine l_skip rfl rfl rfl rfl rfl rfl ?_
  refine l_skip rfl rfl rfl rfl rfl rfl ?_
  refine l_skip rfl rfl rfl rfl rfl rfl ?_
  refine lv (v := .bool true) (e_pick_t rfl) ?_
  refine lv (v := .bool true) e_move ?_
  refine l_skip rfl rfl rfl rfl rfl rfl ?_
  refine l_skip rfl rfl rfl rfl rfl rfl ?_
  refine l_skip rfl rfl rfl rfl rfl rfl ?_
  refine l_skip rfl rfl rfl rfl rfl rfl ?_
  refine l_skip rfl rfl rfl rfl rfl rfl ?_
  refine lv (v := .bool true) (e_pick_t rfl) ?_
  refine lv (v := .bool true) e_move ?_
  refine l_skip rfl rfl rfl rfl rfl rfl ?_
  refine l_skip rfl rfl rfl rfl rfl rfl ?_
  refine l_skip rfl rfl rfl rfl rfl rfl ?_
  refine l_skip rfl rfl rfl rfl rfl rfl ?_
  refine l_skip rfl rfl rfl rfl rfl rfl ?_
  refine lv (v := .bool true) (e_pick_t rfl) ?_
  refine lnf ?_
  refine c_yes rfl ?_
  refine csr ?_
  refine l_val (v := .bool false) rfl rfl rfl e_assign ?_
  refine lnf ?_
  refine c_ret ?_
  refine f_then_ret ?_
  refine ret1 Tryz.results33 (v := .bool false) rfl ?_
  intro w hw
  exact ⟨congrArg (fun b : Bool => Ending.returned (.bool b)) (show false = _ by rw [eq_comm, decide_eq_false_iff_not]; intro hok; obtain ⟨h1, h2, h3, h4, h5, h6, h7, h8, h9⟩ := hok; first | omega | (simp_all; done) | (simp_all; omega)), st_mask [false] rfl hw⟩
 refine g_val (v := pp b1 1) rfl rfl rfl rfl rfl (e_fieldPt rfl ua6) ?_
 refine g_val (v := pp b1 1) rfl rfl rfl rfl rfl (e_fieldPt rfl ua7) ?_
 refine g_val (v := Ix (b.x)) rfl rfl rfl rfl rfl (e_load1 ua2 rfl (k_pt 0 rfl rfl)) ?_
 refine g_call rfl rfl rfl rfl rfl (cl0 (vs := [Ix (b.x), .int .i64 (1048576)]) ua114 rfl rfl) ?_
 intro w hw
 obtain ⟨β1, sb, kn, hw1, back⟩ := St.frame_all hw
 refine (within_ok β1 w hw1 (b.x) (1048576) (by decide)).mono ?_
 rintro e w' ⟨rfl, hw'⟩
 refine ⟨_, rfl, _, back _ _ hw', ?_⟩
 clear hw hw1 hw' back kn sb
 refine g_val (v := .bool (decide (¬ (-(1048576 : Int) ≤ (b.x) ∧ (b.x) ≤ 1048576)))) rfl rfl rfl rfl rfl (e_not_p (p := -(1048576 : Int) ≤ (b.x) ∧ (b.x) ≤ 1048576) rfl) ?_
 refine lv (v := .bool (decide (¬ (-(1048576 : Int) ≤ (b.x) ∧ (b.x) ≤ 1048576)))) (e_pick_f rfl) ?_
 refine lv (v := .bool (decide (¬ (-(1048576 : Int) ≤ (b.x) ∧ (b.x) ≤ 1048576)))) e_move ?_
 refine l_split (s := 18) (p := ¬ (-(1048576 : Int) ≤ (b.x) ∧ (b.x) ≤ 1048576)) rfl (fun hg4 => ?_) (fun hg4 => ?_)
 ·refine l_skip rfl rfl rfl rfl rfl rfl ?_
  refine l_skip rfl rfl rfl rfl rfl rfl ?_
  refine l_skip rfl rfl rfl rfl rfl rfl ?_
  refine l_skip rfl rfl rfl rfl rfl rfl ?_
  refine l_skip rfl rfl rfl rfl rfl rfl ?_
  refine lv (v := .bool true) (e_pick_t rfl) ?_
  refine lv (v := .bool true) e_move ?_
  refine l_skip rfl rfl rfl rfl rfl rfl ?_
  refine l_skip rfl rfl rfl rfl rfl rfl ?_
  refine l_skip rfl rfl rfl rfl rfl rfl ?_
  refine l_skip rfl rfl rfl rfl rfl rfl ?_
  refine l_skip rfl rfl rfl rfl rfl rfl ?_
  refine lv (v := .bool true) (e_pick_t rfl) ?_
  refine lv (v := .bool true) e_move ?_
  refine l_skip rfl rfl rfl rfl rfl rfl ?_
  refine l_skip rfl rfl rfl rfl rfl rfl ?_
  refine l_skip rfl rfl rfl rfl rfl rfl ?_
  refine l_skip rfl rfl rfl rfl rfl rfl ?_
  refine l_skip rfl rfl rfl rfl rfl rfl ?_
  refine lv (v := .bool true) (e_pick_t rfl) ?_
  refine lnf ?_
  refine c_yes rfl ?_
  refine csr ?_
  refine l_val (v := .bool false) rfl rfl rfl e_assign ?_
  refine lnf ?_
  refine c_ret ?_
  refine f_then_ret ?_
  refine ret1 Tryz.results33 (v := .bool false) rfl ?_
  intro w hw
  exact ⟨congrArg (fun b : Bool => Ending.returned (.bool b)) (show false = _ by rw [eq_comm, decide_eq_false_iff_not]; intro hok; obtain ⟨h1, h2, h3, h4, h5, h6, h7, h8, h9⟩ := hok; first | omega | (simp_all; done) | (simp_all; omega)), st_mask [false] rfl hw⟩
 refine g_val (v := pp b1 1) rfl rfl rfl rfl rfl (e_fieldPt rfl ua6) ?_
 refine g_val (v := pp b1 2) rfl rfl rfl rfl rfl (e_fieldPt rfl ua8) ?_
 refine g_val (v := Ix (b.y)) rfl rfl rfl rfl rfl (e_load1 ua2 rfl (k_pt 0 rfl rfl)) ?_
 refine g_call rfl rfl rfl rfl rfl (cl0 (vs := [Ix (b.y), .int .i64 (1048576)]) ua114 rfl rfl) ?_
 intro w hw
 obtain ⟨β1, sb, kn, hw1, back⟩ := St.frame_all hw
 refine (within_ok β1 w hw1 (b.y) (1048576) (by decide)).mono ?_
 rintro e w' ⟨rfl, hw'⟩
 refine ⟨_, rfl, _, back _ _ hw', ?_⟩
 clear hw hw1 hw' back kn sb
 refine g_val (v := .bool (decide (¬ (-(1048576 : Int) ≤ (b.y) ∧ (b.y) ≤ 1048576)))) rfl rfl rfl rfl rfl (e_not_p (p := -(1048576 : Int) ≤ (b.y) ∧ (b.y) ≤ 1048576) rfl) ?_
 refine lv (v := .bool (decide (¬ (-(1048576 : Int) ≤ (b.y) ∧ (b.y) ≤ 1048576)))) (e_pick_f rfl) ?_
 refine lv (v := .bool (decide (¬ (-(1048576 : Int) ≤ (b.y) ∧ (b.y) ≤ 1048576)))) e_move ?_
 refine l_split (s := 25) (p := ¬ (-(1048576 : Int) ≤ (b.y) ∧ (b.y) ≤ 1048576)) rfl (fun hg5 => ?_) (fun hg5 => ?_)
 ·refine l_skip rfl rfl rfl rfl rfl rfl ?_
  refine l_skip rfl rfl rfl rfl rfl rfl ?_
  refine l_skip rfl rfl rfl rfl rfl rfl ?_
  refine l_skip rfl rfl rfl rfl rfl rfl ?_
  refine l_skip rfl rfl rfl rfl rfl rfl ?_
  refine lv (v := .bool true) (e_pick_t rfl) ?_
  refine lv (v := .bool true) e_move ?_
  refine l_skip rfl rfl rfl rfl rfl rfl ?_
  refine l_skip rfl rfl rfl rfl rfl rfl ?_
  refine l_skip rfl rfl rfl rfl rfl rfl ?_
  refine l_skip rfl rfl rfl rfl rfl rfl ?_
  refine l_skip rfl rfl rfl rfl rfl rfl ?_
  refine lv (v := .bool true) (e_pick_t rfl) ?_
  refine lnf ?_
  refine c_yes rfl ?_
  refine csr ?_
  refine l_val (v := .bool false) rfl rfl rfl e_assign ?_
  refine lnf ?_
  refine c_ret ?_
  refine f_then_ret ?_
  refine ret1 Tryz.results33 (v := .bool false) rfl ?_
  intro w hw
  exact ⟨congrArg (fun b : Bool => Ending.returned (.bool b)) (show false = _ by rw [eq_comm, decide_eq_false_iff_not]; intro hok; obtain ⟨h1, h2, h3, h4, h5, h6, h7, h8, h9⟩ := hok; first | omega | (simp_all; done) | (simp_all; omega)), st_mask [false] rfl hw⟩
 refine g_val (v := pp b1 3) rfl rfl rfl rfl rfl (e_fieldPt rfl ua9) ?_
 refine g_val (v := pp b1 3) rfl rfl rfl rfl rfl (e_fieldPt rfl ua7) ?_
 refine g_val (v := Ix (b.vx)) rfl rfl rfl rfl rfl (e_load1 ua2 rfl (k_pt 0 rfl rfl)) ?_
 refine g_call rfl rfl rfl rfl rfl (cl0 (vs := [Ix (b.vx), .int .i64 (4096)]) ua114 rfl rfl) ?_
 intro w hw
 obtain ⟨β1, sb, kn, hw1, back⟩ := St.frame_all hw
 refine (within_ok β1 w hw1 (b.vx) (4096) (by decide)).mono ?_
 rintro e w' ⟨rfl, hw'⟩
 refine ⟨_, rfl, _, back _ _ hw', ?_⟩
 clear hw hw1 hw' back kn sb
 refine g_val (v := .bool (decide (¬ (-(4096 : Int) ≤ (b.vx) ∧ (b.vx) ≤ 4096)))) rfl rfl rfl rfl rfl (e_not_p (p := -(4096 : Int) ≤ (b.vx) ∧ (b.vx) ≤ 4096) rfl) ?_
 refine lv (v := .bool (decide (¬ (-(4096 : Int) ≤ (b.vx) ∧ (b.vx) ≤ 4096)))) (e_pick_f rfl) ?_
 refine lv (v := .bool (decide (¬ (-(4096 : Int) ≤ (b.vx) ∧ (b.vx) ≤ 4096)))) e_move ?_
 refine l_split (s := 32) (p := ¬ (-(4096 : Int) ≤ (b.vx) ∧ (b.vx) ≤ 4096)) rfl (fun hg6 => ?_) (fun hg6 => ?_)
 ·refine l_skip rfl rfl rfl rfl rfl rfl ?_
  refine l_skip rfl rfl rfl rfl rfl rfl ?_
  refine l_skip rfl rfl rfl rfl rfl rfl ?_
  refine l_skip rfl rfl rfl rfl rfl rfl ?_
  refine l_skip rfl rfl rfl rfl rfl rfl ?_
  refine lv (v := .bool true) (e_pick_t rfl) ?_
  refine lnf ?_
  refine c_yes rfl ?_
  refine csr ?_
  refine l_val (v := .bool false) rfl rfl rfl e_assign ?_
  refine lnf ?_
  refine c_ret ?_
  refine f_then_ret ?_
  refine ret1 Tryz.results33 (v := .bool false) rfl ?_
  intro w hw
  exact ⟨congrArg (fun b : Bool => Ending.returned (.bool b)) (show false = _ by rw [eq_comm, decide_eq_false_iff_not]; intro hok; obtain ⟨h1, h2, h3, h4, h5, h6, h7, h8, h9⟩ := hok; first | omega | (simp_all; done) | (simp_all; omega)), st_mask [false] rfl hw⟩
 refine g_val (v := pp b1 3) rfl rfl rfl rfl rfl (e_fieldPt rfl ua9) ?_
 refine g_val (v := pp b1 4) rfl rfl rfl rfl rfl (e_fieldPt rfl ua8) ?_
 refine g_val (v := Ix (b.vy)) rfl rfl rfl rfl rfl (e_load1 ua2 rfl (k_pt 0 rfl rfl)) ?_
 refine g_call rfl rfl rfl rfl rfl (cl0 (vs := [Ix (b.vy), .int .i64 (4096)]) ua114 rfl rfl) ?_
 intro w hw
 obtain ⟨β1, sb, kn, hw1, back⟩ := St.frame_all hw
 refine (within_ok β1 w hw1 (b.vy) (4096) (by decide)).mono ?_
 rintro e w' ⟨rfl, hw'⟩
 refine ⟨_, rfl, _, back _ _ hw', ?_⟩
 clear hw hw1 hw' back kn sb
 refine g_val (v := .bool (decide (¬ (-(4096 : Int) ≤ (b.vy) ∧ (b.vy) ≤ 4096)))) rfl rfl rfl rfl rfl (e_not_p (p := -(4096 : Int) ≤ (b.vy) ∧ (b.vy) ≤ 4096) rfl) ?_
 refine lv (v := .bool (decide (¬ (-(4096 : Int) ≤ (b.vy) ∧ (b.vy) ≤ 4096)))) (e_pick_f rfl) ?_
 refine lnf ?_
 refine c_if (¬ (-(4096 : Int) ≤ (b.vy) ∧ (b.vy) ≤ 4096)) rfl (fun hc7 => ?_) (fun hc7 => ?_)
 ·refine csr ?_
  refine l_val (v := .bool false) rfl rfl rfl e_assign ?_
  refine lnf ?_
  refine c_ret ?_
  refine f_then_ret ?_
  refine ret1 Tryz.results33 (v := .bool false) rfl ?_
  intro w hw
  exact ⟨congrArg (fun b : Bool => Ending.returned (.bool b)) (show false = _ by rw [eq_comm, decide_eq_false_iff_not]; intro hok; obtain ⟨h1, h2, h3, h4, h5, h6, h7, h8, h9⟩ := hok; first | omega | (simp_all; done) | (simp_all; omega)), st_mask [false] rfl hw⟩
 refine csk ?_
 refine cs2 ?_
 refine c_region ?_
 refine lv (v := pp b1 5) (e_fieldPt rfl ua10) ?_
 refine lv (v := Ix (b.w)) (e_load1 ua2 rfl (k_pt 0 rfl rfl)) ?_
 refine lv (e_lss (a := (b.w)) (b := (1 : Int)) rfl rfl) ?_
 refine lv (v := .bool (decide ((b.w) < (1 : Int)))) e_move ?_
 refine l_split (s := 42) (p := (b.w) < (1 : Int)) rfl (fun hg8 => ?_) (fun hg8 => ?_)
 ·refine l_skip rfl rfl rfl rfl rfl rfl ?_
  refine l_skip rfl rfl rfl rfl rfl rfl ?_
  refine l_skip rfl rfl rfl rfl rfl rfl ?_
  refine lv (v := .bool true) (e_pick_t rfl) ?_
  refine lv (v := .bool true) e_move ?_
  refine l_skip rfl rfl rfl rfl rfl rfl ?_
  refine l_skip rfl rfl rfl rfl rfl rfl ?_
  refine l_skip rfl rfl rfl rfl rfl rfl ?_
  refine lv (v := .bool true) (e_pick_t rfl) ?_
  refine lv (v := .bool true) e_move ?_
  refine l_skip rfl rfl rfl rfl rfl rfl ?_
  refine l_skip rfl rfl rfl rfl rfl rfl ?_
  refine l_skip rfl rfl rfl rfl rfl rfl ?_
  refine lv (v := .bool true) (e_pick_t rfl) ?_
  refine lv (v := .bool true) e_move ?_
  refine l_skip rfl rfl rfl rfl rfl rfl ?_
  refine l_skip rfl rfl rfl rfl rfl rfl ?_
  refine l_skip rfl rfl rfl rfl rfl rfl ?_
  refine l_skip_u rfl rfl rfl rfl rfl ?_
  refine l_skip_u rfl rfl rfl rfl rfl ?_
  refine l_skip_u rfl rfl rfl rfl rfl ?_
  refine l_skip_u rfl rfl rfl rfl rfl ?_
  refine l_skip_u rfl rfl rfl rfl rfl ?_
  refine l_skip rfl rfl rfl rfl rfl rfl ?_
  refine lv (v := .bool true) (e_pick_t rfl) ?_
  refine lnf ?_
  refine c_yes rfl ?_
  refine csr ?_
  refine l_val (v := .bool false) rfl rfl rfl e_assign ?_
  refine lnf ?_
  refine c_ret ?_
  refine f_then_ret ?_
  refine ret1 Tryz.results33 (v := .bool false) rfl ?_
  intro w hw
  exact ⟨congrArg (fun b : Bool => Ending.returned (.bool b)) (show false = _ by rw [eq_comm, decide_eq_false_iff_not]; intro hok; obtain ⟨h1, h2, h3, h4, h5, h6, h7, h8, h9⟩ := hok; first | omega | (simp_all; done) | (simp_all; omega)), st_mask [false] rfl hw⟩
 refine g_val (v := pp b1 5) rfl rfl rfl rfl rfl (e_fieldPt rfl ua10) ?_
 refine g_val (v := Ix (b.w)) rfl rfl rfl rfl rfl (e_load1 ua2 rfl (k_pt 0 rfl rfl)) ?_
 refine g_val rfl rfl rfl rfl rfl (e_gtr (a := (b.w)) (b := (16384 : Int)) rfl rfl) ?_
 refine lv (v := .bool (decide ((16384 : Int) < (b.w)))) (e_pick_f rfl) ?_
 refine lv (v := .bool (decide ((16384 : Int) < (b.w)))) e_move ?_
 refine l_split (s := 47) (p := (16384 : Int) < (b.w)) rfl (fun hg9 => ?_) (fun hg9 => ?_)
 ·refine l_skip rfl rfl rfl rfl rfl rfl ?_
  refine l_skip rfl rfl rfl rfl rfl rfl ?_
  refine l_skip rfl rfl rfl rfl rfl rfl ?_
  refine lv (v := .bool true) (e_pick_t rfl) ?_
  refine lv (v := .bool true) e_move ?_
  refine l_skip rfl rfl rfl rfl rfl rfl ?_
  refine l_skip rfl rfl rfl rfl rfl rfl ?_
  refine l_skip rfl rfl rfl rfl rfl rfl ?_
  refine lv (v := .bool true) (e_pick_t rfl) ?_
  refine lv (v := .bool true) e_move ?_
  refine l_skip rfl rfl rfl rfl rfl rfl ?_
  refine l_skip rfl rfl rfl rfl rfl rfl ?_
  refine l_skip rfl rfl rfl rfl rfl rfl ?_
  refine l_skip_u rfl rfl rfl rfl rfl ?_
  refine l_skip_u rfl rfl rfl rfl rfl ?_
  refine l_skip_u rfl rfl rfl rfl rfl ?_
  refine l_skip_u rfl rfl rfl rfl rfl ?_
  refine l_skip_u rfl rfl rfl rfl rfl ?_
  refine l_skip rfl rfl rfl rfl rfl rfl ?_
  refine lv (v := .bool true) (e_pick_t rfl) ?_
  refine lnf ?_
  refine c_yes rfl ?_
  refine csr ?_
  refine l_val (v := .bool false) rfl rfl rfl e_assign ?_
  refine lnf ?_
  refine c_ret ?_
  refine f_then_ret ?_
  refine ret1 Tryz.results33 (v := .bool false) rfl ?_
  intro w hw
  exact ⟨congrArg (fun b : Bool => Ending.returned (.bool b)) (show false = _ by rw [eq_comm, decide_eq_false_iff_not]; intro hok; obtain ⟨h1, h2, h3, h4, h5, h6, h7, h8, h9⟩ := hok; first | omega | (simp_all; done) | (simp_all; omega)), st_mask [false] rfl hw⟩
 refine g_val (v := pp b1 6) rfl rfl rfl rfl rfl (e_fieldPt rfl ua11) ?_
 refine g_val (v := Ix (b.h)) rfl rfl rfl rfl rfl (e_load1 ua2 rfl (k_pt 0 rfl rfl)) ?_
 refine g_val rfl rfl rfl rfl rfl (e_lss (a := (b.h)) (b := (1 : Int)) rfl rfl) ?_
 refine lv (v := .bool (decide ((b.h) < (1 : Int)))) (e_pick_f rfl) ?_
 refine lv (v := .bool (decide ((b.h) < (1 : Int)))) e_move ?_
 refine l_split (s := 52) (p := (b.h) < (1 : Int)) rfl (fun hg10 => ?_) (fun hg10 => ?_)
 ·refine l_skip rfl rfl rfl rfl rfl rfl ?_
  refine l_skip rfl rfl rfl rfl rfl rfl ?_
  refine l_skip rfl rfl rfl rfl rfl rfl ?_
  refine lv (v := .bool true) (e_pick_t rfl) ?_
  refine lv (v := .bool true) e_move ?_
  refine l_skip rfl rfl rfl rfl rfl rfl ?_
  refine l_skip rfl rfl rfl rfl rfl rfl ?_
  refine l_skip rfl rfl rfl rfl rfl rfl ?_
  refine l_skip_u rfl rfl rfl rfl rfl ?_
  refine l_skip_u rfl rfl rfl rfl rfl ?_
  refine l_skip_u rfl rfl rfl rfl rfl ?_
  refine l_skip_u rfl rfl rfl rfl rfl ?_
  refine l_skip_u rfl rfl rfl rfl rfl ?_
  refine l_skip rfl rfl rfl rfl rfl rfl ?_
  refine lv (v := .bool true) (e_pick_t rfl) ?_
  refine lnf ?_
  refine c_yes rfl ?_
  refine csr ?_
  refine l_val (v := .bool false) rfl rfl rfl e_assign ?_
  refine lnf ?_
  refine c_ret ?_
  refine f_then_ret ?_
  refine ret1 Tryz.results33 (v := .bool false) rfl ?_
  intro w hw
  exact ⟨congrArg (fun b : Bool => Ending.returned (.bool b)) (show false = _ by rw [eq_comm, decide_eq_false_iff_not]; intro hok; obtain ⟨h1, h2, h3, h4, h5, h6, h7, h8, h9⟩ := hok; first | omega | (simp_all; done) | (simp_all; omega)), st_mask [false] rfl hw⟩
 refine g_val (v := pp b1 6) rfl rfl rfl rfl rfl (e_fieldPt rfl ua11) ?_
 refine g_val (v := Ix (b.h)) rfl rfl rfl rfl rfl (e_load1 ua2 rfl (k_pt 0 rfl rfl)) ?_
 refine g_val rfl rfl rfl rfl rfl (e_gtr (a := (b.h)) (b := (16384 : Int)) rfl rfl) ?_
 refine lv (v := .bool (decide ((16384 : Int) < (b.h)))) (e_pick_f rfl) ?_
 refine lv (v := .bool (decide ((16384 : Int) < (b.h)))) e_move ?_
 refine l_split (s := 57) (p := (16384 : Int) < (b.h)) rfl (fun hg11 => ?_) (fun hg11 => ?_)
 ·refine l_skip rfl rfl rfl rfl rfl rfl ?_
  refine l_skip rfl rfl rfl rfl rfl rfl ?_
  refine l_skip rfl rfl rfl rfl rfl rfl ?_
  refine l_skip_u rfl rfl rfl rfl rfl ?_
  refine l_skip_u rfl rfl rfl rfl rfl ?_
  refine l_skip_u rfl rfl rfl rfl rfl ?_
  refine l_skip_u rfl rfl rfl rfl rfl ?_
  refine l_skip_u rfl rfl rfl rfl rfl ?_
  refine l_skip rfl rfl rfl rfl rfl rfl ?_
  refine lv (v := .bool true) (e_pick_t rfl) ?_
  refine lnf ?_
  refine c_yes rfl ?_
  refine csr ?_
  refine l_val (v := .bool false) rfl rfl rfl e_assign ?_
  refine lnf ?_
  refine c_ret ?_
  refine f_then_ret ?_
  refine ret1 Tryz.results33 (v := .bool false) rfl ?_
  intro w hw
  exact ⟨congrArg (fun b : Bool => Ending.returned (.bool b)) (show false = _ by rw [eq_comm, decide_eq_false_iff_not]; intro hok; obtain ⟨h1, h2, h3, h4, h5, h6, h7, h8, h9⟩ := hok; first | omega | (simp_all; done) | (simp_all; omega)), st_mask [false] rfl hw⟩
 refine g_val (v := pp b1 7) rfl rfl rfl rfl rfl (e_fieldPt rfl ua12) ?_
 refine g_val (v := .bool (b.round)) rfl rfl rfl rfl rfl (e_load1 ua13 rfl (k_pt 0 rfl rfl)) ?_
 refine g_val (v := .bool (b.round)) rfl rfl rfl rfl rfl e_move ?_
 refine l_splitb (s := 60) (b := b.round) rfl (fun hg12 => ?_) (fun hg12 => ?_)
 ·refine g_val (v := pp b1 6) rfl rfl rfl rfl rfl (e_fieldPt rfl ua11) ?_
  refine g_val (v := Ix (b.h)) rfl rfl rfl rfl rfl (e_load1 ua2 rfl (k_pt 0 rfl rfl)) ?_
  refine g_val (v := pp b1 5) rfl rfl rfl rfl rfl (e_fieldPt rfl ua10) ?_
  refine g_val (v := Ix (b.w)) rfl rfl rfl rfl rfl (e_load1 ua2 rfl (k_pt 0 rfl rfl)) ?_
  refine g_val rfl rfl rfl rfl rfl (e_neq (a := (b.h)) (b := (b.w)) rfl rfl) ?_
  refine g_val (v := .bool (decide ((b.h) ≠ (b.w)))) rfl rfl rfl rfl rfl (e_pick_t rfl) ?_
  refine lv (v := .bool (decide ((b.h) ≠ (b.w)))) (e_pick_f rfl) ?_
  refine lnf ?_
  refine c_if ((b.h) ≠ (b.w)) rfl (fun hc13 => ?_) (fun hc13 => ?_)
  ·refine csr ?_
   refine l_val (v := .bool false) rfl rfl rfl e_assign ?_
   refine lnf ?_
   refine c_ret ?_
   refine f_then_ret ?_
   refine ret1 Tryz.results33 (v := .bool false) rfl ?_
   intro w hw
   exact ⟨congrArg (fun b : Bool => Ending.returned (.bool b)) (show false = _ by rw [eq_comm, decide_eq_false_iff_not]; intro hok; obtain ⟨h1, h2, h3, h4, h5, h6, h7, h8, h9⟩ := hok; first | omega | (simp_all; done) | (simp_all; omega)), st_mask [false] rfl hw⟩
  refine csk ?_
  refine csr ?_
  refine lv (v := pp b1 8) (e_fieldPt rfl ua14) ?_
  refine lv (v := .bool (b.fixed)) (e_load1 ua13 rfl (k_pt 0 rfl rfl)) ?_
  refine lv (v := .bool (!b.fixed)) (e_not rfl) ?_
  refine lv (v := .bool (!b.fixed)) e_move ?_
  refine l_splitb (s := 71) (b := !b.fixed) rfl (fun hg14 => ?_) (fun hg14 => ?_)
  ·refine l_skip rfl rfl rfl rfl rfl rfl ?_
   refine l_skip rfl rfl rfl rfl rfl rfl ?_
   refine l_skip rfl rfl rfl rfl rfl rfl ?_
   refine l_skip rfl rfl rfl rfl rfl rfl ?_
   refine l_skip rfl rfl rfl rfl rfl rfl ?_
   refine l_skip_u rfl rfl rfl rfl rfl ?_
   refine l_skip_u rfl rfl rfl rfl rfl ?_
   refine l_skip_u rfl rfl rfl rfl rfl ?_
   refine l_skip_u rfl rfl rfl rfl rfl ?_
   refine l_skip rfl rfl rfl rfl rfl rfl ?_
   refine lv (v := .bool true) (e_pick_t rfl) ?_
   refine lv (v := .bool true) e_assign ?_
   refine lnf ?_
   refine c_ret ?_
   refine ret1 Tryz.results33 (v := .bool true) rfl ?_
   intro w hw
   exact ⟨congrArg (fun b : Bool => Ending.returned (.bool b)) (show true = _ by have hall : okB b ↔ (b.fixed = true → b.vx = 0 ∧ b.vy = 0) := ⟨fun h => h.2.2.2.2.2.2.2.2, fun h => ⟨by omega, by omega, by omega, by omega, by omega, by omega, by omega, by (first | omega | (intro hr; first | omega | simp_all)), h⟩⟩; rw [show decide (okB b) = decide (b.fixed = true → b.vx = 0 ∧ b.vy = 0) from decide_eq_decide.2 hall]; first | simp_all | (simp_all; omega)), st_mask [false] rfl hw⟩
  refine g_val (v := pp b1 3) rfl rfl rfl rfl rfl (e_fieldPt rfl ua9) ?_
  refine g_val (v := pp b1 3) rfl rfl rfl rfl rfl (e_fieldPt rfl ua7) ?_
  refine g_val (v := Ix (b.vx)) rfl rfl rfl rfl rfl (e_load1 ua2 rfl (k_pt 0 rfl rfl)) ?_
  refine g_val rfl rfl rfl rfl rfl (e_eql (a := (b.vx)) (b := (0 : Int)) rfl rfl) ?_
  refine g_val (v := .bool (decide ((b.vx) = (0 : Int)))) rfl rfl rfl rfl rfl e_move ?_
  refine l_split (s := 76) (p := (b.vx) = (0 : Int)) rfl (fun hg15 => ?_) (fun hg15 => ?_)
  ·refine g_val (v := pp b1 3) rfl rfl rfl rfl rfl (e_fieldPt rfl ua9) ?_
   refine g_val (v := pp b1 4) rfl rfl rfl rfl rfl (e_fieldPt rfl ua8) ?_
   refine g_val (v := Ix (b.vy)) rfl rfl rfl rfl rfl (e_load1 ua2 rfl (k_pt 0 rfl rfl)) ?_
   refine g_val rfl rfl rfl rfl rfl (e_eql (a := (b.vy)) (b := (0 : Int)) rfl rfl) ?_
   refine g_val (v := .bool (decide ((b.vy) = (0 : Int)))) rfl rfl rfl rfl rfl (e_pick_t rfl) ?_
   refine lv (v := .bool (decide ((b.vy) = (0 : Int)))) (e_pick_f rfl) ?_
   refine lv (v := .bool (decide ((b.vy) = (0 : Int)))) e_assign ?_
   refine lnf ?_
   refine c_ret ?_
   refine ret1 Tryz.results33 (v := .bool (decide ((b.vy) = (0 : Int)))) rfl ?_
   intro w hw
   exact ⟨congrArg (fun b : Bool => Ending.returned (.bool b)) (show decide ((b.vy) = (0 : Int)) = _ by have hall : okB b ↔ (b.fixed = true → b.vx = 0 ∧ b.vy = 0) := ⟨fun h => h.2.2.2.2.2.2.2.2, fun h => ⟨by omega, by omega, by omega, by omega, by omega, by omega, by omega, by (first | omega | (intro hr; first | omega | simp_all)), h⟩⟩; rw [show decide (okB b) = decide (b.fixed = true → b.vx = 0 ∧ b.vy = 0) from decide_eq_decide.2 hall]; first | simp_all | (simp_all; omega)), st_mask [false] rfl hw⟩
  refine l_skip rfl rfl rfl rfl rfl rfl ?_
  refine l_skip rfl rfl rfl rfl rfl rfl ?_
  refine l_skip rfl rfl rfl rfl rfl rfl ?_
  refine l_skip rfl rfl rfl rfl rfl rfl ?_
  refine g_val (v := .bool false) rfl rfl rfl rfl rfl (e_pick_f rfl) ?_
  refine lv (v := .bool false) (e_pick_f rfl) ?_
  refine lv (v := .bool false) e_assign ?_
  refine lnf ?_
  refine c_ret ?_
  refine ret1 Tryz.results33 (v := .bool false) rfl ?_
  intro w hw
  exact ⟨congrArg (fun b : Bool => Ending.returned (.bool b)) (show false = _ by rw [eq_comm, decide_eq_false_iff_not]; intro hok; obtain ⟨h1, h2, h3, h4, h5, h6, h7, h8, h9⟩ := hok; first | omega | (simp_all; done) | (simp_all; omega)), st_mask [false] rfl hw⟩
 refine l_skip rfl rfl rfl rfl rfl rfl ?_
 refine l_skip rfl rfl rfl rfl rfl rfl ?_
 refine l_skip rfl rfl rfl rfl rfl rfl ?_
 refine l_skip rfl rfl rfl rfl rfl rfl ?_
 refine l_skip rfl rfl rfl rfl rfl rfl ?_
 refine g_val (v := .bool false) rfl rfl rfl rfl rfl (e_pick_f rfl) ?_
 refine lv (v := .bool false) (e_pick_f rfl) ?_
 refine lnf ?_
 refine c_no rfl ?_
 refine csk ?_
 refine csr ?_
 refine lv (v := pp b1 8) (e_fieldPt rfl ua14) ?_
 refine lv (v := .bool (b.fixed)) (e_load1 ua13 rfl (k_pt 0 rfl rfl)) ?_
 refine lv (v := .bool (!b.fixed)) (e_not rfl) ?_
 refine lv (v := .bool (!b.fixed)) e_move ?_
 refine l_splitb (s := 71) (b := !b.fixed) rfl (fun hg16 => ?_) (fun hg16 => ?_)
 ·refine l_skip rfl rfl rfl rfl rfl rfl ?_
  refine l_skip rfl rfl rfl rfl rfl rfl ?_
  refine l_skip rfl rfl rfl rfl rfl rfl ?_
  refine l_skip rfl rfl rfl rfl rfl rfl ?_
  refine l_skip rfl rfl rfl rfl rfl rfl ?_
  refine l_skip_u rfl rfl rfl rfl rfl ?_
  refine l_skip_u rfl rfl rfl rfl rfl ?_
  refine l_skip_u rfl rfl rfl rfl rfl ?_
  refine l_skip_u rfl rfl rfl rfl rfl ?_
  refine l_skip rfl rfl rfl rfl rfl rfl ?_
  refine lv (v := .bool true) (e_pick_t rfl) ?_
  refine lv (v := .bool true) e_assign ?_
  refine lnf ?_
  refine c_ret ?_
  refine ret1 Tryz.results33 (v := .bool true) rfl ?_
  intro w hw
  exact ⟨congrArg (fun b : Bool => Ending.returned (.bool b)) (show true = _ by have hall : okB b ↔ (b.fixed = true → b.vx = 0 ∧ b.vy = 0) := ⟨fun h => h.2.2.2.2.2.2.2.2, fun h => ⟨by omega, by omega, by omega, by omega, by omega, by omega, by omega, by (first | omega | (intro hr; first | omega | simp_all)), h⟩⟩; rw [show decide (okB b) = decide (b.fixed = true → b.vx = 0 ∧ b.vy = 0) from decide_eq_decide.2 hall]; first | simp_all | (simp_all; omega)), st_mask [false] rfl hw⟩
 refine g_val (v := pp b1 3) rfl rfl rfl rfl rfl (e_fieldPt rfl ua9) ?_
 refine g_val (v := pp b1 3) rfl rfl rfl rfl rfl (e_fieldPt rfl ua7) ?_
 refine g_val (v := Ix (b.vx)) rfl rfl rfl rfl rfl (e_load1 ua2 rfl (k_pt 0 rfl rfl)) ?_
 refine g_val rfl rfl rfl rfl rfl (e_eql (a := (b.vx)) (b := (0 : Int)) rfl rfl) ?_
 refine g_val (v := .bool (decide ((b.vx) = (0 : Int)))) rfl rfl rfl rfl rfl e_move ?_
 refine l_split (s := 76) (p := (b.vx) = (0 : Int)) rfl (fun hg17 => ?_) (fun hg17 => ?_)
 ·refine g_val (v := pp b1 3) rfl rfl rfl rfl rfl (e_fieldPt rfl ua9) ?_
  refine g_val (v := pp b1 4) rfl rfl rfl rfl rfl (e_fieldPt rfl ua8) ?_
  refine g_val (v := Ix (b.vy)) rfl rfl rfl rfl rfl (e_load1 ua2 rfl (k_pt 0 rfl rfl)) ?_
  refine g_val rfl rfl rfl rfl rfl (e_eql (a := (b.vy)) (b := (0 : Int)) rfl rfl) ?_
  refine g_val (v := .bool (decide ((b.vy) = (0 : Int)))) rfl rfl rfl rfl rfl (e_pick_t rfl) ?_
  refine lv (v := .bool (decide ((b.vy) = (0 : Int)))) (e_pick_f rfl) ?_
  refine lv (v := .bool (decide ((b.vy) = (0 : Int)))) e_assign ?_
  refine lnf ?_
  refine c_ret ?_
  refine ret1 Tryz.results33 (v := .bool (decide ((b.vy) = (0 : Int)))) rfl ?_
  intro w hw
  exact ⟨congrArg (fun b : Bool => Ending.returned (.bool b)) (show decide ((b.vy) = (0 : Int)) = _ by have hall : okB b ↔ (b.fixed = true → b.vx = 0 ∧ b.vy = 0) := ⟨fun h => h.2.2.2.2.2.2.2.2, fun h => ⟨by omega, by omega, by omega, by omega, by omega, by omega, by omega, by (first | omega | (intro hr; first | omega | simp_all)), h⟩⟩; rw [show decide (okB b) = decide (b.fixed = true → b.vx = 0 ∧ b.vy = 0) from decide_eq_decide.2 hall]; first | simp_all | (simp_all; omega)), st_mask [false] rfl hw⟩
 refine l_skip rfl rfl rfl rfl rfl rfl ?_
 refine l_skip rfl rfl rfl rfl rfl rfl ?_
 refine l_skip rfl rfl rfl rfl rfl rfl ?_
 refine l_skip rfl rfl rfl rfl rfl rfl ?_
 refine g_val (v := .bool false) rfl rfl rfl rfl rfl (e_pick_f rfl) ?_
 refine lv (v := .bool false) (e_pick_f rfl) ?_
 refine lv (v := .bool false) e_assign ?_
 refine lnf ?_
 refine c_ret ?_
 refine ret1 Tryz.results33 (v := .bool false) rfl ?_
 intro w hw
 exact ⟨congrArg (fun b : Bool => Ending.returned (.bool b)) (show false = _ by rw [eq_comm, decide_eq_false_iff_not]; intro hok; obtain ⟨h1, h2, h3, h4, h5, h6, h7, h8, h9⟩ := hok; first | omega | (simp_all; done) | (simp_all; omega)), st_mask [false] rfl hw⟩
set_option maxHeartbeats 4000000 in
theorem bounds5_ok (β : Base) (w : World) (hw : St β [] w) (b : KB) (hb : okB b) : Calls Tryz.prog 37 #[.agg (bC b)] w fun r w' => r = .returned (.tuple #[.agg #[Ix (b.x - b.w), Ix (b.y - b.h)], .agg #[Ix (b.x + b.w), Ix (b.y + b.h)]]) ∧ St β [] w' := by
 have gb2 := hb.2.1
 have gb3 := hb.2.2.1
 have gb6 := hb.2.2.2.2.2.1
 have gb7 := hb.2.2.2.2.2.2.1
 refine enter (n := 35) Tryz.func37 rfl Tryz.ntmps37 rfl ?_ hw
 refine csr ?_
 refine l_mv rfl rfl rfl (m_box (v := .agg (bC b)) rfl) ?_
 rintro _ _ ⟨b1, rfl, rfl⟩
 refine l_mv rfl rfl rfl (m_alloc ua17) ?_
 rintro _ _ ⟨b2, rfl, rfl⟩
 refine l_mv rfl rfl rfl (m_alloc ua17) ?_
 rintro _ _ ⟨b3, rfl, rfl⟩
 refine lnf ?_
 refine cs2 ?_
 refine c_region ?_
 refine lv (v := .agg (bC b)) (e_load ua22 rfl (k_pt 2 rfl rfl) rfl) ?_
 refine lcf (cl0 (vs := [.agg (bC b)]) ua115 rfl rfl) rfl fun w β1 sb kn hw1 back => (valid5_ok β1 w hw1 b).mono ?_
 rintro e w' ⟨rfl, hw'⟩
 refine ⟨_, rfl, _, back _ _ hw', ?_⟩
 clear hw1 hw' back kn sb
 refine lv (v := .bool (decide (¬ (okB b)))) (e_not_p (p := okB b) rfl) ?_
 refine lnf ?_
 refine c_if (¬ (okB b)) rfl (fun hc4 => ?_) (fun hc4 => ?_)
 ·exact absurd hc4 (fun h => h hb)
 refine csk ?_
 refine c_seq ?_
 refine c_any [⟨[], [], [0], [9], fun f => f 9 = pp b1 1⟩, ⟨[0], [0], [], [10], fun f => f 10 = pp b1 1⟩, ⟨[0, 1], [1], [], [11], fun f => f 11 = Ix (b.x)⟩, ⟨[], [], [0], [12], fun f => f 12 = pp b1 5⟩, ⟨[3], [3], [], [13], fun f => f 13 = Ix (b.w)⟩, ⟨[0, 1, 2, 3, 4], [2, 4], [], [14], fun f => f 14 = Ix ((b.x) - (b.w))⟩, ⟨[], [], [0], [15], fun f => f 15 = pp b1 1⟩, ⟨[6], [6], [], [16], fun f => f 16 = pp b1 2⟩, ⟨[6, 7], [7], [], [17], fun f => f 17 = Ix (b.y)⟩, ⟨[], [], [0], [18], fun f => f 18 = pp b1 6⟩, ⟨[9], [9], [], [19], fun f => f 19 = Ix (b.h)⟩, ⟨[6, 7, 8, 9, 10], [8, 10], [], [20], fun f => f 20 = Ix ((b.y) - (b.h))⟩, ⟨(List.range 12), [5, 11], [], [21], fun f => f 21 = .agg #[Ix ((b.x) - (b.w)), Ix ((b.y) - (b.h))]⟩, ⟨[], [], [0], [22], fun f => f 22 = pp b1 1⟩, ⟨[13], [13], [], [23], fun f => f 23 = pp b1 1⟩, ⟨[13, 14], [14], [], [24], fun f => f 24 = Ix (b.x)⟩, ⟨[], [], [0], [25], fun f => f 25 = pp b1 5⟩, ⟨[16], [16], [], [26], fun f => f 26 = Ix (b.w)⟩, ⟨[13, 14, 15, 16, 17], [15, 17], [], [27], fun f => f 27 = Ix ((b.x) + (b.w))⟩, ⟨[], [], [0], [28], fun f => f 28 = pp b1 1⟩, ⟨[19], [19], [], [29], fun f => f 29 = pp b1 2⟩, ⟨[19, 20], [20], [], [30], fun f => f 30 = Ix (b.y)⟩, ⟨[], [], [0], [31], fun f => f 31 = pp b1 6⟩, ⟨[22], [22], [], [32], fun f => f 32 = Ix (b.h)⟩, ⟨[19, 20, 21, 22, 23], [21, 23], [], [33], fun f => f 33 = Ix ((b.y) + (b.h))⟩, ⟨[13, 14, 15, 16, 17, 18, 19, 20, 21, 22, 23, 24], [18, 24], [], [34], fun f => f 34 = .agg #[Ix ((b.x) + (b.w)), Ix ((b.y) + (b.h))]⟩, ⟨(List.range 13), [12], [1], [], fun _ => True⟩, ⟨(List.range 27), [25], [2], [], fun _ => True⟩] [⟨none, (some 27), [27], [], fun _ => pt b3 (.cells #[.int .i64 (0), .int .i64 (0)] 25)⟩, ⟨none, (some 26), [26], [], fun _ => pt b2 (.cells #[.int .i64 (0), .int .i64 (0)] 25)⟩, ⟨none, none, [2, 4, 8, 10, 15, 17, 21, 23], [], fun _ => pt b1 (.cells (bC b) 33)⟩, ⟨(some 26), none, [], [], fun _ => pt b2 (.cells #[Ix ((b.x) - (b.w)), Ix ((b.y) - (b.h))] 25)⟩, ⟨(some 27), none, [], [], fun _ => pt b3 (.cells #[Ix ((b.x) + (b.w)), Ix ((b.y) + (b.h))] 25)⟩] [(1, pp b1 0), (2, pp b2 0), (3, pp b3 0)] [1, 2] [] (by kernel_rfl) (by kernel_rfl) (by kernel_rfl) (by kernel_rfl) rfl ⟨rfl, rfl, rfl, trivial⟩ ⟨?_, ?_, ?_, ?_, ?_, ?_, ?_, ?_, ?_, ?_, ?_, ?_, ?_, ?_, ?_, ?_, ?_, ?_, ?_, ?_, ?_, ?_, ?_, ?_, ?_, ?_, ?_, ?_, trivial⟩ ?_
 ·rintro f M - ⟨i0, -⟩
  exact ob0 (up_cons (d := 1) rfl i0) rfl (e_fieldPt rfl ua6) (.refl _)
 ·rintro f M ⟨k0, -⟩ -
  exact ob0 (up_cons (d := 9) rfl k0) rfl (e_fieldPt rfl ua7) (.refl _)
 ·rintro f M ⟨k0, -⟩ -
  exact obv (L' := pt b1 (.cells (bC b) 33) :: M) (up_cons (d := 10) rfl k0) rfl (e_load1 ua2 rfl (k_pt 0 rfl rfl)) (perm_front 0 rfl) (by rfl)
 ·rintro f M - ⟨i0, -⟩
  exact ob0 (up_cons (d := 1) rfl i0) rfl (e_fieldPt rfl ua10) (.refl _)
 ·rintro f M ⟨k0, -⟩ -
  exact obv (L' := pt b1 (.cells (bC b) 33) :: M) (up_cons (d := 12) rfl k0) rfl (e_load1 ua2 rfl (k_pt 0 rfl rfl)) (perm_front 0 rfl) (by rfl)
 ·rintro f M ⟨k0, k1, -⟩ -
  exact ob0 (up_cons (d := 13) (up_cons (d := 11) rfl k0) k1) rfl (e_sub (a := (b.x)) (b := (b.w)) rfl rfl (i64w (by omega))) (.refl _)
 ·rintro f M - ⟨i0, -⟩
  exact ob0 (up_cons (d := 1) rfl i0) rfl (e_fieldPt rfl ua6) (.refl _)
 ·rintro f M ⟨k0, -⟩ -
  exact ob0 (up_cons (d := 15) rfl k0) rfl (e_fieldPt rfl ua8) (.refl _)
 ·rintro f M ⟨k0, -⟩ -
  exact obv (L' := pt b1 (.cells (bC b) 33) :: M) (up_cons (d := 16) rfl k0) rfl (e_load1 ua2 rfl (k_pt 0 rfl rfl)) (perm_front 0 rfl) (by rfl)
 ·rintro f M - ⟨i0, -⟩
  exact ob0 (up_cons (d := 1) rfl i0) rfl (e_fieldPt rfl ua11) (.refl _)
 ·rintro f M ⟨k0, -⟩ -
  exact obv (L' := pt b1 (.cells (bC b) 33) :: M) (up_cons (d := 18) rfl k0) rfl (e_load1 ua2 rfl (k_pt 0 rfl rfl)) (perm_front 0 rfl) (by rfl)
 ·rintro f M ⟨k0, k1, -⟩ -
  exact ob0 (up_cons (d := 19) (up_cons (d := 17) rfl k0) k1) rfl (e_sub (a := (b.y)) (b := (b.h)) rfl rfl (i64w (by omega))) (.refl _)
 ·rintro f M ⟨k0, k1, -⟩ -
  exact ob0 (up_cons (d := 20) (up_cons (d := 14) rfl k0) k1) rfl (e_build ua17 ua16 (vs := [(0, Ix ((b.x) - (b.w))), (1, Ix ((b.y) - (b.h)))]) (cells := #[Ix ((b.x) - (b.w)), Ix ((b.y) - (b.h))]) rfl rfl) (.refl _)
 ·rintro f M - ⟨i0, -⟩
  exact ob0 (up_cons (d := 1) rfl i0) rfl (e_fieldPt rfl ua6) (.refl _)
 ·rintro f M ⟨k0, -⟩ -
  exact ob0 (up_cons (d := 22) rfl k0) rfl (e_fieldPt rfl ua7) (.refl _)
 ·rintro f M ⟨k0, -⟩ -
  exact obv (L' := pt b1 (.cells (bC b) 33) :: M) (up_cons (d := 23) rfl k0) rfl (e_load1 ua2 rfl (k_pt 0 rfl rfl)) (perm_front 0 rfl) (by rfl)
 ·rintro f M - ⟨i0, -⟩
  exact ob0 (up_cons (d := 1) rfl i0) rfl (e_fieldPt rfl ua10) (.refl _)
 ·rintro f M ⟨k0, -⟩ -
  exact obv (L' := pt b1 (.cells (bC b) 33) :: M) (up_cons (d := 25) rfl k0) rfl (e_load1 ua2 rfl (k_pt 0 rfl rfl)) (perm_front 0 rfl) (by rfl)
 ·rintro f M ⟨k0, k1, -⟩ -
  exact ob0 (up_cons (d := 26) (up_cons (d := 24) rfl k0) k1) rfl (e_add (a := (b.x)) (b := (b.w)) rfl rfl (i64w (by omega))) (.refl _)
 ·rintro f M - ⟨i0, -⟩
  exact ob0 (up_cons (d := 1) rfl i0) rfl (e_fieldPt rfl ua6) (.refl _)
 ·rintro f M ⟨k0, -⟩ -
  exact ob0 (up_cons (d := 28) rfl k0) rfl (e_fieldPt rfl ua8) (.refl _)
 ·rintro f M ⟨k0, -⟩ -
  exact obv (L' := pt b1 (.cells (bC b) 33) :: M) (up_cons (d := 29) rfl k0) rfl (e_load1 ua2 rfl (k_pt 0 rfl rfl)) (perm_front 0 rfl) (by rfl)
 ·rintro f M - ⟨i0, -⟩
  exact ob0 (up_cons (d := 1) rfl i0) rfl (e_fieldPt rfl ua11) (.refl _)
 ·rintro f M ⟨k0, -⟩ -
  exact obv (L' := pt b1 (.cells (bC b) 33) :: M) (up_cons (d := 31) rfl k0) rfl (e_load1 ua2 rfl (k_pt 0 rfl rfl)) (perm_front 0 rfl) (by rfl)
 ·rintro f M ⟨k0, k1, -⟩ -
  exact ob0 (up_cons (d := 32) (up_cons (d := 30) rfl k0) k1) rfl (e_add (a := (b.y)) (b := (b.h)) rfl rfl (i64w (by omega))) (.refl _)
 ·rintro f M ⟨k0, k1, -⟩ -
  exact ob0 (up_cons (d := 33) (up_cons (d := 27) rfl k0) k1) rfl (e_build ua17 ua16 (vs := [(0, Ix ((b.x) + (b.w))), (1, Ix ((b.y) + (b.h)))]) (cells := #[Ix ((b.x) + (b.w)), Ix ((b.y) + (b.h))]) rfl rfl) (.refl _)
 ·rintro f M ⟨k0, -⟩ ⟨i0, -⟩
  refine ob_start (L' := pt b2 (.cells #[.int .i64 (0), .int .i64 (0)] 25) :: M) (by rfl) (up_cons (d := 21) (up_cons (d := 2) rfl i0) k0) ?_
  refine lu (m_store 0 ua15 (cs' := #[Ix ((b.x) - (b.w)), Ix ((b.y) - (b.h))]) rfl rfl rfl rfl rfl rfl rfl) ?_
  refine l_nil ?_
  exact f_owes_n (up_cons (d := 21) (up_cons (d := 2) rfl i0) k0) trivial (perm_front 0 rfl)
 ·rintro f M ⟨k0, -⟩ ⟨i0, -⟩
  refine ob_start (L' := pt b3 (.cells #[.int .i64 (0), .int .i64 (0)] 25) :: M) (by rfl) (up_cons (d := 34) (up_cons (d := 3) rfl i0) k0) ?_
  refine lu (m_store 0 ua15 (cs' := #[Ix ((b.x) + (b.w)), Ix ((b.y) + (b.h))]) rfl rfl rfl rfl rfl rfl rfl) ?_
  refine l_nil ?_
  exact f_owes_n (up_cons (d := 34) (up_cons (d := 3) rfl i0) k0) trivial (perm_front 0 rfl)
 rintro fa5 ⟨-, -, -, -, -, -, -, -, -, -, -, -, -, -, -, -, -, -, -, -, -, -, -, -, -, -, -, -, -⟩ ⟨j0, j1, -⟩
 refine f_re (L' := [pt b1 (.cells (bC b) 33), pt b2 (.cells #[Ix ((b.x) - (b.w)), Ix ((b.y) - (b.h))] 25), pt b3 (.cells #[Ix ((b.x) + (b.w)), Ix ((b.y) + (b.h))] 25)]) (by rfl) ?_
 refine f_rebase (d := 2) j0 ?_
 refine f_rebase (d := 3) j1 ?_
 refine ftr ?_
 refine retG (m := [.agg #[Ix ((b.x) - (b.w)), Ix ((b.y) - (b.h))], .agg #[Ix ((b.x) + (b.w)), Ix ((b.y) + (b.h))]]) Tryz.results37 ⟨rd_cell ua15 rfl (k_pt 1 rfl rfl) rfl, rd_cell ua15 rfl (k_pt 2 rfl rfl) rfl, trivial⟩ rfl ?_
 intro w hw
 exact ⟨rfl, st_mask [false, false, false] rfl hw⟩
set_option maxHeartbeats 4000000 in
theorem find7_ok (β : Base) (w : World) (hw : St β [] w) (v : Value) (xs : List KB) (hs : Sl KBR β.heap v xs) (i : Int) : Calls Tryz.prog 53 #[v, Ix i] w fun r w' => r = .returned (Ix (idxI (fun y : KB => decide (y.id = i)) xs)) ∧ St β [] w' := by
 obtain ⟨va, vc, rfl, vl, vm, ve⟩ := hs.get
 refine enter (n := 20) Tryz.func53 rfl Tryz.ntmps53 rfl ?_ hw
 refine csr ?_
 refine l_val (v := .int .i64 (0)) rfl rfl rfl e_assign ?_
 refine lnf ?_
 refine cs2 ?_
 refine c_region ?_
 refine l_val (v := .int .i64 (0)) rfl rfl rfl e_assign ?_
 refine lnf ?_
 refine c_block ?_
 refine c_loop (fun (k : Nat) (f : Fm) (L : List Res) => (f 0 = sB va xs (vc) ∧ f 1 = Ix (i) ∧ f 5 = Nx (k)) ∧ L = [] ∧ (k ≤ xs.length ∧ ∀ y ∈ xs.take k, decide (y.id = i) = false)) (fun (k : Nat) => xs.length - k) 0 ?_ ?_
 ·exact ⟨⟨rfl, rfl, rfl⟩, rfl, ⟨by omega, fun y hy => by simp at hy⟩⟩
 rintro k f0 L0 ⟨⟨hs0, hs1, hs5⟩, hL, ⟨hk, hp⟩⟩
 subst L0
 refine rebase (d := 0) hs0 ?_
 refine rebase (d := 1) hs1 ?_
 refine rebase (d := 5) hs5 ?_
 clear hs0 hs1 hs5
 refine cs2 ?_
 refine c_region ?_
 refine lv (v := Nx (k)) e_move ?_
 refine lv (v := sB va xs (vc)) e_move ?_
 refine lv (v := Nx (xs.length)) (e_len (a := va) (n := xs.length) (c := vc) rfl ua40) ?_
 refine lv (e_lss (a := ((k : Nat) : Int)) (b := ((xs.length : Nat) : Int)) rfl rfl) ?_
 refine lnf ?_
 refine c_if (((k : Nat) : Int) < ((xs.length : Nat) : Int)) rfl (fun hc1 => ?_) (fun hc1 => ?_)
 ·refine csk ?_
  refine c_seq ?_
  refine c_block ?_
  refine csr ?_
  refine lv (v := sB va xs (vc)) e_move ?_
  refine lv (v := Nx (k)) e_move ?_
  obtain ⟨x2, hx3⟩ : ∃ x_, (xs)[k]? = some x_ := ⟨_, List.getElem?_eq_getElem (by omega)⟩
  obtain ⟨ha4, cs5, hc6, rfl⟩ := ve _ _ hx3
  refine lv (v := .pointer (some ((ba va).add (k * 9)))) (e_indexAddr (k := k) (len := xs.length) (cap := vc) (a := va) rfl rfl ua43 (by omega) ha4) ?_
  refine lv (v := .pointer (some (((ba va).add (k * 9) : Addr).add 0))) (e_fieldAddr (a := (ba va).add (k * 9)) rfl ua3) ?_
  refine lv (v := Ix (x2.id)) (e_load1 ua2 rfl (Knows.imp (kB hc6) (fun _ h => Cs.sub (vs := [Ix (x2.id)]) 0 h rfl))) ?_
  refine lv (v := Ix (i)) e_move ?_
  refine lv (e_eql (a := (x2.id)) (b := (i)) rfl rfl) ?_
  refine lnf ?_
  refine c_if ((x2.id) = (i)) rfl (fun hc8 => ?_) (fun hc8 => ?_)
  ·refine csr ?_
   refine lv (v := Nx (k)) e_move ?_
   refine lv (v := Nx (k)) e_assign ?_
   refine lnf ?_
   refine c_ret ?_
   refine f_block_ret ?_
   refine f_then_ret ?_
   refine f_then_ret ?_
   refine f_block_ret ?_
   refine f_then_ret ?_
   refine ret1 Tryz.results53 (v := Nx (k)) rfl ?_
   intro w hw
   exact ⟨congrArg (fun z : Int => Ending.returned (Ix z)) (idx_found hx3 (decide_eq_true hc8) hp).symm, st_mask [] rfl hw⟩
  refine c_skip ?_
  refine f_block ?_
  refine f_then ?_
  refine c_region ?_
  refine lv (v := Nx (k)) e_move ?_
  refine lv (v := Nx (k + 1)) (e_add (a := ((k : Nat) : Int)) (b := (1 : Int)) rfl rfl (i64n (by omega) (by omega))) ?_
  refine lv (v := Nx (k + 1)) e_assign ?_
  refine l_nil ?_
  exact f_cut ⟨k + 1, ⟨⟨rfl, rfl, rfl⟩, rfl, ⟨by omega, idx_next hx3 (decide_eq_false hc8) hp⟩⟩, (show xs.length - (k + 1) < xs.length - k from by omega)⟩
 refine c_exit ?_
 refine f_then_exit ?_
 refine f_then_exit ?_
 refine f_exit ?_
 refine ftc ?_
 refine lv (v := .int .i64 (-1)) e_assign ?_
 refine lnf ?_
 refine c_ret ?_
 refine ret1 Tryz.results53 (v := .int .i64 (-1)) rfl ?_
 intro w hw
 exact ⟨congrArg (fun z : Int => Ending.returned (Ix z)) (idx_none (by omega) hp).symm, st_mask [] rfl hw⟩
set_option maxHeartbeats 4000000 in
theorem pull7_ok (β : Base) (w : World) (hw : St β [] w) (x y : Int) : Calls Tryz.prog 34 #[.agg #[Ix x, Ix y]] w fun r w' => r = .returned (.bool (decide (okV x y))) ∧ St β [] w' := by
 refine enter (n := 21) Tryz.func34 rfl Tryz.ntmps34 rfl ?_ hw
 refine csr ?_
 refine l_mv rfl rfl rfl (m_box (v := .agg #[Ix (x), Ix (y)]) rfl) ?_
 rintro _ _ ⟨b1, rfl, rfl⟩
 refine lv (v := .bool false) e_assign ?_
 refine lnc ?_
 refine lv (v := pp b1 0) (e_fieldPt rfl ua7) ?_
 refine lv (v := Ix (x)) (e_load1 ua2 rfl (k_pt 0 rfl rfl)) ?_
 refine lv (e_geq (a := (x)) (b := (-4096 : Int)) rfl rfl) ?_
 refine lv (v := .bool (decide ((-4096 : Int) ≤ (x)))) e_move ?_
 refine l_split (s := 6) (p := (-4096 : Int) ≤ (x)) rfl (fun hg2 => ?_) (fun hg2 => ?_)
 ·refine g_val (v := pp b1 0) rfl rfl rfl rfl rfl (e_fieldPt rfl ua7) ?_
  refine g_val (v := Ix (x)) rfl rfl rfl rfl rfl (e_load1 ua2 rfl (k_pt 0 rfl rfl)) ?_
  refine g_val rfl rfl rfl rfl rfl (e_leq (a := (x)) (b := (4096 : Int)) rfl rfl) ?_
  refine lv (v := .bool (decide ((x) ≤ (4096 : Int)))) (e_pick_t rfl) ?_
  refine lv (v := .bool (decide ((x) ≤ (4096 : Int)))) e_move ?_
  refine l_split (s := 11) (p := (x) ≤ (4096 : Int)) rfl (fun hg3 => ?_) (fun hg3 => ?_)
  ·refine g_val (v := pp b1 1) rfl rfl rfl rfl rfl (e_fieldPt rfl ua8) ?_
   refine g_val (v := Ix (y)) rfl rfl rfl rfl rfl (e_load1 ua2 rfl (k_pt 0 rfl rfl)) ?_
   refine g_val rfl rfl rfl rfl rfl (e_geq (a := (y)) (b := (-4096 : Int)) rfl rfl) ?_
   refine lv (v := .bool (decide ((-4096 : Int) ≤ (y)))) (e_pick_t rfl) ?_
   refine lv (v := .bool (decide ((-4096 : Int) ≤ (y)))) e_move ?_
   refine l_split (s := 16) (p := (-4096 : Int) ≤ (y)) rfl (fun hg4 => ?_) (fun hg4 => ?_)
   ·refine g_val (v := pp b1 1) rfl rfl rfl rfl rfl (e_fieldPt rfl ua8) ?_
    refine g_val (v := Ix (y)) rfl rfl rfl rfl rfl (e_load1 ua2 rfl (k_pt 0 rfl rfl)) ?_
    refine g_val rfl rfl rfl rfl rfl (e_leq (a := (y)) (b := (4096 : Int)) rfl rfl) ?_
    refine lv (v := .bool (decide ((y) ≤ (4096 : Int)))) (e_pick_t rfl) ?_
    refine lv (v := .bool (decide ((y) ≤ (4096 : Int)))) e_assign ?_
    refine lnf ?_
    refine c_ret ?_
    refine ret1 Tryz.results34 (v := .bool (decide ((y) ≤ (4096 : Int)))) rfl ?_
    intro w hw
    exact ⟨congrArg (fun b : Bool => Ending.returned (.bool b)) (show decide ((y) ≤ (4096 : Int)) = _ by first | (rw [eq_comm, decide_eq_false_iff_not]; unfold okV; omega) | exact decide_eq_decide.2 (by unfold okV; omega)), st_mask [false] rfl hw⟩
   refine l_skip rfl rfl rfl rfl rfl rfl ?_
   refine l_skip rfl rfl rfl rfl rfl rfl ?_
   refine l_skip rfl rfl rfl rfl rfl rfl ?_
   refine lv (v := .bool false) (e_pick_f rfl) ?_
   refine lv (v := .bool false) e_assign ?_
   refine lnf ?_
   refine c_ret ?_
   refine ret1 Tryz.results34 (v := .bool false) rfl ?_
   intro w hw
   exact ⟨congrArg (fun b : Bool => Ending.returned (.bool b)) (show false = _ by first | (rw [eq_comm, decide_eq_false_iff_not]; unfold okV; omega) | exact decide_eq_decide.2 (by unfold okV; omega)), st_mask [false] rfl hw⟩
  refine l_skip rfl rfl rfl rfl rfl rfl ?_
  refine l_skip rfl rfl rfl rfl rfl rfl ?_
  refine l_skip rfl rfl rfl rfl rfl rfl ?_
  refine lv (v := .bool false) (e_pick_f rfl) ?_
  refine lv (v := .bool false) e_move ?_
  refine l_skip rfl rfl rfl rfl rfl rfl ?_
  refine l_skip rfl rfl rfl rfl rfl rfl ?_
  refine l_skip rfl rfl rfl rfl rfl rfl ?_
  refine lv (v := .bool false) (e_pick_f rfl) ?_
  refine lv (v := .bool false) e_assign ?_
  refine lnf ?_
  refine c_ret ?_
  refine ret1 Tryz.results34 (v := .bool false) rfl ?_
  intro w hw
  exact ⟨congrArg (fun b : Bool => Ending.returned (.bool b)) (show false = _ by first | (rw [eq_comm, decide_eq_false_iff_not]; unfold okV; omega) | exact decide_eq_decide.2 (by unfold okV; omega)), st_mask [false] rfl hw⟩
 refine l_skip rfl rfl rfl rfl rfl rfl ?_
 refine l_skip rfl rfl rfl rfl rfl rfl ?_
 refine l_skip rfl rfl rfl rfl rfl rfl ?_
 refine lv (v := .bool false) (e_pick_f rfl) ?_
 refine lv (v := .bool false) e_move ?_
 refine l_skip rfl rfl rfl rfl rfl rfl ?_
 refine l_skip rfl rfl rfl rfl rfl rfl ?_
 refine l_skip rfl rfl rfl rfl rfl rfl ?_
 refine lv (v := .bool false) (e_pick_f rfl) ?_
 refine lv (v := .bool false) e_move ?_
 refine l_skip rfl rfl rfl rfl rfl rfl ?_
 refine l_skip rfl rfl rfl rfl rfl rfl ?_
 refine l_skip rfl rfl rfl rfl rfl rfl ?_
 refine lv (v := .bool false) (e_pick_f rfl) ?_
 refine lv (v := .bool false) e_assign ?_
 refine lnf ?_
 refine c_ret ?_
 refine ret1 Tryz.results34 (v := .bool false) rfl ?_
 intro w hw
 exact ⟨congrArg (fun b : Bool => Ending.returned (.bool b)) (show false = _ by first | (rw [eq_comm, decide_eq_false_iff_not]; unfold okV; omega) | exact decide_eq_decide.2 (by unfold okV; omega)), st_mask [false] rfl hw⟩
theorem clamp7_ok (β : Base) (w : World) (hw : St β [] w) (x : Int) : Calls Tryz.prog 35 #[Ix x] w fun r w' => r = .returned (Ix (clampS x)) ∧ St β [] w' := by
 refine enter (n := 6) Tryz.func35 rfl Tryz.ntmps35 rfl ?_ hw
 refine csr ?_
 refine l_val (v := .int .i64 (0)) rfl rfl rfl e_assign ?_
 refine lnc ?_
 refine lv (v := Ix (x)) e_move ?_
 refine lv (v := Ix (max (x) (-4096 : Int))) (e_max (a := (x)) (b := (-4096 : Int)) rfl rfl) ?_
 refine lv (v := Ix (min (max (x) (-4096 : Int)) (4096 : Int))) (e_min (a := (max (x) (-4096 : Int))) (b := (4096 : Int)) rfl rfl) ?_
 refine lv (v := Ix (min (max (x) (-4096 : Int)) (4096 : Int))) e_assign ?_
 refine lnf ?_
 refine c_ret ?_
 refine ret1 Tryz.results35 (v := Ix (min (max (x) (-4096 : Int)) (4096 : Int))) rfl ?_
 intro w hw
 exact ⟨congrArg Ending.returned (congrArg (Value.int .i64) (show (min (max (x) (-4096 : Int)) (4096 : Int)) = clampS x by unfold clampS; omega)), st_mask [] rfl hw⟩
set_option maxHeartbeats 4000000 in
theorem speed7_ok (β : Base) (w : World) (hw : St β [] w) (b : KB) (gx gy : Int) : Calls Tryz.prog 10 #[.agg (bC b), .agg #[Ix gx, Ix gy]] w fun r w' => r = .returned (.agg #[Ix (speedX b gx gy), Ix (speedY b gx gy)]) ∧ St β [] w' := by
 refine enter (n := 33) Tryz.func10 rfl Tryz.ntmps10 rfl ?_ hw
 refine csr ?_
 refine l_mv rfl rfl rfl (m_box (v := .agg (bC b)) rfl) ?_
 rintro _ _ ⟨b1, rfl, rfl⟩
 refine l_mv rfl rfl rfl (m_box (v := .agg #[Ix (gx), Ix (gy)]) rfl) ?_
 rintro _ _ ⟨b2, rfl, rfl⟩
 refine l_mv rfl rfl rfl (m_alloc ua17) ?_
 rintro _ _ ⟨b3, rfl, rfl⟩
 refine lnf ?_
 refine cs2 ?_
 refine c_region ?_
 refine lv (v := .agg (bC b)) (e_load ua22 rfl (k_pt 2 rfl rfl) rfl) ?_
 refine lcf (cl0 (vs := [.agg (bC b)]) ua115 rfl rfl) rfl fun w β1 sb kn hw1 back => (valid5_ok β1 w hw1 b).mono ?_
 rintro e w' ⟨rfl, hw'⟩
 refine ⟨_, rfl, _, back _ _ hw', ?_⟩
 clear hw1 hw' back kn sb
 refine lv (v := .bool (decide (¬ (okB b)))) (e_not_p (p := okB b) rfl) ?_
 refine lv (v := .bool (decide (¬ (okB b)))) e_move ?_
 refine l_split (s := 8) (p := ¬ (okB b)) rfl (fun hg4 => ?_) (fun hg4 => ?_)
 ·refine l_skip rfl rfl rfl rfl rfl rfl ?_
  refine l_skip rfl rfl rfl rfl rfl rfl ?_
  refine l_skip rfl rfl rfl rfl rfl rfl ?_
  refine lv (v := .bool true) (e_pick_t rfl) ?_
  refine lv (v := .bool true) e_move ?_
  refine l_skip rfl rfl rfl rfl rfl rfl ?_
  refine l_skip rfl rfl rfl rfl rfl rfl ?_
  refine lv (v := .bool true) (e_pick_t rfl) ?_
  refine lnf ?_
  refine c_yes rfl ?_
  refine csr ?_
  refine lv (v := .agg #[.int .i64 (0), .int .i64 (0)]) (e_build ua17 ua16 (vs := []) (cells := #[.int .i64 (0), .int .i64 (0)]) rfl rfl) ?_
  refine lu (m_store 0 ua15 (cs' := #[.int .i64 (0), .int .i64 (0)]) rfl rfl rfl rfl rfl rfl rfl) ?_
  refine lnf ?_
  refine c_ret ?_
  refine f_then_ret ?_
  refine retG (m := [.agg #[.int .i64 (0), .int .i64 (0)]]) Tryz.results10 ⟨rd_cell ua15 rfl (k_pt 0 rfl rfl) rfl, trivial⟩ rfl ?_
  intro w hw
  exact ⟨by rw [show speedX b gx gy = 0 from if_pos (.inr (.inl hg4)), show speedY b gx gy = 0 from if_pos (.inr (.inl hg4))] <;> rfl, st_mask [false, false, false] rfl hw⟩
 have hob := Decidable.not_not.1 hg4
 refine g_val (v := .agg #[Ix (gx), Ix (gy)]) rfl rfl rfl rfl rfl (e_load ua15 rfl (k_pt 1 rfl rfl) rfl) ?_
 refine g_call rfl rfl rfl rfl rfl (cl0 (vs := [.agg #[Ix (gx), Ix (gy)]]) ua119 rfl rfl) ?_
 intro w hw
 obtain ⟨β1, sb, kn, hw1, back⟩ := St.frame_all hw
 refine (pull7_ok β1 w hw1 (gx) (gy)).mono ?_
 rintro e w' ⟨rfl, hw'⟩
 refine ⟨_, rfl, _, back _ _ hw', ?_⟩
 clear hw hw1 hw' back kn sb
 refine g_val (v := .bool (decide (¬ (okV (gx) (gy))))) rfl rfl rfl rfl rfl (e_not_p (p := okV (gx) (gy)) rfl) ?_
 refine lv (v := .bool (decide (¬ (okV (gx) (gy))))) (e_pick_f rfl) ?_
 refine lv (v := .bool (decide (¬ (okV (gx) (gy))))) e_move ?_
 refine l_split (s := 13) (p := ¬ (okV (gx) (gy))) rfl (fun hg5 => ?_) (fun hg5 => ?_)
 ·refine l_skip rfl rfl rfl rfl rfl rfl ?_
  refine l_skip rfl rfl rfl rfl rfl rfl ?_
  refine lv (v := .bool true) (e_pick_t rfl) ?_
  refine lnf ?_
  refine c_yes rfl ?_
  refine csr ?_
  refine lv (v := .agg #[.int .i64 (0), .int .i64 (0)]) (e_build ua17 ua16 (vs := []) (cells := #[.int .i64 (0), .int .i64 (0)]) rfl rfl) ?_
  refine lu (m_store 0 ua15 (cs' := #[.int .i64 (0), .int .i64 (0)]) rfl rfl rfl rfl rfl rfl rfl) ?_
  refine lnf ?_
  refine c_ret ?_
  refine f_then_ret ?_
  refine retG (m := [.agg #[.int .i64 (0), .int .i64 (0)]]) Tryz.results10 ⟨rd_cell ua15 rfl (k_pt 0 rfl rfl) rfl, trivial⟩ rfl ?_
  intro w hw
  exact ⟨by rw [show speedX b gx gy = 0 from if_pos (.inr (.inr hg5)), show speedY b gx gy = 0 from if_pos (.inr (.inr hg5))] <;> rfl, st_mask [false, false, false] rfl hw⟩
 have hov := Decidable.not_not.1 hg5
 refine g_val (v := pp b1 8) rfl rfl rfl rfl rfl (e_fieldPt rfl ua14) ?_
 refine g_val (v := .bool (b.fixed)) rfl rfl rfl rfl rfl (e_load1 ua13 rfl (k_pt 2 rfl rfl)) ?_
 refine lv (v := .bool (b.fixed)) (e_pick_f rfl) ?_
 refine lnf ?_
 refine c_ifb (b.fixed) rfl (fun hc6 => ?_) (fun hc6 => ?_)
 ·refine csr ?_
  refine lv (v := .agg #[.int .i64 (0), .int .i64 (0)]) (e_build ua17 ua16 (vs := []) (cells := #[.int .i64 (0), .int .i64 (0)]) rfl rfl) ?_
  refine lu (m_store 0 ua15 (cs' := #[.int .i64 (0), .int .i64 (0)]) rfl rfl rfl rfl rfl rfl rfl) ?_
  refine lnf ?_
  refine c_ret ?_
  refine f_then_ret ?_
  refine retG (m := [.agg #[.int .i64 (0), .int .i64 (0)]]) Tryz.results10 ⟨rd_cell ua15 rfl (k_pt 0 rfl rfl) rfl, trivial⟩ rfl ?_
  intro w hw
  exact ⟨by rw [show speedX b gx gy = 0 from if_pos (.inl hc6), show speedY b gx gy = 0 from if_pos (.inl hc6)] <;> rfl, st_mask [false, false, false] rfl hw⟩
 refine csk ?_
 refine c_seq ?_
 have v1 := hob.2.2.2.1
 have v2 := hob.2.2.2.2.1
 have v3 := hov.1
 have v4 := hov.2.1
 have v5 := hov.2.2.1
 have v6 := hov.2.2.2
 refine c_any [⟨[], [], [0], [18], fun f => f 18 = pp b1 3⟩, ⟨[0], [0], [], [19], fun f => f 19 = pp b1 3⟩, ⟨[0, 1], [1], [], [20], fun f => f 20 = Ix (b.vx)⟩, ⟨[], [], [1], [21], fun f => f 21 = pp b2 0⟩, ⟨[3], [3], [], [22], fun f => f 22 = Ix (gx)⟩, ⟨[0, 1, 2, 3, 4], [2, 4], [], [23], fun f => f 23 = Ix ((b.vx) + (gx))⟩, ⟨(List.range 6), [5], [], [24], fun f => f 24 = Ix (clampS ((b.vx) + (gx)))⟩, ⟨[], [], [0], [25], fun f => f 25 = pp b1 3⟩, ⟨[7], [7], [], [26], fun f => f 26 = pp b1 4⟩, ⟨[7, 8], [8], [], [27], fun f => f 27 = Ix (b.vy)⟩, ⟨[], [], [1], [28], fun f => f 28 = pp b2 1⟩, ⟨[10], [10], [], [29], fun f => f 29 = Ix (gy)⟩, ⟨[7, 8, 9, 10, 11], [9, 11], [], [30], fun f => f 30 = Ix ((b.vy) + (gy))⟩, ⟨(List.range 13), [12], [], [31], fun f => f 31 = Ix (clampS ((b.vy) + (gy)))⟩, ⟨(List.range 14), [6, 13], [], [32], fun f => f 32 = .agg #[Ix (clampS ((b.vx) + (gx))), Ix (clampS ((b.vy) + (gy)))]⟩, ⟨(List.range 15), [14], [2], [], fun _ => True⟩] [⟨none, (some 15), [15], [], fun _ => pt b3 (.cells #[.int .i64 (0), .int .i64 (0)] 25)⟩, ⟨none, none, [4, 11], [], fun _ => pt b2 (.cells #[Ix (gx), Ix (gy)] 25)⟩, ⟨none, none, [2, 9], [], fun _ => pt b1 (.cells (bC b) 33)⟩, ⟨(some 15), none, [], [], fun _ => pt b3 (.cells #[Ix (clampS ((b.vx) + (gx))), Ix (clampS ((b.vy) + (gy)))] 25)⟩] [(2, pp b1 0), (3, pp b2 0), (4, pp b3 0)] [2] [] (by kernel_rfl) (by kernel_rfl) (by kernel_rfl) (by kernel_rfl) rfl ⟨rfl, rfl, rfl, trivial⟩ ⟨?_, ?_, ?_, ?_, ?_, ?_, ?_, ?_, ?_, ?_, ?_, ?_, ?_, ?_, ?_, ?_, trivial⟩ ?_
 ·rintro f M - ⟨i0, -⟩
  exact ob0 (up_cons (d := 2) rfl i0) rfl (e_fieldPt rfl ua9) (.refl _)
 ·rintro f M ⟨k0, -⟩ -
  exact ob0 (up_cons (d := 18) rfl k0) rfl (e_fieldPt rfl ua7) (.refl _)
 ·rintro f M ⟨k0, -⟩ -
  exact obv (L' := pt b1 (.cells (bC b) 33) :: M) (up_cons (d := 19) rfl k0) rfl (e_load1 ua2 rfl (k_pt 0 rfl rfl)) (perm_front 0 rfl) (by rfl)
 ·rintro f M - ⟨i0, -⟩
  exact ob0 (up_cons (d := 3) rfl i0) rfl (e_fieldPt rfl ua7) (.refl _)
 ·rintro f M ⟨k0, -⟩ -
  exact obv (L' := pt b2 (.cells #[Ix (gx), Ix (gy)] 25) :: M) (up_cons (d := 21) rfl k0) rfl (e_load1 ua2 rfl (k_pt 0 rfl rfl)) (perm_front 0 rfl) (by rfl)
 ·rintro f M ⟨k0, k1, -⟩ -
  exact ob0 (up_cons (d := 22) (up_cons (d := 20) rfl k0) k1) rfl (e_add (a := (b.vx)) (b := (gx)) rfl rfl (i64w (by omega))) (.refl _)
 ·rintro f M ⟨k0, -⟩ -
  refine ob_start (L' := M) (by rfl) (up_cons (d := 23) rfl k0) ?_
  refine lcf (cl0 (vs := [Ix ((b.vx) + (gx))]) ua120 rfl rfl) rfl fun w β1 sb kn hw1 back => (clamp7_ok β1 w hw1 ((b.vx) + (gx))).mono ?_
  rintro e w' ⟨rfl, hw'⟩
  refine ⟨_, rfl, _, back _ _ hw', ?_⟩
  clear hw1 hw' back kn sb
  refine l_nil ?_
  exact f_owes_d (up_cons (d := 23) rfl k0) rfl (List.Perm.refl _)
 ·rintro f M - ⟨i0, -⟩
  exact ob0 (up_cons (d := 2) rfl i0) rfl (e_fieldPt rfl ua9) (.refl _)
 ·rintro f M ⟨k0, -⟩ -
  exact ob0 (up_cons (d := 25) rfl k0) rfl (e_fieldPt rfl ua8) (.refl _)
 ·rintro f M ⟨k0, -⟩ -
  exact obv (L' := pt b1 (.cells (bC b) 33) :: M) (up_cons (d := 26) rfl k0) rfl (e_load1 ua2 rfl (k_pt 0 rfl rfl)) (perm_front 0 rfl) (by rfl)
 ·rintro f M - ⟨i0, -⟩
  exact ob0 (up_cons (d := 3) rfl i0) rfl (e_fieldPt rfl ua8) (.refl _)
 ·rintro f M ⟨k0, -⟩ -
  exact obv (L' := pt b2 (.cells #[Ix (gx), Ix (gy)] 25) :: M) (up_cons (d := 28) rfl k0) rfl (e_load1 ua2 rfl (k_pt 0 rfl rfl)) (perm_front 0 rfl) (by rfl)
 ·rintro f M ⟨k0, k1, -⟩ -
  exact ob0 (up_cons (d := 29) (up_cons (d := 27) rfl k0) k1) rfl (e_add (a := (b.vy)) (b := (gy)) rfl rfl (i64w (by omega))) (.refl _)
 ·rintro f M ⟨k0, -⟩ -
  refine ob_start (L' := M) (by rfl) (up_cons (d := 30) rfl k0) ?_
  refine lcf (cl0 (vs := [Ix ((b.vy) + (gy))]) ua120 rfl rfl) rfl fun w β1 sb kn hw1 back => (clamp7_ok β1 w hw1 ((b.vy) + (gy))).mono ?_
  rintro e w' ⟨rfl, hw'⟩
  refine ⟨_, rfl, _, back _ _ hw', ?_⟩
  clear hw1 hw' back kn sb
  refine l_nil ?_
  exact f_owes_d (up_cons (d := 30) rfl k0) rfl (List.Perm.refl _)
 ·rintro f M ⟨k0, k1, -⟩ -
  exact ob0 (up_cons (d := 31) (up_cons (d := 24) rfl k0) k1) rfl (e_build ua17 ua16 (vs := [(0, Ix (clampS ((b.vx) + (gx)))), (1, Ix (clampS ((b.vy) + (gy))))]) (cells := #[Ix (clampS ((b.vx) + (gx))), Ix (clampS ((b.vy) + (gy)))]) rfl rfl) (.refl _)
 ·rintro f M ⟨k0, -⟩ ⟨i0, -⟩
  refine ob_start (L' := pt b3 (.cells #[.int .i64 (0), .int .i64 (0)] 25) :: M) (by rfl) (up_cons (d := 32) (up_cons (d := 4) rfl i0) k0) ?_
  refine lu (m_store 0 ua15 (cs' := #[Ix (clampS ((b.vx) + (gx))), Ix (clampS ((b.vy) + (gy)))]) rfl rfl rfl rfl rfl rfl rfl) ?_
  refine l_nil ?_
  exact f_owes_n (up_cons (d := 32) (up_cons (d := 4) rfl i0) k0) trivial (perm_front 0 rfl)
 rintro fa7 ⟨-, -, -, -, -, -, -, -, -, -, -, -, -, -, -, -, -⟩ ⟨j0, -⟩
 refine f_re (L' := [pt b2 (.cells #[Ix (gx), Ix (gy)] 25), pt b1 (.cells (bC b) 33), pt b3 (.cells #[Ix (clampS ((b.vx) + (gx))), Ix (clampS ((b.vy) + (gy)))] 25)]) (by rfl) ?_
 refine f_rebase (d := 4) j0 ?_
 refine ftr ?_
 refine retG (m := [.agg #[Ix (clampS ((b.vx) + (gx))), Ix (clampS ((b.vy) + (gy)))]]) Tryz.results10 ⟨rd_cell ua15 rfl (k_pt 2 rfl rfl) rfl, trivial⟩ rfl ?_
 intro w hw
 have hno : ¬ (b.fixed = true ∨ ¬ okB b ∨ ¬ okV gx gy) := fun h => h.elim (fun h => by rw [hc6] at h; cases h) fun h => h.elim (fun h => h hob) fun h => h hov
 exact ⟨by rw [show speedX b gx gy = clampS (b.vx + gx) from if_neg hno, show speedY b gx gy = clampS (b.vy + gy) from if_neg hno] <;> rfl, st_mask [false, false, false] rfl hw⟩
end Go.Proofs
namespace Go.Proofs
open Go Go.Sl Go.Stp
theorem ua122 : cfB Tryz.prog 53 = true := by kernel_rfl
end Go.Proofs
namespace Go.Proofs
open Go Go.Sl Go.Stp
set_option maxHeartbeats 4000000 in
theorem valid7_ok (β : Base) (w : World) (hw : St β [] w) (v rv : Value) (gx gy : Int) (bs : List KB) (rs : List KR) (hs : Sl KBR β.heap v bs) (hr : Sl KRR β.heap rv rs) : Calls Tryz.prog 22 #[.agg #[v, rv, Ix gx, Ix gy]] w fun r w' => r = .returned (.bool (decide (okS bs rs gx gy))) ∧ St β [] w' := by
 obtain ⟨va, vc, rfl, vl, vm, ve⟩ := hs.get
 obtain ⟨rva, rvc, rfl, rvl, rvm, rve⟩ := hr.get
 refine enter (n := 99) Tryz.func22 rfl Tryz.ntmps22 rfl ?_ hw
 refine csr ?_
 refine l_mv rfl rfl rfl (m_box (v := .agg #[sB va bs (vc), sB rva rs (rvc), Ix (gx), Ix (gy)]) rfl) ?_
 rintro _ _ ⟨b1, rfl, rfl⟩
 refine lv (v := .bool false) e_assign ?_
 refine lnf ?_
 refine cs2 ?_
 refine c_region ?_
 refine lv (v := pp b1 0) (e_fieldPt rfl ua49) ?_
 refine lv (v := sB va bs (vc)) (e_load1 ua50 rfl (k_pt 0 rfl rfl)) ?_
 refine lv (v := Nx (bs.length)) (e_len (a := va) (n := bs.length) (c := vc) rfl ua40) ?_
 refine lv (e_gtr (a := ((bs.length : Nat) : Int)) (b := (64 : Int)) rfl rfl) ?_
 refine lv (v := .bool (decide ((64 : Int) < ((bs.length : Nat) : Int)))) e_move ?_
 refine l_split (s := 10) (p := (64 : Int) < ((bs.length : Nat) : Int)) rfl (fun hg2 => ?_) (fun hg2 => ?_)
 ·refine l_skip rfl rfl rfl rfl rfl rfl ?_
  refine l_skip rfl rfl rfl rfl rfl rfl ?_
  refine l_skip rfl rfl rfl rfl rfl rfl ?_
  refine l_skip rfl rfl rfl rfl rfl rfl ?_
  refine lv (v := .bool true) (e_pick_t rfl) ?_
  refine lv (v := .bool true) e_move ?_
  refine l_skip rfl rfl rfl rfl rfl rfl ?_
  refine l_skip rfl rfl rfl rfl rfl rfl ?_
  refine l_skip rfl rfl rfl rfl rfl rfl ?_
  refine l_skip rfl rfl rfl rfl rfl rfl ?_
  refine lv (v := .bool true) (e_pick_t rfl) ?_
  refine lnf ?_
  refine c_yes rfl ?_
  refine csr ?_
  refine l_val (v := .bool false) rfl rfl rfl e_assign ?_
  refine lnf ?_
  refine c_ret ?_
  refine f_then_ret ?_
  refine ret1 Tryz.results22 (v := .bool false) rfl ?_
  intro w hw
  exact ⟨congrArg (fun b : Bool => Ending.returned (.bool b)) (decide_eq_false fun h => by have q1 := h.1; have q2 := h.2.1; omega).symm, st_mask [false] rfl hw⟩
 refine g_val (v := pp b1 1) rfl rfl rfl rfl rfl (e_fieldPt rfl ua55) ?_
 refine g_val (v := sB rva rs (rvc)) rfl rfl rfl rfl rfl (e_load1 ua56 rfl (k_pt 0 rfl rfl)) ?_
 refine g_val (v := Nx (rs.length)) rfl rfl rfl rfl rfl (e_len (a := rva) (n := rs.length) (c := rvc) rfl ua45) ?_
 refine g_val rfl rfl rfl rfl rfl (e_gtr (a := ((rs.length : Nat) : Int)) (b := (32 : Int)) rfl rfl) ?_
 refine lv (v := .bool (decide ((32 : Int) < ((rs.length : Nat) : Int)))) (e_pick_f rfl) ?_
 refine lv (v := .bool (decide ((32 : Int) < ((rs.length : Nat) : Int)))) e_move ?_
 refine l_split (s := 16) (p := (32 : Int) < ((rs.length : Nat) : Int)) rfl (fun hg3 => ?_) (fun hg3 => ?_)
 ·refine l_skip rfl rfl rfl rfl rfl rfl ?_
  refine l_skip rfl rfl rfl rfl rfl rfl ?_
  refine l_skip rfl rfl rfl rfl rfl rfl ?_
  refine l_skip rfl rfl rfl rfl rfl rfl ?_
  refine lv (v := .bool true) (e_pick_t rfl) ?_
  refine lnf ?_
  refine c_yes rfl ?_
  refine csr ?_
  refine l_val (v := .bool false) rfl rfl rfl e_assign ?_
  refine lnf ?_
  refine c_ret ?_
  refine f_then_ret ?_
  refine ret1 Tryz.results22 (v := .bool false) rfl ?_
  intro w hw
  exact ⟨congrArg (fun b : Bool => Ending.returned (.bool b)) (decide_eq_false fun h => by have q1 := h.1; have q2 := h.2.1; omega).symm, st_mask [false] rfl hw⟩
 refine g_val (v := pp b1 2) rfl rfl rfl rfl rfl (e_fieldPt rfl ua57) ?_
 refine g_val (v := .agg #[Ix (gx), Ix (gy)]) rfl rfl rfl rfl rfl (e_load ua15 rfl (k_pt 0 rfl rfl) rfl) ?_
 refine g_call rfl rfl rfl rfl rfl (cl0 (vs := [.agg #[Ix (gx), Ix (gy)]]) ua119 rfl rfl) ?_
 intro w hw
 obtain ⟨β1, sb, kn, hw1, back⟩ := St.frame_all hw
 refine (pull7_ok β1 w hw1 (gx) (gy)).mono ?_
 rintro e w' ⟨rfl, hw'⟩
 refine ⟨_, rfl, _, back _ _ hw', ?_⟩
 clear hw hw1 hw' back kn sb
 refine g_val (v := .bool (decide (¬ (okV (gx) (gy))))) rfl rfl rfl rfl rfl (e_not_p (p := okV (gx) (gy)) rfl) ?_
 refine lv (v := .bool (decide (¬ (okV (gx) (gy))))) (e_pick_f rfl) ?_
 refine lnf ?_
 refine c_if (¬ (okV (gx) (gy))) rfl (fun hc4 => ?_) (fun hc4 => ?_)
 ·refine csr ?_
  refine l_val (v := .bool false) rfl rfl rfl e_assign ?_
  refine lnf ?_
  refine c_ret ?_
  refine f_then_ret ?_
  refine ret1 Tryz.results22 (v := .bool false) rfl ?_
  intro w hw
  exact ⟨congrArg (fun b : Bool => Ending.returned (.bool b)) (decide_eq_false fun h => by have q1 := h.1; have q2 := h.2.1; exact hc4 h.2.2.1).symm, st_mask [false] rfl hw⟩
 refine csk ?_
 refine cs2 ?_
 have hov := Decidable.not_not.1 hc4
 refine c_region ?_
 refine l_val (v := .int .i64 (0)) rfl rfl rfl e_assign ?_
 refine lnf ?_
 refine c_block ?_
 refine c_mask [true] rfl ?_
 refine c_loop (fun (k : Nat) (f : Fm) (L : List Res) => (f 1 = pp b1 0 ∧ f 3 = Nx (k)) ∧ L = [pt b1 (.cells #[sB va bs (vc), sB rva rs (rvc), Ix (gx), Ix (gy)] 27)] ∧ (k ≤ bs.length ∧ (∀ b ∈ bs.take k, okB b) ∧ ∀ i a b, i + 1 < k → bs[i]? = some a → bs[i + 1]? = some b → a.id < b.id)) (fun (k : Nat) => bs.length - k) 0 ?_ ?_
 ·exact ⟨⟨rfl, rfl⟩, rfl, ⟨by omega, fun y hy => by simp at hy, fun i a b h => by omega⟩⟩
 rintro k f0 L0 ⟨⟨hs1, hs3⟩, hL, ⟨hk, hp1, hp2⟩⟩
 subst L0
 refine rebase (d := 1) hs1 ?_
 refine rebase (d := 3) hs3 ?_
 clear hs1 hs3
 refine cs2 ?_
 refine c_region ?_
 refine lv (v := Nx (k)) e_move ?_
 refine lv (v := pp b1 0) (e_fieldPt rfl ua49) ?_
 refine lv (v := sB va bs (vc)) (e_load1 ua50 rfl (k_pt 0 rfl rfl)) ?_
 refine lv (v := Nx (bs.length)) (e_len (a := va) (n := bs.length) (c := vc) rfl ua40) ?_
 refine lv (e_lss (a := ((k : Nat) : Int)) (b := ((bs.length : Nat) : Int)) rfl rfl) ?_
 refine lnf ?_
 refine c_if (((k : Nat) : Int) < ((bs.length : Nat) : Int)) rfl (fun hc5 => ?_) (fun hc5 => ?_)
 ·refine csk ?_
  refine c_seq ?_
  refine c_block ?_
  refine c_seq ?_
  refine c_quiet (by kernel_rfl) (by kernel_rfl) ?_
  refine q_val (v := pp b1 0) rfl rfl rfl (e_fieldPt rfl ua49) ?_
  refine q_val (v := sB va bs (vc)) rfl rfl rfl (e_load1 ua50 rfl (k_pt 0 rfl rfl)) ?_
  refine q_val (v := Nx (k)) rfl rfl rfl e_move ?_
  obtain ⟨x6, hx7⟩ : ∃ x_, (bs)[k]? = some x_ := ⟨_, List.getElem?_eq_getElem (by omega)⟩
  obtain ⟨ha8, cs9, hc10, rfl⟩ := ve _ _ hx7
  refine q_val (v := .pointer (some ((ba va).add (k * 9)))) rfl rfl rfl (e_indexAddr (k := k) (len := bs.length) (cap := vc) (a := va) rfl rfl ua43 (by omega) ha8) ?_
  refine q_val (v := .agg (bC x6)) rfl rfl rfl (e_load ua22 rfl (kB hc10) rfl) ?_
  refine q_call (v := .bool (decide (okB x6))) rfl rfl rfl (cl0 (vs := [.agg (bC x6)]) ua115 rfl rfl) (fun w hw => ?_) ?_
  ·obtain ⟨β1, sb, kn, hw1, back⟩ := St.frame_all hw
   exact (valid5_ok β1 w hw1 x6).mono (fun e w' ⟨he, hw'⟩ => ⟨he, st_mask [true] rfl (back _ _ hw')⟩)
  refine q_val (v := .bool (decide (¬ (okB x6)))) rfl rfl rfl (e_not_p (p := okB x6) rfl) ?_
  refine q_val (v := .bool (decide (¬ (okB x6)))) rfl rfl rfl e_move ?_
  refine q_split (s := 36) (p := ¬ (okB x6)) rfl (fun hg12 => ?_) (fun hg12 => ?_)
  ·refine q_skip rfl rfl rfl rfl rfl rfl ?_
   refine q_skip rfl rfl rfl rfl rfl rfl ?_
   refine q_skip rfl rfl rfl rfl rfl rfl ?_
   refine q_skip_u rfl rfl rfl rfl rfl ?_
   refine q_skip_u rfl rfl rfl rfl rfl ?_
   refine q_skip_u rfl rfl rfl rfl rfl ?_
   refine q_skip_u rfl rfl rfl rfl rfl ?_
   refine q_skip_u rfl rfl rfl rfl rfl ?_
   refine q_skip_u rfl rfl rfl rfl rfl ?_
   refine q_skip_u rfl rfl rfl rfl rfl ?_
   refine q_skip_u rfl rfl rfl rfl rfl ?_
   refine q_skip_u rfl rfl rfl rfl rfl ?_
   refine q_skip_u rfl rfl rfl rfl rfl ?_
   refine q_skip_u rfl rfl rfl rfl rfl ?_
   refine q_skip_u rfl rfl rfl rfl rfl ?_
   refine q_skip_u rfl rfl rfl rfl rfl ?_
   refine q_skip_u rfl rfl rfl rfl rfl ?_
   refine q_skip rfl rfl rfl rfl rfl rfl ?_
   refine q_val (v := .bool true) rfl rfl rfl (e_pick_t rfl) ?_
   refine q_nil ?_
   refine f_then ?_
   refine c_yes rfl ?_
   refine csr ?_
   refine l_val (v := .bool false) rfl rfl rfl e_assign ?_
   refine lnf ?_
   refine c_ret ?_
   refine f_block_ret ?_
   refine f_then_ret ?_
   refine f_then_ret ?_
   refine f_block_ret ?_
   refine f_then_ret ?_
   refine ret1 Tryz.results22 (v := .bool false) rfl ?_
   intro w hw
   exact ⟨congrArg (fun b : Bool => Ending.returned (.bool b)) (decide_eq_false fun h => hg12 (h.2.2.2.1 _ (List.mem_of_getElem? hx7))).symm, st_mask [false] rfl hw⟩
  have hok := Decidable.not_not.1 hg12
  refine qg_val (v := Nx (k)) rfl rfl rfl rfl rfl e_move ?_
  refine qg_val rfl rfl rfl rfl rfl (e_gtr (a := ((k : Nat) : Int)) (b := (0 : Int)) rfl rfl) ?_
  refine qg_val (v := .bool (decide ((0 : Int) < ((k : Nat) : Int)))) rfl rfl rfl rfl rfl e_move ?_
  refine q_split (s := 39) (p := (0 : Int) < ((k : Nat) : Int)) rfl (fun hg13 => ?_) (fun hg13 => ?_)
  ·have hk0 : 0 < k := by omega
   refine qg_val (v := pp b1 0) rfl rfl rfl rfl rfl (e_fieldPt rfl ua49) ?_
   refine qg_val (v := sB va bs (vc)) rfl rfl rfl rfl rfl (e_load1 ua50 rfl (k_pt 0 rfl rfl)) ?_
   refine qg_val (v := Nx (k)) rfl rfl rfl rfl rfl e_move ?_
   refine qg_val (v := .pointer (some ((ba va).add (k * 9)))) rfl rfl rfl rfl rfl (e_indexAddr (k := k) (len := bs.length) (cap := vc) (a := va) rfl rfl ua43 (by omega) ha8) ?_
   refine qg_val (v := .pointer (some (((ba va).add (k * 9) : Addr).add 0))) rfl rfl rfl rfl rfl (e_fieldAddr (a := (ba va).add (k * 9)) rfl ua3) ?_
   refine qg_val (v := Ix (x6.id)) rfl rfl rfl rfl rfl (e_load1 ua2 rfl (Knows.imp (kB hc10) (fun _ h => Cs.sub (vs := [Ix (x6.id)]) 0 h rfl))) ?_
   refine qg_val (v := pp b1 0) rfl rfl rfl rfl rfl (e_fieldPt rfl ua49) ?_
   refine qg_val (v := sB va bs (vc)) rfl rfl rfl rfl rfl (e_load1 ua50 rfl (k_pt 0 rfl rfl)) ?_
   refine qg_val (v := Nx (k)) rfl rfl rfl rfl rfl e_move ?_
   refine qg_val (v := Nx (k - 1)) rfl rfl rfl rfl rfl (ev_eq (congrArg (Value.int .i64) (by omega)) (e_sub (a := ((k : Nat) : Int)) (b := (1 : Int)) rfl rfl (i64w (by omega)))) ?_
   obtain ⟨x14, hx15⟩ : ∃ x_, (bs)[k - 1]? = some x_ := ⟨_, List.getElem?_eq_getElem (by omega)⟩
   obtain ⟨ha16, cs17, hc18, rfl⟩ := ve _ _ hx15
   refine qg_val (v := .pointer (some ((ba va).add ((k - 1) * 9)))) rfl rfl rfl rfl rfl (e_indexAddr (k := k - 1) (len := bs.length) (cap := vc) (a := va) rfl rfl ua43 (by omega) ha16) ?_
   refine qg_val (v := .pointer (some (((ba va).add ((k - 1) * 9) : Addr).add 0))) rfl rfl rfl rfl rfl (e_fieldAddr (a := (ba va).add ((k - 1) * 9)) rfl ua3) ?_
   refine qg_val (v := Ix (x14.id)) rfl rfl rfl rfl rfl (e_load1 ua2 rfl (Knows.imp (kB hc18) (fun _ h => Cs.sub (vs := [Ix (x14.id)]) 0 h rfl))) ?_
   refine qg_val rfl rfl rfl rfl rfl (e_leq (a := (x6.id)) (b := (x14.id)) rfl rfl) ?_
   refine qg_val (v := .bool (decide ((x6.id) ≤ (x14.id)))) rfl rfl rfl rfl rfl (e_pick_t rfl) ?_
   refine q_val (v := .bool (decide ((x6.id) ≤ (x14.id)))) rfl rfl rfl (e_pick_f rfl) ?_
   refine q_nil ?_
   refine f_then ?_
   refine c_if ((x6.id) ≤ (x14.id)) rfl (fun hc20 => ?_) (fun hc20 => ?_)
   ·refine csr ?_
    refine l_val (v := .bool false) rfl rfl rfl e_assign ?_
    refine lnf ?_
    refine c_ret ?_
    refine f_block_ret ?_
    refine f_then_ret ?_
    refine f_then_ret ?_
    refine f_block_ret ?_
    refine f_then_ret ?_
    refine ret1 Tryz.results22 (v := .bool false) rfl ?_
    intro w hw
    exact ⟨congrArg (fun b : Bool => Ending.returned (.bool b)) (decide_eq_false fun h => absurd (h.2.2.2.2.1 (k - 1) x14 x6 hx15 (by rw [show k - 1 + 1 = k by omega]; exact hx7)) (by omega)).symm, st_mask [false] rfl hw⟩
   refine c_skip ?_
   refine f_block ?_
   refine f_then ?_
   refine c_region ?_
   refine lv (v := Nx (k)) e_move ?_
   refine lv (v := Nx (k + 1)) (e_add (a := ((k : Nat) : Int)) (b := (1 : Int)) rfl rfl (i64n (by omega) (by omega))) ?_
   refine lv (v := Nx (k + 1)) e_assign ?_
   refine l_nil ?_
   exact f_cut ⟨k + 1, ⟨⟨rfl, rfl⟩, rfl, ⟨by omega, okS_next hx7 hp1 hok, ord_next hx7 hp2 (fun _ z hz => by rw [hx15] at hz; injection hz with hz; rw [← hz]; omega)⟩⟩, (show bs.length - (k + 1) < bs.length - k from by omega)⟩
  refine q_skip rfl rfl rfl rfl rfl rfl ?_
  refine q_skip rfl rfl rfl rfl rfl rfl ?_
  refine q_skip rfl rfl rfl rfl rfl rfl ?_
  refine q_skip rfl rfl rfl rfl rfl rfl ?_
  refine q_skip rfl rfl rfl rfl rfl rfl ?_
  refine q_skip rfl rfl rfl rfl rfl rfl ?_
  refine q_skip rfl rfl rfl rfl rfl rfl ?_
  refine q_skip rfl rfl rfl rfl rfl rfl ?_
  refine q_skip rfl rfl rfl rfl rfl rfl ?_
  refine q_skip rfl rfl rfl rfl rfl rfl ?_
  refine q_skip rfl rfl rfl rfl rfl rfl ?_
  refine q_skip rfl rfl rfl rfl rfl rfl ?_
  refine q_skip rfl rfl rfl rfl rfl rfl ?_
  refine q_skip rfl rfl rfl rfl rfl rfl ?_
  refine qg_val (v := .bool false) rfl rfl rfl rfl rfl (e_pick_f rfl) ?_
  refine q_val (v := .bool false) rfl rfl rfl (e_pick_f rfl) ?_
  refine q_nil ?_
  refine f_then ?_
  refine c_no rfl ?_
  refine c_skip ?_
  refine f_block ?_
  refine f_then ?_
  refine c_region ?_
  refine lv (v := Nx (k)) e_move ?_
  refine lv (v := Nx (k + 1)) (e_add (a := ((k : Nat) : Int)) (b := (1 : Int)) rfl rfl (i64n (by omega) (by omega))) ?_
  refine lv (v := Nx (k + 1)) e_assign ?_
  refine l_nil ?_
  exact f_cut ⟨k + 1, ⟨⟨rfl, rfl⟩, rfl, ⟨by omega, okS_next hx7 hp1 hok, ord_next hx7 hp2 (fun hk' => absurd hk' (by omega))⟩⟩, (show bs.length - (k + 1) < bs.length - k from by omega)⟩
 refine c_exit ?_
 refine f_then_exit ?_
 refine f_then_exit ?_
 refine f_exit ?_
 refine fts ?_
 refine csr ?_
 refine l_val (v := .int .i64 (0)) rfl rfl rfl e_assign ?_
 refine lnf ?_
 refine c_block ?_
 refine c_mask [true] rfl ?_
 refine c_loop (fun (j : Nat) (f : Fm) (L : List Res) => (f 1 = pp b1 0 ∧ f 4 = Nx (j)) ∧ L = [pt b1 (.cells #[sB va bs (vc), sB rva rs (rvc), Ix (gx), Ix (gy)] 27)] ∧ (j ≤ rs.length ∧ ∀ r ∈ rs.take j, okR bs r)) (fun (j : Nat) => rs.length - j) 0 ?_ ?_
 ·exact ⟨⟨rfl, rfl⟩, rfl, ⟨by omega, fun y hy => by simp at hy⟩⟩
 rintro j f0 L0 ⟨⟨hs1, hs4⟩, hL, ⟨hj, hp3⟩⟩
 subst L0
 refine rebase (d := 1) hs1 ?_
 refine rebase (d := 4) hs4 ?_
 clear hs1 hs4
 refine cs2 ?_
 refine c_region ?_
 refine lv (v := Nx (j)) e_move ?_
 refine lv (v := pp b1 1) (e_fieldPt rfl ua55) ?_
 refine lv (v := sB rva rs (rvc)) (e_load1 ua56 rfl (k_pt 0 rfl rfl)) ?_
 refine lv (v := Nx (rs.length)) (e_len (a := rva) (n := rs.length) (c := rvc) rfl ua45) ?_
 refine lv (e_lss (a := ((j : Nat) : Int)) (b := ((rs.length : Nat) : Int)) rfl rfl) ?_
 refine lnf ?_
 refine c_if (((j : Nat) : Int) < ((rs.length : Nat) : Int)) rfl (fun hc21 => ?_) (fun hc21 => ?_)
 ·refine csk ?_
  refine c_seq ?_
  refine c_block ?_
  refine csr ?_
  refine lv (v := pp b1 1) (e_fieldPt rfl ua55) ?_
  refine lv (v := sB rva rs (rvc)) (e_load1 ua56 rfl (k_pt 0 rfl rfl)) ?_
  refine lv (v := Nx (j)) e_move ?_
  obtain ⟨x22, hx23⟩ : ∃ x_, (rs)[j]? = some x_ := ⟨_, List.getElem?_eq_getElem (by omega)⟩
  obtain ⟨ha24, cs25, hc26, rfl⟩ := rve _ _ hx23
  refine lv (v := .pointer (some ((ba rva).add (j * 3)))) (e_indexAddr (k := j) (len := rs.length) (cap := rvc) (a := rva) rfl rfl ua46 (by omega) ha24) ?_
  refine lv (v := .agg #[Ix (x22.a), Ix (x22.b), Ix (x22.len)]) (e_load ua47 rfl (kB hc26) rfl) ?_
  refine l_mv rfl rfl rfl (m_alloc ua77) ?_
  rintro _ _ ⟨b28, rfl, rfl⟩
  refine lu (m_store 0 ua47 (cs' := #[Ix (x22.a), Ix (x22.b), Ix (x22.len)]) rfl rfl rfl rfl rfl rfl rfl) ?_
  refine lnc ?_
  refine lv (v := pp b28 0) (e_fieldPt rfl ua51) ?_
  refine lv (v := Ix (x22.a)) (e_load1 ua2 rfl (k_pt 0 rfl rfl)) ?_
  refine lv (v := pp b28 1) (e_fieldPt rfl ua53) ?_
  refine lv (v := Ix (x22.b)) (e_load1 ua2 rfl (k_pt 0 rfl rfl)) ?_
  refine lv (e_geq (a := (x22.a)) (b := (x22.b)) rfl rfl) ?_
  refine lv (v := .bool (decide ((x22.b) ≤ (x22.a)))) e_move ?_
  refine l_split (s := 73) (p := (x22.b) ≤ (x22.a)) rfl (fun hg29 => ?_) (fun hg29 => ?_)
  ·refine l_skip rfl rfl rfl rfl rfl rfl ?_
   refine l_skip rfl rfl rfl rfl rfl rfl ?_
   refine l_skip rfl rfl rfl rfl rfl rfl ?_
   refine l_skip rfl rfl rfl rfl rfl rfl ?_
   refine l_skip rfl rfl rfl rfl rfl rfl ?_
   refine l_skip rfl rfl rfl rfl rfl rfl ?_
   refine lv (v := .bool true) (e_pick_t rfl) ?_
   refine lv (v := .bool true) e_move ?_
   refine l_skip rfl rfl rfl rfl rfl rfl ?_
   refine l_skip rfl rfl rfl rfl rfl rfl ?_
   refine l_skip rfl rfl rfl rfl rfl rfl ?_
   refine l_skip rfl rfl rfl rfl rfl rfl ?_
   refine l_skip rfl rfl rfl rfl rfl rfl ?_
   refine l_skip rfl rfl rfl rfl rfl rfl ?_
   refine lv (v := .bool true) (e_pick_t rfl) ?_
   refine lv (v := .bool true) e_move ?_
   refine l_skip rfl rfl rfl rfl rfl rfl ?_
   refine l_skip rfl rfl rfl rfl rfl rfl ?_
   refine l_skip rfl rfl rfl rfl rfl rfl ?_
   refine lv (v := .bool true) (e_pick_t rfl) ?_
   refine lv (v := .bool true) e_move ?_
   refine l_skip rfl rfl rfl rfl rfl rfl ?_
   refine l_skip rfl rfl rfl rfl rfl rfl ?_
   refine l_skip rfl rfl rfl rfl rfl rfl ?_
   refine lv (v := .bool true) (e_pick_t rfl) ?_
   refine lnf ?_
   refine c_yes rfl ?_
   refine csr ?_
   refine l_val (v := .bool false) rfl rfl rfl e_assign ?_
   refine lnf ?_
   refine c_ret ?_
   refine f_block_ret ?_
   refine f_then_ret ?_
   refine f_then_ret ?_
   refine f_block_ret ?_
   refine f_then_ret ?_
   refine ret1 Tryz.results22 (v := .bool false) rfl ?_
   intro w hw
   exact ⟨congrArg (fun b : Bool => Ending.returned (.bool b)) (decide_eq_false fun h => by obtain ⟨q1, q2, q3, q4, q5⟩ := h.2.2.2.2.2 _ (List.mem_of_getElem? hx23); omega).symm, st_mask [false, false] rfl hw⟩
  refine g_val (v := pp b1 0) rfl rfl rfl rfl rfl (e_fieldPt rfl ua49) ?_
  refine g_val (v := sB va bs (vc)) rfl rfl rfl rfl rfl (e_load1 ua50 rfl (k_pt 1 rfl rfl)) ?_
  refine g_val (v := pp b28 0) rfl rfl rfl rfl rfl (e_fieldPt rfl ua51) ?_
  refine g_val (v := Ix (x22.a)) rfl rfl rfl rfl rfl (e_load1 ua2 rfl (k_pt 0 rfl rfl)) ?_
  refine g_call rfl rfl rfl rfl rfl (cl0 (vs := [sB va bs (vc), Ix (x22.a)]) ua122 rfl rfl) ?_
  intro w hw
  obtain ⟨β1, sb, kn, hw1, back⟩ := St.frame_all hw
  refine (find7_ok β1 w hw1 _ bs (Sl.mono _ _ _ _ _ sb (⟨⟨_, _, rfl, vl, vm, ve⟩⟩ : Sl KBR _ _ bs)) (x22.a)).mono ?_
  rintro e w' ⟨rfl, hw'⟩
  refine ⟨_, rfl, _, back _ _ hw', ?_⟩
  clear hw hw1 hw' back kn sb
  refine g_val rfl rfl rfl rfl rfl (e_lss (a := (idxI (fun y : KB => decide (y.id = (x22.a))) bs)) (b := (0 : Int)) rfl rfl) ?_
  refine lv (v := .bool (decide ((idxI (fun y : KB => decide (y.id = (x22.a))) bs) < (0 : Int)))) (e_pick_f rfl) ?_
  refine lv (v := .bool (decide ((idxI (fun y : KB => decide (y.id = (x22.a))) bs) < (0 : Int)))) e_move ?_
  refine l_split (s := 81) (p := (idxI (fun y : KB => decide (y.id = (x22.a))) bs) < (0 : Int)) rfl (fun hg30 => ?_) (fun hg30 => ?_)
  ·refine l_skip rfl rfl rfl rfl rfl rfl ?_
   refine l_skip rfl rfl rfl rfl rfl rfl ?_
   refine l_skip rfl rfl rfl rfl rfl rfl ?_
   refine l_skip rfl rfl rfl rfl rfl rfl ?_
   refine l_skip rfl rfl rfl rfl rfl rfl ?_
   refine l_skip rfl rfl rfl rfl rfl rfl ?_
   refine lv (v := .bool true) (e_pick_t rfl) ?_
   refine lv (v := .bool true) e_move ?_
   refine l_skip rfl rfl rfl rfl rfl rfl ?_
   refine l_skip rfl rfl rfl rfl rfl rfl ?_
   refine l_skip rfl rfl rfl rfl rfl rfl ?_
   refine lv (v := .bool true) (e_pick_t rfl) ?_
   refine lv (v := .bool true) e_move ?_
   refine l_skip rfl rfl rfl rfl rfl rfl ?_
   refine l_skip rfl rfl rfl rfl rfl rfl ?_
   refine l_skip rfl rfl rfl rfl rfl rfl ?_
   refine lv (v := .bool true) (e_pick_t rfl) ?_
   refine lnf ?_
   refine c_yes rfl ?_
   refine csr ?_
   refine l_val (v := .bool false) rfl rfl rfl e_assign ?_
   refine lnf ?_
   refine c_ret ?_
   refine f_block_ret ?_
   refine f_then_ret ?_
   refine f_then_ret ?_
   refine f_block_ret ?_
   refine f_then_ret ?_
   refine ret1 Tryz.results22 (v := .bool false) rfl ?_
   intro w hw
   exact ⟨congrArg (fun b : Bool => Ending.returned (.bool b)) (decide_eq_false fun h => by obtain ⟨q1, q2, q3, q4, q5⟩ := h.2.2.2.2.2 _ (List.mem_of_getElem? hx23); rw [idx_neg.1 hg30] at q1; cases q1).symm, st_mask [false, false] rfl hw⟩
  refine g_val (v := pp b1 0) rfl rfl rfl rfl rfl (e_fieldPt rfl ua49) ?_
  refine g_val (v := sB va bs (vc)) rfl rfl rfl rfl rfl (e_load1 ua50 rfl (k_pt 1 rfl rfl)) ?_
  refine g_val (v := pp b28 1) rfl rfl rfl rfl rfl (e_fieldPt rfl ua53) ?_
  refine g_val (v := Ix (x22.b)) rfl rfl rfl rfl rfl (e_load1 ua2 rfl (k_pt 0 rfl rfl)) ?_
  refine g_call rfl rfl rfl rfl rfl (cl0 (vs := [sB va bs (vc), Ix (x22.b)]) ua122 rfl rfl) ?_
  intro w hw
  obtain ⟨β1, sb, kn, hw1, back⟩ := St.frame_all hw
  refine (find7_ok β1 w hw1 _ bs (Sl.mono _ _ _ _ _ sb (⟨⟨_, _, rfl, vl, vm, ve⟩⟩ : Sl KBR _ _ bs)) (x22.b)).mono ?_
  rintro e w' ⟨rfl, hw'⟩
  refine ⟨_, rfl, _, back _ _ hw', ?_⟩
  clear hw hw1 hw' back kn sb
  refine g_val rfl rfl rfl rfl rfl (e_lss (a := (idxI (fun y : KB => decide (y.id = (x22.b))) bs)) (b := (0 : Int)) rfl rfl) ?_
  refine lv (v := .bool (decide ((idxI (fun y : KB => decide (y.id = (x22.b))) bs) < (0 : Int)))) (e_pick_f rfl) ?_
  refine lv (v := .bool (decide ((idxI (fun y : KB => decide (y.id = (x22.b))) bs) < (0 : Int)))) e_move ?_
  refine l_split (s := 89) (p := (idxI (fun y : KB => decide (y.id = (x22.b))) bs) < (0 : Int)) rfl (fun hg31 => ?_) (fun hg31 => ?_)
  ·refine l_skip rfl rfl rfl rfl rfl rfl ?_
   refine l_skip rfl rfl rfl rfl rfl rfl ?_
   refine l_skip rfl rfl rfl rfl rfl rfl ?_
   refine lv (v := .bool true) (e_pick_t rfl) ?_
   refine lv (v := .bool true) e_move ?_
   refine l_skip rfl rfl rfl rfl rfl rfl ?_
   refine l_skip rfl rfl rfl rfl rfl rfl ?_
   refine l_skip rfl rfl rfl rfl rfl rfl ?_
   refine lv (v := .bool true) (e_pick_t rfl) ?_
   refine lnf ?_
   refine c_yes rfl ?_
   refine csr ?_
   refine l_val (v := .bool false) rfl rfl rfl e_assign ?_
   refine lnf ?_
   refine c_ret ?_
   refine f_block_ret ?_
   refine f_then_ret ?_
   refine f_then_ret ?_
   refine f_block_ret ?_
   refine f_then_ret ?_
   refine ret1 Tryz.results22 (v := .bool false) rfl ?_
   intro w hw
   exact ⟨congrArg (fun b : Bool => Ending.returned (.bool b)) (decide_eq_false fun h => by obtain ⟨q1, q2, q3, q4, q5⟩ := h.2.2.2.2.2 _ (List.mem_of_getElem? hx23); rw [idx_neg.1 hg31] at q2; cases q2).symm, st_mask [false, false] rfl hw⟩
  refine g_val (v := pp b28 2) rfl rfl rfl rfl rfl (e_fieldPt rfl ua54) ?_
  refine g_val (v := Ix (x22.len)) rfl rfl rfl rfl rfl (e_load1 ua2 rfl (k_pt 0 rfl rfl)) ?_
  refine g_val rfl rfl rfl rfl rfl (e_lss (a := (x22.len)) (b := (0 : Int)) rfl rfl) ?_
  refine lv (v := .bool (decide ((x22.len) < (0 : Int)))) (e_pick_f rfl) ?_
  refine lv (v := .bool (decide ((x22.len) < (0 : Int)))) e_move ?_
  refine l_split (s := 94) (p := (x22.len) < (0 : Int)) rfl (fun hg32 => ?_) (fun hg32 => ?_)
  ·refine l_skip rfl rfl rfl rfl rfl rfl ?_
   refine l_skip rfl rfl rfl rfl rfl rfl ?_
   refine l_skip rfl rfl rfl rfl rfl rfl ?_
   refine lv (v := .bool true) (e_pick_t rfl) ?_
   refine lnf ?_
   refine c_yes rfl ?_
   refine csr ?_
   refine l_val (v := .bool false) rfl rfl rfl e_assign ?_
   refine lnf ?_
   refine c_ret ?_
   refine f_block_ret ?_
   refine f_then_ret ?_
   refine f_then_ret ?_
   refine f_block_ret ?_
   refine f_then_ret ?_
   refine ret1 Tryz.results22 (v := .bool false) rfl ?_
   intro w hw
   exact ⟨congrArg (fun b : Bool => Ending.returned (.bool b)) (decide_eq_false fun h => by obtain ⟨q1, q2, q3, q4, q5⟩ := h.2.2.2.2.2 _ (List.mem_of_getElem? hx23); omega).symm, st_mask [false, false] rfl hw⟩
  refine g_val (v := pp b28 2) rfl rfl rfl rfl rfl (e_fieldPt rfl ua54) ?_
  refine g_val (v := Ix (x22.len)) rfl rfl rfl rfl rfl (e_load1 ua2 rfl (k_pt 0 rfl rfl)) ?_
  refine g_val rfl rfl rfl rfl rfl (e_gtr (a := (x22.len)) (b := (2097152 : Int)) rfl rfl) ?_
  refine lv (v := .bool (decide ((2097152 : Int) < (x22.len)))) (e_pick_f rfl) ?_
  refine lnf ?_
  refine c_if ((2097152 : Int) < (x22.len)) rfl (fun hc33 => ?_) (fun hc33 => ?_)
  ·refine csr ?_
   refine l_val (v := .bool false) rfl rfl rfl e_assign ?_
   refine lnf ?_
   refine c_ret ?_
   refine f_block_ret ?_
   refine f_then_ret ?_
   refine f_then_ret ?_
   refine f_block_ret ?_
   refine f_then_ret ?_
   refine ret1 Tryz.results22 (v := .bool false) rfl ?_
   intro w hw
   exact ⟨congrArg (fun b : Bool => Ending.returned (.bool b)) (decide_eq_false fun h => by obtain ⟨q1, q2, q3, q4, q5⟩ := h.2.2.2.2.2 _ (List.mem_of_getElem? hx23); omega).symm, st_mask [false, false] rfl hw⟩
  refine c_skip ?_
  refine f_block ?_
  refine f_then ?_
  refine c_region ?_
  refine lv (v := Nx (j)) e_move ?_
  refine lv (v := Nx (j + 1)) (e_add (a := ((j : Nat) : Int)) (b := (1 : Int)) rfl rfl (i64n (by omega) (by omega))) ?_
  refine lv (v := Nx (j + 1)) e_assign ?_
  refine l_nil ?_
  refine f_mask (L' := [pt b1 (.cells #[sB va bs (vc), sB rva rs (rvc), Ix (gx), Ix (gy)] 27)]) [false, true] rfl ?_
  exact f_cut ⟨j + 1, ⟨⟨rfl, rfl⟩, rfl, ⟨by omega, al_next hx23 hp3 (show okR bs x22 from ⟨idx_pos hg30, idx_pos hg31, by omega, by omega, by omega⟩)⟩⟩, (show rs.length - (j + 1) < rs.length - j from by omega)⟩
 refine c_exit ?_
 refine f_then_exit ?_
 refine f_then_exit ?_
 refine f_exit ?_
 refine ftc ?_
 refine lv (v := .bool true) e_assign ?_
 refine lnf ?_
 refine c_ret ?_
 refine ret1 Tryz.results22 (v := .bool true) rfl ?_
 intro w hw
 exact ⟨congrArg (fun b : Bool => Ending.returned (.bool b)) (decide_eq_true (show okS bs rs gx gy from ⟨by omega, by omega, hov, ok_all (by omega) hp1, ord_all (by omega) hp2, al_all (by omega) hp3⟩)).symm, st_mask [false] rfl hw⟩
end Go.Proofs
namespace Go.Stp
def markN (a i : Int) : Int := 1000003 * (a + 7) + i
def markB (a i : Int) : KB := ⟨markN a i, 0, 0, 0, 0, 0, 0, false, false⟩
def markR (a i : Int) : KR := ⟨0, 0, markN a i⟩
def lentL {α : Type} (m : Int → α) (xs : List α) : List α := xs ++ (List.range 12).map fun i => m (i : Nat)
theorem lentL_len {α : Type} (m : Int → α) (xs : List α) : (lentL m xs).length = xs.length + 12 := by simp [lentL]
theorem lentL_lo {α : Type} {m : Int → α} {xs : List α} {k : Nat} {a b : α} (h1 : (lentL m xs)[k]? = some a) (h2 : xs[k]? = some b) : a = b := by
 have hk := (List.getElem?_eq_some_iff.1 h2).1
 unfold lentL at h1; rw [List.getElem?_append_left hk, h2] at h1; injection h1 with h1; exact h1.symm
theorem lentL_hi {α : Type} {m : Int → α} {xs : List α} {k : Nat} {a : α} (h1 : (lentL m xs)[k]? = some a) (hk : xs.length ≤ k) : a = m ((k - xs.length : Nat) : Int) := by
 have hl := (List.getElem?_eq_some_iff.1 h1).1
 rw [lentL_len] at hl
 unfold lentL at h1
 rw [List.getElem?_append_right hk, List.getElem?_map, List.getElem?_range (by omega)] at h1
 simp at h1; rw [← h1, Int.ofNat_sub hk]
theorem lentL_next {α : Type} (m : Int → α) (xs : List α) (k : Nat) : (xs ++ (List.range k).map fun i => m (i : Nat)) ++ [m (k : Nat)] = xs ++ (List.range (k + 1)).map fun i => m (i : Nat) := by
 rw [List.range_succ, List.map_append, List.append_assoc]; rfl
end Go.Stp
namespace Go.Sl
open Go.Stp
theorem sl_pre {α : Type} {R : Rp α} {h : PHeap} {p : Option Addr} {n c : Nat} {xs ys : List α} (hs : Sl R h (.slice p n c) (xs ++ ys)) : Sl R h (sB p xs c) xs := by
 obtain ⟨e, h1, h2, h3⟩ := hs.parts
 subst e
 refine ⟨_, _, rfl, by rw [List.length_append] at h1; omega, h2, fun j x hj => h3 j x ?_⟩
 rw [List.getElem?_append_left (List.getElem?_eq_some_iff.1 hj).1]; exact hj
section
variable {β : Base} {L : List Res} {α : Type} {F : Fl α}
theorem k_flPre {T c m : Nat} {p : Option Addr} {xs ys : List α} (i : Nat) (hi : L[i]? = some (rowF F T p c (xs ++ ys))) (hm : m = xs.length) : Knows β L (fun h => Sl F.R h (.slice p m c) xs) := by
 subst hm; exact Knows.imp (k_fl i hi) fun _ h => sl_pre h
end
end Go.Sl
namespace Go.Sl
section
variable {P : Program} {β : Base} {f : Fm} {L : List Res} {d : Option Tmp} {ty : TypeId} {ps : String} {af : Array Edge} {g : Option (Nat × Bool)}
theorem e_cap {x : Operand} {a : Option Addr} {n c : Nat} {t e : TypeId} (hx : ev f x = .slice a n c) (ht : P.underlying t = some (.slice e)) : EV P β L f ⟨d, .call ⟨.builtin .cap, #[x], #[t]⟩, ty, ps, af, g⟩ (.int .i64 (c : Int)) := fun w _ => by
 simp [execOp, resolve, invoke, builtin, hx, Builtin.cap_, goInt, run_underlying ht]
end
end Go.Sl
namespace Go.Proofs
open Go Go.Sl Go.Stp
theorem ua131 : cfB Tryz.prog 50 = true := by kernel_rfl
theorem ua132 : cfB Tryz.prog 78 = true := by kernel_rfl
theorem ua133 : lay Tryz.prog 10000 33 = some [.int .i64, .int .i64, .int .i64, .int .i64, .int .i64, .int .i64, .int .i64, .bool, .bool] := by kernel_rfl
theorem ua134 : isAggT Tryz.prog 33 = true := by kernel_rfl
theorem ua135 : Tryz.prog.eqGuardType Tryz.prog.depth 33 = false := by kernel_rfl
theorem ua136 : cfB Tryz.prog 79 = true := by kernel_rfl
theorem ua137 : lay Tryz.prog 10000 42 = some [.int .i64, .int .i64, .int .i64] := by kernel_rfl
theorem ua138 : isAggT Tryz.prog 42 = true := by kernel_rfl
theorem ua139 : Tryz.prog.eqGuardType Tryz.prog.depth 42 = false := by kernel_rfl
theorem mark_ok (β : Base) (w : World) (hw : St β [] w) (a i : Int) (ha : -1048576 ≤ a ∧ a ≤ 1048576) (hi : -1048576 ≤ i ∧ i ≤ 1048576) : Calls Tryz.prog 50 #[Ix a, Ix i] w fun r w' => r = .returned (Ix (markN a i)) ∧ St β [] w' := by
 refine enter (n := 10) Tryz.func50 rfl Tryz.ntmps50 rfl ?_ hw
 refine csr ?_
 refine l_val (v := .int .i64 (0)) rfl rfl rfl e_assign ?_
 refine lnc ?_
 refine lv (v := Ix (a)) e_move ?_
 refine lv (v := Ix ((a) + (7 : Int))) (e_add (a := (a)) (b := (7 : Int)) rfl rfl (i64w (by omega))) ?_
 refine lv (v := Ix ((1000003 : Int) * ((a) + (7 : Int)))) (e_mul (a := (1000003 : Int)) (b := ((a) + (7 : Int))) rfl rfl (i64w (by omega))) ?_
 refine lv (v := Ix (i)) e_move ?_
 refine lv (v := Ix (((1000003 : Int) * ((a) + (7 : Int))) + (i))) (e_add (a := ((1000003 : Int) * ((a) + (7 : Int)))) (b := (i)) rfl rfl (i64w (by omega))) ?_
 refine lv (v := Ix (((1000003 : Int) * ((a) + (7 : Int))) + (i))) e_assign ?_
 refine lnf ?_
 refine c_ret ?_
 refine ret1 Tryz.results50 (v := Ix (((1000003 : Int) * ((a) + (7 : Int))) + (i))) rfl ?_
 intro w hw
 exact ⟨rfl, st_mask [] rfl hw⟩
theorem markB_ok (β : Base) (w : World) (hw : St β [] w) (a i : Int) (ha : -1048576 ≤ a ∧ a ≤ 1048576) (hi : -1048576 ≤ i ∧ i ≤ 1048576) : Calls Tryz.prog 78 #[Ix a, Ix i] w fun r w' => r = .returned (.agg (bC (markB a i))) ∧ St β [] w' := by
 refine enter (n := 9) Tryz.func78 rfl Tryz.ntmps78 rfl ?_ hw
 refine csr ?_
 refine l_mv rfl rfl rfl (m_alloc ua58) ?_
 rintro _ _ ⟨b1, rfl, rfl⟩
 refine lnc ?_
 refine lv (v := Ix (a)) e_move ?_
 refine lv (v := Ix (i)) e_move ?_
 refine lcf (cl0 (vs := [Ix (a), Ix (i)]) ua131 rfl rfl) rfl fun w β1 sb kn hw1 back => (mark_ok β1 w hw1 (a) (i) (by omega) (by omega)).mono ?_
 rintro e w' ⟨rfl, hw'⟩
 refine ⟨_, rfl, _, back _ _ hw', ?_⟩
 clear hw1 hw' back kn sb
 refine lv (v := .agg #[Ix (markN (a) (i)), .int .i64 (0), .int .i64 (0), .int .i64 (0), .int .i64 (0), .int .i64 (0), .int .i64 (0), .bool false, .bool false]) (e_build ua58 ua102 (vs := [(0, Ix (markN (a) (i)))]) (cells := #[Ix (markN (a) (i)), .int .i64 (0), .int .i64 (0), .int .i64 (0), .int .i64 (0), .int .i64 (0), .int .i64 (0), .bool false, .bool false]) rfl (by kernel_rfl)) ?_
 refine lu (m_store 0 ua22 (cs' := #[Ix (markN (a) (i)), .int .i64 (0), .int .i64 (0), .int .i64 (0), .int .i64 (0), .int .i64 (0), .int .i64 (0), .bool false, .bool false]) rfl rfl rfl rfl rfl rfl rfl) ?_
 refine lnf ?_
 refine c_ret ?_
 refine retG (m := [.agg #[Ix (markN (a) (i)), .int .i64 (0), .int .i64 (0), .int .i64 (0), .int .i64 (0), .int .i64 (0), .int .i64 (0), .bool false, .bool false]]) Tryz.results78 ⟨rd_cell ua22 rfl (k_pt 0 rfl rfl) rfl, trivial⟩ rfl ?_
 intro w hw
 exact ⟨rfl, st_mask [false] rfl hw⟩
theorem markR_ok (β : Base) (w : World) (hw : St β [] w) (a i : Int) (ha : -1048576 ≤ a ∧ a ≤ 1048576) (hi : -1048576 ≤ i ∧ i ≤ 1048576) : Calls Tryz.prog 79 #[Ix a, Ix i] w fun r w' => r = .returned (.agg #[Ix ((markR a i).a), Ix ((markR a i).b), Ix ((markR a i).len)]) ∧ St β [] w' := by
 refine enter (n := 9) Tryz.func79 rfl Tryz.ntmps79 rfl ?_ hw
 refine csr ?_
 refine l_mv rfl rfl rfl (m_alloc ua77) ?_
 rintro _ _ ⟨b1, rfl, rfl⟩
 refine lnc ?_
 refine lv (v := Ix (a)) e_move ?_
 refine lv (v := Ix (i)) e_move ?_
 refine lcf (cl0 (vs := [Ix (a), Ix (i)]) ua131 rfl rfl) rfl fun w β1 sb kn hw1 back => (mark_ok β1 w hw1 (a) (i) (by omega) (by omega)).mono ?_
 rintro e w' ⟨rfl, hw'⟩
 refine ⟨_, rfl, _, back _ _ hw', ?_⟩
 clear hw1 hw' back kn sb
 refine lv (v := .agg #[.int .i64 (0), .int .i64 (0), Ix (markN (a) (i))]) (e_build ua77 ua110 (vs := [(2, Ix (markN (a) (i)))]) (cells := #[.int .i64 (0), .int .i64 (0), Ix (markN (a) (i))]) rfl rfl) ?_
 refine lu (m_store 0 ua47 (cs' := #[.int .i64 (0), .int .i64 (0), Ix (markN (a) (i))]) rfl rfl rfl rfl rfl rfl rfl) ?_
 refine lnf ?_
 refine c_ret ?_
 refine retG (m := [.agg #[.int .i64 (0), .int .i64 (0), Ix (markN (a) (i))]]) Tryz.results79 ⟨rd_cell ua47 rfl (k_pt 0 rfl rfl) rfl, trivial⟩ rfl ?_
 intro w hw
 exact ⟨rfl, st_mask [false] rfl hw⟩
set_option maxHeartbeats 4000000 in
theorem lentB_ok (β : Base) (w : World) (hw : St β [] w) (v : Value) (xs : List KB) (hs : Sl KBR β.heap v xs) (hn : xs.length ≤ 1048576) : Calls Tryz.prog 48 #[v] w fun r w' => ∃ p c, r = .returned (sB p xs c) ∧ St β [rowF BodyF 33 p c (lentL (markB 1) xs)] w' := by
 obtain ⟨va, vc, rfl, vl, vm, ve⟩ := hs.get
 refine enter (n := 25) Tryz.func48 rfl Tryz.ntmps48 rfl ?_ hw
 refine csr ?_
 refine l_val (v := .slice none 0 0) rfl rfl rfl e_assign ?_
 refine lnc ?_
 refine lv (v := sB va xs (vc)) e_move ?_
 refine lv (v := Nx (xs.length)) (e_len (a := va) (n := xs.length) (c := vc) rfl ua40) ?_
 refine lv (v := Nx (xs.length + 12)) (e_add (a := ((xs.length : Nat) : Int)) (b := (12 : Int)) rfl rfl (i64n (by omega) (by omega))) ?_
 refine l_mv rfl rfl rfl (m_make0 (c := xs.length + 12) ua43 ua83 ua58 rfl rfl (by omega) (by unfold maxLen; omega) (by omega)) ?_
 rintro _ _ ⟨b1, rfl, rfl⟩
 refine l_re (L' := [rowF BodyF 33 (some ⟨b1, 0, none⟩) (xs.length + 12) []]) (by rfl) ?_
 refine lv (v := .slice (some ⟨b1, 0, none⟩) (0) (xs.length + 12)) e_assign ?_
 refine lnc ?_
 refine lv (v := .slice (some ⟨b1, 0, none⟩) (0) (xs.length + 12)) e_move ?_
 refine lv (v := sB va xs (vc)) e_move ?_
 refine l_mv rfl rfl rfl (m_appendFlN (F := BodyF) 0 ua43 ua83 (p := (some ⟨b1, 0, none⟩)) (m := 0) (xs := []) (ys := xs) (ao := va) (k := xs.length) (c := vc) rfl rfl rfl rfl rfl (Knows.of_base (Elems.mono _ _ _) ve) (by first | omega | simp only [List.length_nil, List.length_cons, List.length_append, List.length_set]; omega) (by first | omega | simp only [List.length_nil, List.length_cons, List.length_append, List.length_set]; omega)) ?_
 rintro _ _ ⟨rp2, rc3, rfl, rfl⟩
 refine lv (v := sB rp2 xs rc3) e_assign ?_
 refine lnf ?_
 refine cs2 ?_
 refine c_region ?_
 refine l_val (v := .int .i64 (0)) rfl rfl rfl e_assign ?_
 refine lnf ?_
 refine c_block ?_
 refine c_loop (fun (x_ : Nat × List KB × Option Addr × Nat) (f : Fm) (L : List Res) => match x_ with | (k, ys, p, c) => (f 0 = sB va xs (vc) ∧ f 3 = sB p ys c ∧ f 4 = Nx (k)) ∧ L = [rowF BodyF 33 p c ys] ∧ (k ≤ 12 ∧ ys = (xs ++ (List.range k).map fun i => markB 1 (i : Nat)))) (fun (x_ : Nat × List KB × Option Addr × Nat) => match x_ with | (k, ys, p, c) => 12 - k) (0, xs, rp2, rc3) ?_ ?_
 ·exact ⟨⟨rfl, rfl, rfl⟩, rfl, ⟨by omega, by simp⟩⟩
 rintro ⟨k, ys, p, c⟩ f0 L0 ⟨⟨hs0, hs3, hs4⟩, hL, ⟨hk, hys⟩⟩
 subst L0
 refine rebase (d := 0) hs0 ?_
 refine rebase (d := 3) hs3 ?_
 refine rebase (d := 4) hs4 ?_
 clear hs0 hs3 hs4
 have hyl : ys.length = xs.length + k := by rw [hys]; simp
 refine cs2 ?_
 refine c_region ?_
 refine lv (v := Nx (k)) e_move ?_
 refine lv (e_lss (a := ((k : Nat) : Int)) (b := (12 : Int)) rfl rfl) ?_
 refine lnf ?_
 refine c_if (((k : Nat) : Int) < (12 : Int)) rfl (fun hc4 => ?_) (fun hc4 => ?_)
 ·refine csk ?_
  refine c_seq ?_
  refine c_block ?_
  refine c_region ?_
  refine lv (v := sB p ys c) e_move ?_
  refine lv (v := Nx (k)) e_move ?_
  refine lcf (cl0 (vs := [.int .i64 (1), Nx (k)]) ua132 rfl rfl) rfl fun w β1 sb kn hw1 back => (markB_ok β1 w hw1 (1 : Int) ((k : Nat) : Int) (by omega) (by omega)).mono ?_
  rintro e w' ⟨rfl, hw'⟩
  refine ⟨_, rfl, _, back _ _ hw', ?_⟩
  clear hw1 hw' back kn sb
  refine l_mv rfl rfl rfl (m_slices ua43 ua58 (cells := (bC (markB 1 ((k : Nat) : Int)))) rfl rfl rfl (by kernel_rfl)) ?_
  rintro _ _ ⟨b5, rfl, rfl⟩
  refine l_mv rfl rfl rfl (m_appendFlN (F := BodyF) 1 ua43 ua83 (p := p) (m := ys.length) (xs := ys) (ys := [(markB 1 ((k : Nat) : Int))]) (ao := (some ⟨b5, 0, none⟩)) (k := 1) (c := 1) rfl rfl rfl rfl rfl (k_ptFl (z := (markB 1 ((k : Nat) : Int))) 0 rfl rfl) (by first | omega | simp only [List.length_nil, List.length_cons, List.length_append, List.length_set]; omega) (by first | omega | simp only [List.length_nil, List.length_cons, List.length_append, List.length_set]; omega)) ?_
  rintro _ _ ⟨rp6, rc7, rfl, rfl⟩
  refine lv (v := sB rp6 (ys ++ [(markB 1 ((k : Nat) : Int))]) rc7) e_assign ?_
  refine l_nil ?_
  refine f_block ?_
  refine f_then ?_
  refine c_region ?_
  refine lv (v := Nx (k)) e_move ?_
  refine lv (v := Nx (k + 1)) (e_add (a := ((k : Nat) : Int)) (b := (1 : Int)) rfl rfl (i64n (by omega) (by omega))) ?_
  refine lv (v := Nx (k + 1)) e_assign ?_
  refine l_nil ?_
  refine f_mask (L' := [rowF BodyF 33 rp6 rc7 (ys ++ [(markB 1 ((k : Nat) : Int))])]) [false, true] rfl ?_
  exact f_cut ⟨(k + 1, (ys ++ [(markB 1 ((k : Nat) : Int))]), rp6, rc7), ⟨⟨rfl, rfl, rfl⟩, rfl, ⟨by omega, by rw [hys]; exact lentL_next (markB 1) xs k⟩⟩, (show 12 - (k + 1) < 12 - k from by omega)⟩
 refine c_exit ?_
 refine f_then_exit ?_
 refine f_then_exit ?_
 refine f_exit ?_
 refine fts ?_
 refine c_rowcap 0 rfl (fun hcl hcm => ?_)
 have hyl : ys.length = xs.length + k := by rw [hys]; simp
 refine c_region ?_
 refine lv (v := sB p ys c) e_move ?_
 refine lv (v := sB va xs (vc)) e_move ?_
 refine lv (v := Nx (xs.length)) (e_len (a := va) (n := xs.length) (c := vc) rfl ua40) ?_
 refine lv (v := sB p xs c) (e_slice_hi (a := p) (len := ys.length) (cap := c) (h := xs.length) ua43 rfl rfl (by omega)) ?_
 refine lv (v := sB p xs c) e_assign ?_
 refine lnf ?_
 refine c_ret ?_
 refine ret1 Tryz.results48 (v := sB p xs c) rfl ?_
 intro w hw
 obtain rfl : k = 12 := by omega
 have he : ys = lentL (markB 1) xs := hys
 subst he
 exact ⟨p, c, rfl, st_mask [true] rfl hw⟩
set_option maxHeartbeats 4000000 in
theorem keptB_ok (β : Base) (w : World) (hw : St β [] w) (p : Option Addr) (c : Nat) (v : Value) (xs : List KB) (hx : xs.length ≤ 1048576) (hs : Sl KBR β.heap (sB p (lentL (markB 1) xs) c) (lentL (markB 1) xs)) (hv : Sl KBR β.heap v xs) : Calls Tryz.prog 59 #[sB p xs c, v] w fun r w' => r = .returned (.bool true) ∧ St β [] w' := by
 obtain ⟨va, vc, rfl, vl, vm, ve⟩ := hv.get
 obtain ⟨_, hpl, hpm, hpe⟩ := hs.parts
 have hll := lentL_len (markB 1) xs
 refine enter (n := 58) Tryz.func59 rfl Tryz.ntmps59 rfl ?_ hw
 refine csr ?_
 refine l_val (v := .bool false) rfl rfl rfl e_assign ?_
 refine lnf ?_
 refine cs2 ?_
 refine c_region ?_
 refine lv (v := sB p xs (c)) e_move ?_
 refine lv (v := Nx (xs.length)) (e_len (a := p) (n := xs.length) (c := c) rfl ua40) ?_
 refine lv (v := sB va xs (vc)) e_move ?_
 refine lv (v := Nx (xs.length)) (e_len (a := va) (n := xs.length) (c := vc) rfl ua40) ?_
 refine lv (e_neq (a := ((xs.length : Nat) : Int)) (b := ((xs.length : Nat) : Int)) rfl rfl) ?_
 refine lnf ?_
 refine c_if (((xs.length : Nat) : Int) ≠ ((xs.length : Nat) : Int)) rfl (fun hc1 => ?_) (fun hc1 => ?_)
 ·exact absurd hc1 (by omega)
 refine csk ?_
 refine csr ?_
 refine lv (v := sB p xs (c)) e_move ?_
 refine lv (v := sB va xs (vc)) e_move ?_
 refine lv (v := Nx (xs.length)) (e_len (a := va) (n := xs.length) (c := vc) rfl ua40) ?_
 refine lv (v := Nx (xs.length + 12)) (e_add (a := ((xs.length : Nat) : Int)) (b := (12 : Int)) rfl rfl (i64n (by omega) (by omega))) ?_
 refine lv (v := .slice p (((lentL (markB 1) xs)).length) (c)) (ev_eq (by rw [lentL_len]) (e_slice_hi (a := p) (len := xs.length) (cap := c) (h := xs.length + 12) ua43 rfl rfl (by omega))) ?_
 refine lv (v := sB p ((lentL (markB 1) xs)) (c)) e_assign ?_
 refine lnf ?_
 refine cs2 ?_
 refine c_region ?_
 refine l_val (v := .int .i64 (0)) rfl rfl rfl e_assign ?_
 refine lnf ?_
 refine c_block ?_
 refine c_loop (fun (k : Nat) (f : Fm) (L : List Res) => (f 1 = sB va xs (vc) ∧ f 5 = sB p ((lentL (markB 1) xs)) (c) ∧ f 6 = Nx (k)) ∧ L = [] ∧ (k ≤ xs.length + 12)) (fun (k : Nat) => xs.length + 12 - k) 0 ?_ ?_
 ·exact ⟨⟨rfl, rfl, rfl⟩, rfl, (by omega)⟩
 rintro k f0 L0 ⟨⟨hs1, hs5, hs6⟩, hL, hk⟩
 subst L0
 refine rebase (d := 1) hs1 ?_
 refine rebase (d := 5) hs5 ?_
 refine rebase (d := 6) hs6 ?_
 clear hs1 hs5 hs6
 refine cs2 ?_
 refine c_region ?_
 refine lv (v := Nx (k)) e_move ?_
 refine lv (v := sB p ((lentL (markB 1) xs)) (c)) e_move ?_
 refine lv (v := Nx (((lentL (markB 1) xs)).length)) (e_len (a := p) (n := ((lentL (markB 1) xs)).length) (c := c) rfl ua40) ?_
 refine lv (e_lss (a := ((k : Nat) : Int)) (b := ((((lentL (markB 1) xs)).length : Nat) : Int)) rfl rfl) ?_
 refine lnf ?_
 refine c_if (((k : Nat) : Int) < ((((lentL (markB 1) xs)).length : Nat) : Int)) rfl (fun hc2 => ?_) (fun hc2 => ?_)
 ·refine csk ?_
  refine c_seq ?_
  refine c_block ?_
  refine c_seq ?_
  refine c_quiet (by kernel_rfl) (by kernel_rfl) ?_
  refine q_val (v := Nx (k)) rfl rfl rfl e_move ?_
  refine q_val (v := sB va xs (vc)) rfl rfl rfl e_move ?_
  refine q_val (v := Nx (xs.length)) rfl rfl rfl (e_len (a := va) (n := xs.length) (c := vc) rfl ua40) ?_
  refine q_val rfl rfl rfl (e_lss (a := ((k : Nat) : Int)) (b := ((xs.length : Nat) : Int)) rfl rfl) ?_
  refine q_val (v := .bool (decide (((k : Nat) : Int) < ((xs.length : Nat) : Int)))) rfl rfl rfl e_move ?_
  refine q_split (s := 27) (p := ((k : Nat) : Int) < ((xs.length : Nat) : Int)) rfl (fun hg3 => ?_) (fun hg3 => ?_)
  ·refine qg_val (v := sB p ((lentL (markB 1) xs)) (c)) rfl rfl rfl rfl rfl e_move ?_
   refine qg_val (v := Nx (k)) rfl rfl rfl rfl rfl e_move ?_
   obtain ⟨x4, hx5⟩ : ∃ x_, ((lentL (markB 1) xs))[k]? = some x_ := ⟨_, List.getElem?_eq_getElem (by omega)⟩
   obtain ⟨ha6, cs7, hc8, rfl⟩ := hpe _ _ hx5
   refine qg_val (v := .pointer (some ((ba p).add (k * 9)))) rfl rfl rfl rfl rfl (e_indexAddr (k := k) (len := ((lentL (markB 1) xs)).length) (cap := c) (a := p) rfl rfl ua43 (by omega) ha6) ?_
   refine qg_val (v := .agg (bC x4)) rfl rfl rfl rfl rfl (e_load ua22 rfl (kB hc8) rfl) ?_
   refine qg_val (v := sB va xs (vc)) rfl rfl rfl rfl rfl e_move ?_
   refine qg_val (v := Nx (k)) rfl rfl rfl rfl rfl e_move ?_
   obtain ⟨x10, hx11⟩ : ∃ x_, (xs)[k]? = some x_ := ⟨_, List.getElem?_eq_getElem (by omega)⟩
   obtain ⟨ha12, cs13, hc14, rfl⟩ := ve _ _ hx11
   refine qg_val (v := .pointer (some ((ba va).add (k * 9)))) rfl rfl rfl rfl rfl (e_indexAddr (k := k) (len := xs.length) (cap := vc) (a := va) rfl rfl ua43 (by omega) ha12) ?_
   refine qg_val (v := .agg (bC x10)) rfl rfl rfl rfl rfl (e_load ua22 rfl (kB hc14) rfl) ?_
   refine qg_val (v := .bool (decide (x4 = x10))) rfl rfl rfl rfl rfl (e_eql_t (xs := (bodyE x4)) (ys := (bodyE x10)) ua133 ua134 ua135 rfl rfl rfl rfl body_eq) ?_
   refine qg_val (v := .bool (decide (¬ (x4 = x10)))) rfl rfl rfl rfl rfl (e_not_p (p := x4 = x10) rfl) ?_
   refine q_val (v := .bool (decide (¬ (x4 = x10)))) rfl rfl rfl (e_pick_t rfl) ?_
   refine q_val (v := .bool (decide (¬ (x4 = x10)))) rfl rfl rfl e_move ?_
   refine q_split (s := 39) (p := ¬ (x4 = x10)) rfl (fun h => ?_) (fun h => ?_)
   exact absurd h (Decidable.not_not.2 (lentL_lo hx5 hx11))
   refine qg_val (v := Nx (k)) rfl rfl rfl rfl rfl e_move ?_
   refine qg_val (v := sB va xs (vc)) rfl rfl rfl rfl rfl e_move ?_
   refine qg_val (v := Nx (xs.length)) rfl rfl rfl rfl rfl (e_len (a := va) (n := xs.length) (c := vc) rfl ua40) ?_
   refine qg_val rfl rfl rfl rfl rfl (e_geq (a := ((k : Nat) : Int)) (b := ((xs.length : Nat) : Int)) rfl rfl) ?_
   refine qg_val (v := .bool (decide (((xs.length : Nat) : Int) ≤ ((k : Nat) : Int)))) rfl rfl rfl rfl rfl e_move ?_
   refine q_split (s := 44) (p := ((xs.length : Nat) : Int) ≤ ((k : Nat) : Int)) rfl (fun hg16 => ?_) (fun hg16 => ?_)
   ·refine qg_val (v := sB p ((lentL (markB 1) xs)) (c)) rfl rfl rfl rfl rfl e_move ?_
    refine qg_val (v := Nx (k)) rfl rfl rfl rfl rfl e_move ?_
    refine qg_val (v := .pointer (some ((ba p).add (k * 9)))) rfl rfl rfl rfl rfl (e_indexAddr (k := k) (len := ((lentL (markB 1) xs)).length) (cap := c) (a := p) rfl rfl ua43 (by omega) ha6) ?_
    refine qg_val (v := .agg (bC x4)) rfl rfl rfl rfl rfl (e_load ua22 rfl (kB hc8) rfl) ?_
    refine qg_val (v := Nx (k)) rfl rfl rfl rfl rfl e_move ?_
    refine qg_val (v := sB va xs (vc)) rfl rfl rfl rfl rfl e_move ?_
    refine qg_val (v := Nx (xs.length)) rfl rfl rfl rfl rfl (e_len (a := va) (n := xs.length) (c := vc) rfl ua40) ?_
    refine qg_val (v := Nx (k - xs.length)) rfl rfl rfl rfl rfl (ev_eq (congrArg (Value.int .i64) (by omega)) (e_sub (a := ((k : Nat) : Int)) (b := ((xs.length : Nat) : Int)) rfl rfl (i64w (by omega)))) ?_
    refine qg_call (v := .agg (bC (markB 1 ((k - xs.length : Nat) : Int)))) rfl rfl rfl rfl rfl (cl0 (vs := [.int .i64 (1), Nx (k - xs.length)]) ua132 rfl rfl) (fun w hw => ?_) ?_
    ·obtain ⟨β1, sb, kn, hw1, back⟩ := St.frame_all hw
     exact (markB_ok β1 w hw1 (1 : Int) ((k - xs.length : Nat) : Int) (by omega) (by omega)).mono (fun e w' ⟨he, hw'⟩ => ⟨he, st_mask [] rfl (back _ _ hw')⟩)
    refine qg_val (v := .bool (decide (x4 = (markB 1 ((k - xs.length : Nat) : Int))))) rfl rfl rfl rfl rfl (e_eql_t (xs := (bodyE x4)) (ys := (bodyE (markB 1 ((k - xs.length : Nat) : Int)))) ua133 ua134 ua135 rfl rfl rfl rfl body_eq) ?_
    refine qg_val (v := .bool (decide (¬ (x4 = (markB 1 ((k - xs.length : Nat) : Int)))))) rfl rfl rfl rfl rfl (e_not_p (p := x4 = (markB 1 ((k - xs.length : Nat) : Int))) rfl) ?_
    refine qg_val (v := .bool (decide (¬ (x4 = (markB 1 ((k - xs.length : Nat) : Int)))))) rfl rfl rfl rfl rfl (e_pick_t rfl) ?_
    refine q_val (v := .bool (decide (¬ (x4 = (markB 1 ((k - xs.length : Nat) : Int)))))) rfl rfl rfl (e_pick_f rfl) ?_
    refine q_nil ?_
    refine f_then ?_
    refine c_if (¬ (x4 = (markB 1 ((k - xs.length : Nat) : Int)))) rfl (fun hc17 => ?_) (fun hc17 => ?_)
    ·exact absurd hc17 (Decidable.not_not.2 (lentL_hi hx5 (by omega)))
    refine c_skip ?_
    refine f_block ?_
    refine f_then ?_
    refine c_region ?_
    refine lv (v := Nx (k)) e_move ?_
    refine lv (v := Nx (k + 1)) (e_add (a := ((k : Nat) : Int)) (b := (1 : Int)) rfl rfl (i64n (by omega) (by omega))) ?_
    refine lv (v := Nx (k + 1)) e_assign ?_
    refine l_nil ?_
    exact f_cut ⟨k + 1, ⟨⟨rfl, rfl, rfl⟩, rfl, (by omega)⟩, (show xs.length + 12 - (k + 1) < xs.length + 12 - k from by omega)⟩
   refine q_skip rfl rfl rfl rfl rfl rfl ?_
   refine q_skip rfl rfl rfl rfl rfl rfl ?_
   refine q_skip rfl rfl rfl rfl rfl rfl ?_
   refine q_skip rfl rfl rfl rfl rfl rfl ?_
   refine q_skip rfl rfl rfl rfl rfl rfl ?_
   refine q_skip rfl rfl rfl rfl rfl rfl ?_
   refine q_skip rfl rfl rfl rfl rfl rfl ?_
   refine q_skip rfl rfl rfl rfl rfl rfl ?_
   refine q_skip rfl rfl rfl rfl rfl rfl ?_
   refine q_skip rfl rfl rfl rfl rfl rfl ?_
   refine q_skip rfl rfl rfl rfl rfl rfl ?_
   refine qg_val (v := .bool false) rfl rfl rfl rfl rfl (e_pick_f rfl) ?_
   refine q_val (v := .bool false) rfl rfl rfl (e_pick_f rfl) ?_
   refine q_nil ?_
   refine f_then ?_
   refine c_no rfl ?_
   refine c_skip ?_
   refine f_block ?_
   refine f_then ?_
   refine c_region ?_
   refine lv (v := Nx (k)) e_move ?_
   refine lv (v := Nx (k + 1)) (e_add (a := ((k : Nat) : Int)) (b := (1 : Int)) rfl rfl (i64n (by omega) (by omega))) ?_
   refine lv (v := Nx (k + 1)) e_assign ?_
   refine l_nil ?_
   exact f_cut ⟨k + 1, ⟨⟨rfl, rfl, rfl⟩, rfl, (by omega)⟩, (show xs.length + 12 - (k + 1) < xs.length + 12 - k from by omega)⟩
  refine q_skip rfl rfl rfl rfl rfl rfl ?_
  refine q_skip rfl rfl rfl rfl rfl rfl ?_
  refine q_skip rfl rfl rfl rfl rfl rfl ?_
  refine q_skip rfl rfl rfl rfl rfl rfl ?_
  refine q_skip rfl rfl rfl rfl rfl rfl ?_
  refine q_skip rfl rfl rfl rfl rfl rfl ?_
  refine q_skip rfl rfl rfl rfl rfl rfl ?_
  refine q_skip rfl rfl rfl rfl rfl rfl ?_
  refine q_skip rfl rfl rfl rfl rfl rfl ?_
  refine q_skip rfl rfl rfl rfl rfl rfl ?_
  refine q_val (v := .bool false) rfl rfl rfl (e_pick_f rfl) ?_
  refine q_val (v := .bool false) rfl rfl rfl e_move ?_
  refine qg_val (v := Nx (k)) rfl rfl rfl rfl rfl e_move ?_
  refine qg_val (v := sB va xs (vc)) rfl rfl rfl rfl rfl e_move ?_
  refine qg_val (v := Nx (xs.length)) rfl rfl rfl rfl rfl (e_len (a := va) (n := xs.length) (c := vc) rfl ua40) ?_
  refine qg_val rfl rfl rfl rfl rfl (e_geq (a := ((k : Nat) : Int)) (b := ((xs.length : Nat) : Int)) rfl rfl) ?_
  refine qg_val (v := .bool (decide (((xs.length : Nat) : Int) ≤ ((k : Nat) : Int)))) rfl rfl rfl rfl rfl e_move ?_
  refine q_split (s := 44) (p := ((xs.length : Nat) : Int) ≤ ((k : Nat) : Int)) rfl (fun hg18 => ?_) (fun hg18 => ?_)
  ·refine qg_val (v := sB p ((lentL (markB 1) xs)) (c)) rfl rfl rfl rfl rfl e_move ?_
   refine qg_val (v := Nx (k)) rfl rfl rfl rfl rfl e_move ?_
   obtain ⟨x19, hx20⟩ : ∃ x_, ((lentL (markB 1) xs))[k]? = some x_ := ⟨_, List.getElem?_eq_getElem (by omega)⟩
   obtain ⟨ha21, cs22, hc23, rfl⟩ := hpe _ _ hx20
   refine qg_val (v := .pointer (some ((ba p).add (k * 9)))) rfl rfl rfl rfl rfl (e_indexAddr (k := k) (len := ((lentL (markB 1) xs)).length) (cap := c) (a := p) rfl rfl ua43 (by omega) ha21) ?_
   refine qg_val (v := .agg (bC x19)) rfl rfl rfl rfl rfl (e_load ua22 rfl (kB hc23) rfl) ?_
   refine qg_val (v := Nx (k)) rfl rfl rfl rfl rfl e_move ?_
   refine qg_val (v := sB va xs (vc)) rfl rfl rfl rfl rfl e_move ?_
   refine qg_val (v := Nx (xs.length)) rfl rfl rfl rfl rfl (e_len (a := va) (n := xs.length) (c := vc) rfl ua40) ?_
   refine qg_val (v := Nx (k - xs.length)) rfl rfl rfl rfl rfl (ev_eq (congrArg (Value.int .i64) (by omega)) (e_sub (a := ((k : Nat) : Int)) (b := ((xs.length : Nat) : Int)) rfl rfl (i64w (by omega)))) ?_
   refine qg_call (v := .agg (bC (markB 1 ((k - xs.length : Nat) : Int)))) rfl rfl rfl rfl rfl (cl0 (vs := [.int .i64 (1), Nx (k - xs.length)]) ua132 rfl rfl) (fun w hw => ?_) ?_
   ·obtain ⟨β1, sb, kn, hw1, back⟩ := St.frame_all hw
    exact (markB_ok β1 w hw1 (1 : Int) ((k - xs.length : Nat) : Int) (by omega) (by omega)).mono (fun e w' ⟨he, hw'⟩ => ⟨he, st_mask [] rfl (back _ _ hw')⟩)
   refine qg_val (v := .bool (decide (x19 = (markB 1 ((k - xs.length : Nat) : Int))))) rfl rfl rfl rfl rfl (e_eql_t (xs := (bodyE x19)) (ys := (bodyE (markB 1 ((k - xs.length : Nat) : Int)))) ua133 ua134 ua135 rfl rfl rfl rfl body_eq) ?_
   refine qg_val (v := .bool (decide (¬ (x19 = (markB 1 ((k - xs.length : Nat) : Int)))))) rfl rfl rfl rfl rfl (e_not_p (p := x19 = (markB 1 ((k - xs.length : Nat) : Int))) rfl) ?_
   refine qg_val (v := .bool (decide (¬ (x19 = (markB 1 ((k - xs.length : Nat) : Int)))))) rfl rfl rfl rfl rfl (e_pick_t rfl) ?_
   refine q_val (v := .bool (decide (¬ (x19 = (markB 1 ((k - xs.length : Nat) : Int)))))) rfl rfl rfl (e_pick_f rfl) ?_
   refine q_nil ?_
   refine f_then ?_
   refine c_if (¬ (x19 = (markB 1 ((k - xs.length : Nat) : Int)))) rfl (fun hc25 => ?_) (fun hc25 => ?_)
   ·exact absurd hc25 (Decidable.not_not.2 (lentL_hi hx20 (by omega)))
   refine c_skip ?_
   refine f_block ?_
   refine f_then ?_
   refine c_region ?_
   refine lv (v := Nx (k)) e_move ?_
   refine lv (v := Nx (k + 1)) (e_add (a := ((k : Nat) : Int)) (b := (1 : Int)) rfl rfl (i64n (by omega) (by omega))) ?_
   refine lv (v := Nx (k + 1)) e_assign ?_
   refine l_nil ?_
   exact f_cut ⟨k + 1, ⟨⟨rfl, rfl, rfl⟩, rfl, (by omega)⟩, (show xs.length + 12 - (k + 1) < xs.length + 12 - k from by omega)⟩
  refine q_skip rfl rfl rfl rfl rfl rfl ?_
  refine q_skip rfl rfl rfl rfl rfl rfl ?_
  refine q_skip rfl rfl rfl rfl rfl rfl ?_
  refine q_skip rfl rfl rfl rfl rfl rfl ?_
  refine q_skip rfl rfl rfl rfl rfl rfl ?_
  refine q_skip rfl rfl rfl rfl rfl rfl ?_
  refine q_skip rfl rfl rfl rfl rfl rfl ?_
  refine q_skip rfl rfl rfl rfl rfl rfl ?_
  refine q_skip rfl rfl rfl rfl rfl rfl ?_
  refine q_skip rfl rfl rfl rfl rfl rfl ?_
  refine q_skip rfl rfl rfl rfl rfl rfl ?_
  refine qg_val (v := .bool false) rfl rfl rfl rfl rfl (e_pick_f rfl) ?_
  refine q_val (v := .bool false) rfl rfl rfl (e_pick_f rfl) ?_
  refine q_nil ?_
  refine f_then ?_
  refine c_no rfl ?_
  refine c_skip ?_
  refine f_block ?_
  refine f_then ?_
  refine c_region ?_
  refine lv (v := Nx (k)) e_move ?_
  refine lv (v := Nx (k + 1)) (e_add (a := ((k : Nat) : Int)) (b := (1 : Int)) rfl rfl (i64n (by omega) (by omega))) ?_
  refine lv (v := Nx (k + 1)) e_assign ?_
  refine l_nil ?_
  exact f_cut ⟨k + 1, ⟨⟨rfl, rfl, rfl⟩, rfl, (by omega)⟩, (show xs.length + 12 - (k + 1) < xs.length + 12 - k from by omega)⟩
 refine c_exit ?_
 refine f_then_exit ?_
 refine f_then_exit ?_
 refine f_exit ?_
 refine ftc ?_
 refine lv (v := .bool true) e_assign ?_
 refine lnf ?_
 refine c_ret ?_
 refine ret1 Tryz.results59 (v := .bool true) rfl ?_
 intro w hw
 exact ⟨rfl, st_mask [] rfl hw⟩
theorem overB_ok (β : Base) (w : World) (p : Option Addr) (c n : Nat) (ys : List KB) (hyl : ys.length = n + 12) (hn : n ≤ 1000000) (hw : St β [rowF BodyF 33 p c ys] w) : Calls Tryz.prog 61 #[.slice p n c] w fun r w' => ∃ zs, r = .returned (.tuple #[]) ∧ St β [rowF BodyF 33 p c zs] w' := by
 refine enter (n := 23) Tryz.func61 rfl Tryz.ntmps61 rfl ?_ hw
 refine c_seq ?_
 refine c_rowcap 0 rfl (fun hcl hcm => ?_)
 have hcm2 : c ≤ 9223372036854775807 := by unfold maxLen at hcm; omega
 refine c_region ?_
 refine lv (v := .slice p (n) c) e_move ?_
 refine lv (v := .slice p (n) c) e_move ?_
 refine lv (v := Nx (c)) (e_cap (a := p) (n := n) (c := c) rfl ua40) ?_
 refine lv (v := .slice p (n) c) e_move ?_
 refine lv (v := Nx (n)) (e_len (a := p) (n := n) (c := c) rfl ua40) ?_
 refine lv (v := Nx (n + 12)) (e_add (a := ((n : Nat) : Int)) (b := (12 : Int)) rfl rfl (i64n (by omega) (by omega))) ?_
 refine lv (v := Nx (min c (n + 12))) (ev_eq (congrArg (Value.int .i64) (by omega)) (e_min (a := ((c : Nat) : Int)) (b := ((n + 12 : Nat) : Int)) rfl rfl)) ?_
 refine lv (v := .slice p (min c (n + 12)) c) (e_slice_hi (a := p) (len := n) (cap := c) (h := min c (n + 12)) ua43 rfl rfl (by omega)) ?_
 refine lv (v := .slice p (min c (n + 12)) c) e_assign ?_
 refine lnc ?_
 refine lv (v := .int .i64 (0)) e_assign ?_
 refine lnf ?_
 refine c_block ?_
 refine c_loop (fun (x_ : Nat × List KB) (f : Fm) (L : List Res) => match x_ with | (k, zs) => (f 2 = .slice p (min c (n + 12)) c ∧ f 3 = Nx (k)) ∧ L = [rowF BodyF 33 p c zs] ∧ (k ≤ min c (n + 12) ∧ zs.length = n + 12)) (fun (x_ : Nat × List KB) => match x_ with | (k, zs) => min c (n + 12) - k) (0, ys) ?_ ?_
 ·exact ⟨⟨rfl, rfl⟩, rfl, ⟨by omega, hyl⟩⟩
 rintro ⟨k, zs⟩ f0 L0 ⟨⟨hs2, hs3⟩, hL, ⟨hk, hzl⟩⟩
 subst L0
 refine rebase (d := 2) hs2 ?_
 refine rebase (d := 3) hs3 ?_
 clear hs2 hs3
 refine cs2 ?_
 refine c_region ?_
 refine lv (v := Nx (k)) e_move ?_
 refine lv (v := .slice p (min c (n + 12)) c) e_move ?_
 refine lv (v := Nx (min c (n + 12))) (e_len (a := p) (n := min c (n + 12)) (c := c) rfl ua40) ?_
 refine lv (e_lss (a := ((k : Nat) : Int)) (b := ((min c (n + 12) : Nat) : Int)) rfl rfl) ?_
 refine lnf ?_
 refine c_if (((k : Nat) : Int) < ((min c (n + 12) : Nat) : Int)) rfl (fun hc1 => ?_) (fun hc1 => ?_)
 ·refine csk ?_
  refine c_seq ?_
  refine c_block ?_
  refine c_region ?_
  refine lv (v := .slice p (min c (n + 12)) c) e_move ?_
  refine lv (v := Nx (k)) e_move ?_
  refine lv (v := Nx (k)) e_move ?_
  refine lcf (cl0 (vs := [.int .i64 (2), Nx (k)]) ua132 rfl rfl) rfl fun w β1 sb kn hw1 back => (markB_ok β1 w hw1 (2 : Int) ((k : Nat) : Int) (by omega) (by omega)).mono ?_
  rintro e w' ⟨rfl, hw'⟩
  refine ⟨_, rfl, _, back _ _ hw', ?_⟩
  clear hw1 hw' back kn sb
  refine lv (v := .pointer (some ((ba p).add (k * 9)))) (e_indexFlN 0 (F := BodyF) (j := k) (m := min c (n + 12)) (xs := zs) rfl (by omega) rfl ua43 (by omega) rfl) ?_
  refine lu (m_storeFl 0 (F := BodyF) (p := p) (k := k) (xs := zs) (z := (markB 2 ((k : Nat) : Int))) ua22 rfl rfl rfl rfl (by omega)) ?_
  refine l_nil ?_
  refine f_block ?_
  refine f_then ?_
  refine c_region ?_
  refine lv (v := Nx (k)) e_move ?_
  refine lv (v := Nx (k + 1)) (e_add (a := ((k : Nat) : Int)) (b := (1 : Int)) rfl rfl (i64n (by omega) (by omega))) ?_
  refine lv (v := Nx (k + 1)) e_assign ?_
  refine l_nil ?_
  exact f_cut ⟨(k + 1, (zs.set k (markB 2 ((k : Nat) : Int)))), ⟨⟨rfl, rfl⟩, rfl, ⟨by omega, by simp only [sB, List.length_set]; exact hzl⟩⟩, (show min c (n + 12) - (k + 1) < min c (n + 12) - k from by omega)⟩
 refine c_exit ?_
 refine f_then_exit ?_
 refine f_then_exit ?_
 refine f_exit ?_
 refine end0 Tryz.results61 ?_
 intro w hw
 exact ⟨zs, rfl, st_mask [true] rfl hw⟩
set_option maxHeartbeats 4000000 in
theorem lentR_ok (β : Base) (w : World) (hw : St β [] w) (v : Value) (xs : List KR) (hs : Sl KRR β.heap v xs) (hn : xs.length ≤ 1048576) : Calls Tryz.prog 49 #[v] w fun r w' => ∃ p c, r = .returned (sB p xs c) ∧ St β [rowF RopeF 42 p c (lentL (markR 1) xs)] w' := by
 obtain ⟨va, vc, rfl, vl, vm, ve⟩ := hs.get
 refine enter (n := 25) Tryz.func49 rfl Tryz.ntmps49 rfl ?_ hw
 refine csr ?_
 refine l_val (v := .slice none 0 0) rfl rfl rfl e_assign ?_
 refine lnc ?_
 refine lv (v := sB va xs (vc)) e_move ?_
 refine lv (v := Nx (xs.length)) (e_len (a := va) (n := xs.length) (c := vc) rfl ua45) ?_
 refine lv (v := Nx (xs.length + 12)) (e_add (a := ((xs.length : Nat) : Int)) (b := (12 : Int)) rfl rfl (i64n (by omega) (by omega))) ?_
 refine l_mv rfl rfl rfl (m_make0 (c := xs.length + 12) ua46 ua84 ua77 rfl rfl (by omega) (by unfold maxLen; omega) (by omega)) ?_
 rintro _ _ ⟨b1, rfl, rfl⟩
 refine l_re (L' := [rowF RopeF 42 (some ⟨b1, 0, none⟩) (xs.length + 12) []]) (by rfl) ?_
 refine lv (v := .slice (some ⟨b1, 0, none⟩) (0) (xs.length + 12)) e_assign ?_
 refine lnc ?_
 refine lv (v := .slice (some ⟨b1, 0, none⟩) (0) (xs.length + 12)) e_move ?_
 refine lv (v := sB va xs (vc)) e_move ?_
 refine l_mv rfl rfl rfl (m_appendFlN (F := RopeF) 0 ua46 ua84 (p := (some ⟨b1, 0, none⟩)) (m := 0) (xs := []) (ys := xs) (ao := va) (k := xs.length) (c := vc) rfl rfl rfl rfl rfl (Knows.of_base (Elems.mono _ _ _) ve) (by first | omega | simp only [List.length_nil, List.length_cons, List.length_append, List.length_set]; omega) (by first | omega | simp only [List.length_nil, List.length_cons, List.length_append, List.length_set]; omega)) ?_
 rintro _ _ ⟨rp2, rc3, rfl, rfl⟩
 refine lv (v := sB rp2 xs rc3) e_assign ?_
 refine lnf ?_
 refine cs2 ?_
 refine c_region ?_
 refine l_val (v := .int .i64 (0)) rfl rfl rfl e_assign ?_
 refine lnf ?_
 refine c_block ?_
 refine c_loop (fun (x_ : Nat × List KR × Option Addr × Nat) (f : Fm) (L : List Res) => match x_ with | (k, ys, p, c) => (f 0 = sB va xs (vc) ∧ f 3 = sB p ys c ∧ f 4 = Nx (k)) ∧ L = [rowF RopeF 42 p c ys] ∧ (k ≤ 12 ∧ ys = (xs ++ (List.range k).map fun i => markR 1 (i : Nat)))) (fun (x_ : Nat × List KR × Option Addr × Nat) => match x_ with | (k, ys, p, c) => 12 - k) (0, xs, rp2, rc3) ?_ ?_
 ·exact ⟨⟨rfl, rfl, rfl⟩, rfl, ⟨by omega, by simp⟩⟩
 rintro ⟨k, ys, p, c⟩ f0 L0 ⟨⟨hs0, hs3, hs4⟩, hL, ⟨hk, hys⟩⟩
 subst L0
 refine rebase (d := 0) hs0 ?_
 refine rebase (d := 3) hs3 ?_
 refine rebase (d := 4) hs4 ?_
 clear hs0 hs3 hs4
 have hyl : ys.length = xs.length + k := by rw [hys]; simp
 refine cs2 ?_
 refine c_region ?_
 refine lv (v := Nx (k)) e_move ?_
 refine lv (e_lss (a := ((k : Nat) : Int)) (b := (12 : Int)) rfl rfl) ?_
 refine lnf ?_
 refine c_if (((k : Nat) : Int) < (12 : Int)) rfl (fun hc4 => ?_) (fun hc4 => ?_)
 ·refine csk ?_
  refine c_seq ?_
  refine c_block ?_
  refine c_region ?_
  refine lv (v := sB p ys c) e_move ?_
  refine lv (v := Nx (k)) e_move ?_
  refine lcf (cl0 (vs := [.int .i64 (1), Nx (k)]) ua136 rfl rfl) rfl fun w β1 sb kn hw1 back => (markR_ok β1 w hw1 (1 : Int) ((k : Nat) : Int) (by omega) (by omega)).mono ?_
  rintro e w' ⟨rfl, hw'⟩
  refine ⟨_, rfl, _, back _ _ hw', ?_⟩
  clear hw1 hw' back kn sb
  refine l_mv rfl rfl rfl (m_slices ua46 ua77 (cells := #[Ix ((markR 1 ((k : Nat) : Int)).a), Ix ((markR 1 ((k : Nat) : Int)).b), Ix ((markR 1 ((k : Nat) : Int)).len)]) rfl rfl rfl rfl) ?_
  rintro _ _ ⟨b5, rfl, rfl⟩
  refine l_mv rfl rfl rfl (m_appendFlN (F := RopeF) 1 ua46 ua84 (p := p) (m := ys.length) (xs := ys) (ys := [(markR 1 ((k : Nat) : Int))]) (ao := (some ⟨b5, 0, none⟩)) (k := 1) (c := 1) rfl rfl rfl rfl rfl (k_ptFl (z := (markR 1 ((k : Nat) : Int))) 0 rfl rfl) (by first | omega | simp only [List.length_nil, List.length_cons, List.length_append, List.length_set]; omega) (by first | omega | simp only [List.length_nil, List.length_cons, List.length_append, List.length_set]; omega)) ?_
  rintro _ _ ⟨rp6, rc7, rfl, rfl⟩
  refine lv (v := sB rp6 (ys ++ [(markR 1 ((k : Nat) : Int))]) rc7) e_assign ?_
  refine l_nil ?_
  refine f_block ?_
  refine f_then ?_
  refine c_region ?_
  refine lv (v := Nx (k)) e_move ?_
  refine lv (v := Nx (k + 1)) (e_add (a := ((k : Nat) : Int)) (b := (1 : Int)) rfl rfl (i64n (by omega) (by omega))) ?_
  refine lv (v := Nx (k + 1)) e_assign ?_
  refine l_nil ?_
  refine f_mask (L' := [rowF RopeF 42 rp6 rc7 (ys ++ [(markR 1 ((k : Nat) : Int))])]) [false, true] rfl ?_
  exact f_cut ⟨(k + 1, (ys ++ [(markR 1 ((k : Nat) : Int))]), rp6, rc7), ⟨⟨rfl, rfl, rfl⟩, rfl, ⟨by omega, by rw [hys]; exact lentL_next (markR 1) xs k⟩⟩, (show 12 - (k + 1) < 12 - k from by omega)⟩
 refine c_exit ?_
 refine f_then_exit ?_
 refine f_then_exit ?_
 refine f_exit ?_
 refine fts ?_
 refine c_rowcap 0 rfl (fun hcl hcm => ?_)
 have hyl : ys.length = xs.length + k := by rw [hys]; simp
 refine c_region ?_
 refine lv (v := sB p ys c) e_move ?_
 refine lv (v := sB va xs (vc)) e_move ?_
 refine lv (v := Nx (xs.length)) (e_len (a := va) (n := xs.length) (c := vc) rfl ua45) ?_
 refine lv (v := sB p xs c) (e_slice_hi (a := p) (len := ys.length) (cap := c) (h := xs.length) ua46 rfl rfl (by omega)) ?_
 refine lv (v := sB p xs c) e_assign ?_
 refine lnf ?_
 refine c_ret ?_
 refine ret1 Tryz.results49 (v := sB p xs c) rfl ?_
 intro w hw
 obtain rfl : k = 12 := by omega
 have he : ys = lentL (markR 1) xs := hys
 subst he
 exact ⟨p, c, rfl, st_mask [true] rfl hw⟩
set_option maxHeartbeats 4000000 in
theorem keptR_ok (β : Base) (w : World) (hw : St β [] w) (p : Option Addr) (c : Nat) (v : Value) (xs : List KR) (hx : xs.length ≤ 1048576) (hs : Sl KRR β.heap (sB p (lentL (markR 1) xs) c) (lentL (markR 1) xs)) (hv : Sl KRR β.heap v xs) : Calls Tryz.prog 60 #[sB p xs c, v] w fun r w' => r = .returned (.bool true) ∧ St β [] w' := by
 obtain ⟨va, vc, rfl, vl, vm, ve⟩ := hv.get
 obtain ⟨_, hpl, hpm, hpe⟩ := hs.parts
 have hll := lentL_len (markR 1) xs
 refine enter (n := 58) Tryz.func60 rfl Tryz.ntmps60 rfl ?_ hw
 refine csr ?_
 refine l_val (v := .bool false) rfl rfl rfl e_assign ?_
 refine lnf ?_
 refine cs2 ?_
 refine c_region ?_
 refine lv (v := sB p xs (c)) e_move ?_
 refine lv (v := Nx (xs.length)) (e_len (a := p) (n := xs.length) (c := c) rfl ua45) ?_
 refine lv (v := sB va xs (vc)) e_move ?_
 refine lv (v := Nx (xs.length)) (e_len (a := va) (n := xs.length) (c := vc) rfl ua45) ?_
 refine lv (e_neq (a := ((xs.length : Nat) : Int)) (b := ((xs.length : Nat) : Int)) rfl rfl) ?_
 refine lnf ?_
 refine c_if (((xs.length : Nat) : Int) ≠ ((xs.length : Nat) : Int)) rfl (fun hc1 => ?_) (fun hc1 => ?_)
 ·exact absurd hc1 (by omega)
 refine csk ?_
 refine csr ?_
 refine lv (v := sB p xs (c)) e_move ?_
 refine lv (v := sB va xs (vc)) e_move ?_
 refine lv (v := Nx (xs.length)) (e_len (a := va) (n := xs.length) (c := vc) rfl ua45) ?_
 refine lv (v := Nx (xs.length + 12)) (e_add (a := ((xs.length : Nat) : Int)) (b := (12 : Int)) rfl rfl (i64n (by omega) (by omega))) ?_
 refine lv (v := .slice p (((lentL (markR 1) xs)).length) (c)) (ev_eq (by rw [lentL_len]) (e_slice_hi (a := p) (len := xs.length) (cap := c) (h := xs.length + 12) ua46 rfl rfl (by omega))) ?_
 refine lv (v := sB p ((lentL (markR 1) xs)) (c)) e_assign ?_
 refine lnf ?_
 refine cs2 ?_
 refine c_region ?_
 refine l_val (v := .int .i64 (0)) rfl rfl rfl e_assign ?_
 refine lnf ?_
 refine c_block ?_
 refine c_loop (fun (k : Nat) (f : Fm) (L : List Res) => (f 1 = sB va xs (vc) ∧ f 5 = sB p ((lentL (markR 1) xs)) (c) ∧ f 6 = Nx (k)) ∧ L = [] ∧ (k ≤ xs.length + 12)) (fun (k : Nat) => xs.length + 12 - k) 0 ?_ ?_
 ·exact ⟨⟨rfl, rfl, rfl⟩, rfl, (by omega)⟩
 rintro k f0 L0 ⟨⟨hs1, hs5, hs6⟩, hL, hk⟩
 subst L0
 refine rebase (d := 1) hs1 ?_
 refine rebase (d := 5) hs5 ?_
 refine rebase (d := 6) hs6 ?_
 clear hs1 hs5 hs6
 refine cs2 ?_
 refine c_region ?_
 refine lv (v := Nx (k)) e_move ?_
 refine lv (v := sB p ((lentL (markR 1) xs)) (c)) e_move ?_
 refine lv (v := Nx (((lentL (markR 1) xs)).length)) (e_len (a := p) (n := ((lentL (markR 1) xs)).length) (c := c) rfl ua45) ?_
 refine lv (e_lss (a := ((k : Nat) : Int)) (b := ((((lentL (markR 1) xs)).length : Nat) : Int)) rfl rfl) ?_
 refine lnf ?_
 refine c_if (((k : Nat) : Int) < ((((lentL (markR 1) xs)).length : Nat) : Int)) rfl (fun hc2 => ?_) (fun hc2 => ?_)
 ·refine csk ?_
  refine c_seq ?_
  refine c_block ?_
  refine c_seq ?_
  refine c_quiet (by kernel_rfl) (by kernel_rfl) ?_
  refine q_val (v := Nx (k)) rfl rfl rfl e_move ?_
  refine q_val (v := sB va xs (vc)) rfl rfl rfl e_move ?_
  refine q_val (v := Nx (xs.length)) rfl rfl rfl (e_len (a := va) (n := xs.length) (c := vc) rfl ua45) ?_
  refine q_val rfl rfl rfl (e_lss (a := ((k : Nat) : Int)) (b := ((xs.length : Nat) : Int)) rfl rfl) ?_
  refine q_val (v := .bool (decide (((k : Nat) : Int) < ((xs.length : Nat) : Int)))) rfl rfl rfl e_move ?_
  refine q_split (s := 27) (p := ((k : Nat) : Int) < ((xs.length : Nat) : Int)) rfl (fun hg3 => ?_) (fun hg3 => ?_)
  ·refine qg_val (v := sB p ((lentL (markR 1) xs)) (c)) rfl rfl rfl rfl rfl e_move ?_
   refine qg_val (v := Nx (k)) rfl rfl rfl rfl rfl e_move ?_
   obtain ⟨x4, hx5⟩ : ∃ x_, ((lentL (markR 1) xs))[k]? = some x_ := ⟨_, List.getElem?_eq_getElem (by omega)⟩
   obtain ⟨ha6, cs7, hc8, rfl⟩ := hpe _ _ hx5
   refine qg_val (v := .pointer (some ((ba p).add (k * 3)))) rfl rfl rfl rfl rfl (e_indexAddr (k := k) (len := ((lentL (markR 1) xs)).length) (cap := c) (a := p) rfl rfl ua46 (by omega) ha6) ?_
   refine qg_val (v := .agg #[Ix (x4.a), Ix (x4.b), Ix (x4.len)]) rfl rfl rfl rfl rfl (e_load ua47 rfl (kB hc8) rfl) ?_
   refine qg_val (v := sB va xs (vc)) rfl rfl rfl rfl rfl e_move ?_
   refine qg_val (v := Nx (k)) rfl rfl rfl rfl rfl e_move ?_
   obtain ⟨x10, hx11⟩ : ∃ x_, (xs)[k]? = some x_ := ⟨_, List.getElem?_eq_getElem (by omega)⟩
   obtain ⟨ha12, cs13, hc14, rfl⟩ := ve _ _ hx11
   refine qg_val (v := .pointer (some ((ba va).add (k * 3)))) rfl rfl rfl rfl rfl (e_indexAddr (k := k) (len := xs.length) (cap := vc) (a := va) rfl rfl ua46 (by omega) ha12) ?_
   refine qg_val (v := .agg #[Ix (x10.a), Ix (x10.b), Ix (x10.len)]) rfl rfl rfl rfl rfl (e_load ua47 rfl (kB hc14) rfl) ?_
   refine qg_val (v := .bool (decide (x4 = x10))) rfl rfl rfl rfl rfl (e_eql_t (xs := [Ix (x4.a), Ix (x4.b), Ix (x4.len)]) (ys := [Ix (x10.a), Ix (x10.b), Ix (x10.len)]) ua137 ua138 ua139 rfl rfl rfl rfl rope_eq) ?_
   refine qg_val (v := .bool (decide (¬ (x4 = x10)))) rfl rfl rfl rfl rfl (e_not_p (p := x4 = x10) rfl) ?_
   refine q_val (v := .bool (decide (¬ (x4 = x10)))) rfl rfl rfl (e_pick_t rfl) ?_
   refine q_val (v := .bool (decide (¬ (x4 = x10)))) rfl rfl rfl e_move ?_
   refine q_split (s := 39) (p := ¬ (x4 = x10)) rfl (fun h => ?_) (fun h => ?_)
   exact absurd h (Decidable.not_not.2 (lentL_lo hx5 hx11))
   refine qg_val (v := Nx (k)) rfl rfl rfl rfl rfl e_move ?_
   refine qg_val (v := sB va xs (vc)) rfl rfl rfl rfl rfl e_move ?_
   refine qg_val (v := Nx (xs.length)) rfl rfl rfl rfl rfl (e_len (a := va) (n := xs.length) (c := vc) rfl ua45) ?_
   refine qg_val rfl rfl rfl rfl rfl (e_geq (a := ((k : Nat) : Int)) (b := ((xs.length : Nat) : Int)) rfl rfl) ?_
   refine qg_val (v := .bool (decide (((xs.length : Nat) : Int) ≤ ((k : Nat) : Int)))) rfl rfl rfl rfl rfl e_move ?_
   refine q_split (s := 44) (p := ((xs.length : Nat) : Int) ≤ ((k : Nat) : Int)) rfl (fun hg16 => ?_) (fun hg16 => ?_)
   ·refine qg_val (v := sB p ((lentL (markR 1) xs)) (c)) rfl rfl rfl rfl rfl e_move ?_
    refine qg_val (v := Nx (k)) rfl rfl rfl rfl rfl e_move ?_
    refine qg_val (v := .pointer (some ((ba p).add (k * 3)))) rfl rfl rfl rfl rfl (e_indexAddr (k := k) (len := ((lentL (markR 1) xs)).length) (cap := c) (a := p) rfl rfl ua46 (by omega) ha6) ?_
    refine qg_val (v := .agg #[Ix (x4.a), Ix (x4.b), Ix (x4.len)]) rfl rfl rfl rfl rfl (e_load ua47 rfl (kB hc8) rfl) ?_
    refine qg_val (v := Nx (k)) rfl rfl rfl rfl rfl e_move ?_
    refine qg_val (v := sB va xs (vc)) rfl rfl rfl rfl rfl e_move ?_
    refine qg_val (v := Nx (xs.length)) rfl rfl rfl rfl rfl (e_len (a := va) (n := xs.length) (c := vc) rfl ua45) ?_
    refine qg_val (v := Nx (k - xs.length)) rfl rfl rfl rfl rfl (ev_eq (congrArg (Value.int .i64) (by omega)) (e_sub (a := ((k : Nat) : Int)) (b := ((xs.length : Nat) : Int)) rfl rfl (i64w (by omega)))) ?_
    refine qg_call (v := .agg #[Ix ((markR 1 ((k - xs.length : Nat) : Int)).a), Ix ((markR 1 ((k - xs.length : Nat) : Int)).b), Ix ((markR 1 ((k - xs.length : Nat) : Int)).len)]) rfl rfl rfl rfl rfl (cl0 (vs := [.int .i64 (1), Nx (k - xs.length)]) ua136 rfl rfl) (fun w hw => ?_) ?_
    ·obtain ⟨β1, sb, kn, hw1, back⟩ := St.frame_all hw
     exact (markR_ok β1 w hw1 (1 : Int) ((k - xs.length : Nat) : Int) (by omega) (by omega)).mono (fun e w' ⟨he, hw'⟩ => ⟨he, st_mask [] rfl (back _ _ hw')⟩)
    refine qg_val (v := .bool (decide (x4 = (markR 1 ((k - xs.length : Nat) : Int))))) rfl rfl rfl rfl rfl (e_eql_t (xs := [Ix (x4.a), Ix (x4.b), Ix (x4.len)]) (ys := [Ix ((markR 1 ((k - xs.length : Nat) : Int)).a), Ix ((markR 1 ((k - xs.length : Nat) : Int)).b), Ix ((markR 1 ((k - xs.length : Nat) : Int)).len)]) ua137 ua138 ua139 rfl rfl rfl rfl rope_eq) ?_
    refine qg_val (v := .bool (decide (¬ (x4 = (markR 1 ((k - xs.length : Nat) : Int)))))) rfl rfl rfl rfl rfl (e_not_p (p := x4 = (markR 1 ((k - xs.length : Nat) : Int))) rfl) ?_
    refine qg_val (v := .bool (decide (¬ (x4 = (markR 1 ((k - xs.length : Nat) : Int)))))) rfl rfl rfl rfl rfl (e_pick_t rfl) ?_
    refine q_val (v := .bool (decide (¬ (x4 = (markR 1 ((k - xs.length : Nat) : Int)))))) rfl rfl rfl (e_pick_f rfl) ?_
    refine q_nil ?_
    refine f_then ?_
    refine c_if (¬ (x4 = (markR 1 ((k - xs.length : Nat) : Int)))) rfl (fun hc17 => ?_) (fun hc17 => ?_)
    ·exact absurd hc17 (Decidable.not_not.2 (lentL_hi hx5 (by omega)))
    refine c_skip ?_
    refine f_block ?_
    refine f_then ?_
    refine c_region ?_
    refine lv (v := Nx (k)) e_move ?_
    refine lv (v := Nx (k + 1)) (e_add (a := ((k : Nat) : Int)) (b := (1 : Int)) rfl rfl (i64n (by omega) (by omega))) ?_
    refine lv (v := Nx (k + 1)) e_assign ?_
    refine l_nil ?_
    exact f_cut ⟨k + 1, ⟨⟨rfl, rfl, rfl⟩, rfl, (by omega)⟩, (show xs.length + 12 - (k + 1) < xs.length + 12 - k from by omega)⟩
   refine q_skip rfl rfl rfl rfl rfl rfl ?_
   refine q_skip rfl rfl rfl rfl rfl rfl ?_
   refine q_skip rfl rfl rfl rfl rfl rfl ?_
   refine q_skip rfl rfl rfl rfl rfl rfl ?_
   refine q_skip rfl rfl rfl rfl rfl rfl ?_
   refine q_skip rfl rfl rfl rfl rfl rfl ?_
   refine q_skip rfl rfl rfl rfl rfl rfl ?_
   refine q_skip rfl rfl rfl rfl rfl rfl ?_
   refine q_skip rfl rfl rfl rfl rfl rfl ?_
   refine q_skip rfl rfl rfl rfl rfl rfl ?_
   refine q_skip rfl rfl rfl rfl rfl rfl ?_
   refine qg_val (v := .bool false) rfl rfl rfl rfl rfl (e_pick_f rfl) ?_
   refine q_val (v := .bool false) rfl rfl rfl (e_pick_f rfl) ?_
   refine q_nil ?_
   refine f_then ?_
   refine c_no rfl ?_
   refine c_skip ?_
   refine f_block ?_
   refine f_then ?_
   refine c_region ?_
   refine lv (v := Nx (k)) e_move ?_
   refine lv (v := Nx (k + 1)) (e_add (a := ((k : Nat) : Int)) (b := (1 : Int)) rfl rfl (i64n (by omega) (by omega))) ?_
   refine lv (v := Nx (k + 1)) e_assign ?_
   refine l_nil ?_
   exact f_cut ⟨k + 1, ⟨⟨rfl, rfl, rfl⟩, rfl, (by omega)⟩, (show xs.length + 12 - (k + 1) < xs.length + 12 - k from by omega)⟩
  refine q_skip rfl rfl rfl rfl rfl rfl ?_
  refine q_skip rfl rfl rfl rfl rfl rfl ?_
  refine q_skip rfl rfl rfl rfl rfl rfl ?_
  refine q_skip rfl rfl rfl rfl rfl rfl ?_
  refine q_skip rfl rfl rfl rfl rfl rfl ?_
  refine q_skip rfl rfl rfl rfl rfl rfl ?_
  refine q_skip rfl rfl rfl rfl rfl rfl ?_
  refine q_skip rfl rfl rfl rfl rfl rfl ?_
  refine q_skip rfl rfl rfl rfl rfl rfl ?_
  refine q_skip rfl rfl rfl rfl rfl rfl ?_
  refine q_val (v := .bool false) rfl rfl rfl (e_pick_f rfl) ?_
  refine q_val (v := .bool false) rfl rfl rfl e_move ?_
  refine qg_val (v := Nx (k)) rfl rfl rfl rfl rfl e_move ?_
  refine qg_val (v := sB va xs (vc)) rfl rfl rfl rfl rfl e_move ?_
  refine qg_val (v := Nx (xs.length)) rfl rfl rfl rfl rfl (e_len (a := va) (n := xs.length) (c := vc) rfl ua45) ?_
  refine qg_val rfl rfl rfl rfl rfl (e_geq (a := ((k : Nat) : Int)) (b := ((xs.length : Nat) : Int)) rfl rfl) ?_
  refine qg_val (v := .bool (decide (((xs.length : Nat) : Int) ≤ ((k : Nat) : Int)))) rfl rfl rfl rfl rfl e_move ?_
  refine q_split (s := 44) (p := ((xs.length : Nat) : Int) ≤ ((k : Nat) : Int)) rfl (fun hg18 => ?_) (fun hg18 => ?_)
  ·refine qg_val (v := sB p ((lentL (markR 1) xs)) (c)) rfl rfl rfl rfl rfl e_move ?_
   refine qg_val (v := Nx (k)) rfl rfl rfl rfl rfl e_move ?_
   obtain ⟨x19, hx20⟩ : ∃ x_, ((lentL (markR 1) xs))[k]? = some x_ := ⟨_, List.getElem?_eq_getElem (by omega)⟩
   obtain ⟨ha21, cs22, hc23, rfl⟩ := hpe _ _ hx20
   refine qg_val (v := .pointer (some ((ba p).add (k * 3)))) rfl rfl rfl rfl rfl (e_indexAddr (k := k) (len := ((lentL (markR 1) xs)).length) (cap := c) (a := p) rfl rfl ua46 (by omega) ha21) ?_
   refine qg_val (v := .agg #[Ix (x19.a), Ix (x19.b), Ix (x19.len)]) rfl rfl rfl rfl rfl (e_load ua47 rfl (kB hc23) rfl) ?_
   refine qg_val (v := Nx (k)) rfl rfl rfl rfl rfl e_move ?_
   refine qg_val (v := sB va xs (vc)) rfl rfl rfl rfl rfl e_move ?_
   refine qg_val (v := Nx (xs.length)) rfl rfl rfl rfl rfl (e_len (a := va) (n := xs.length) (c := vc) rfl ua45) ?_
   refine qg_val (v := Nx (k - xs.length)) rfl rfl rfl rfl rfl (ev_eq (congrArg (Value.int .i64) (by omega)) (e_sub (a := ((k : Nat) : Int)) (b := ((xs.length : Nat) : Int)) rfl rfl (i64w (by omega)))) ?_
   refine qg_call (v := .agg #[Ix ((markR 1 ((k - xs.length : Nat) : Int)).a), Ix ((markR 1 ((k - xs.length : Nat) : Int)).b), Ix ((markR 1 ((k - xs.length : Nat) : Int)).len)]) rfl rfl rfl rfl rfl (cl0 (vs := [.int .i64 (1), Nx (k - xs.length)]) ua136 rfl rfl) (fun w hw => ?_) ?_
   ·obtain ⟨β1, sb, kn, hw1, back⟩ := St.frame_all hw
    exact (markR_ok β1 w hw1 (1 : Int) ((k - xs.length : Nat) : Int) (by omega) (by omega)).mono (fun e w' ⟨he, hw'⟩ => ⟨he, st_mask [] rfl (back _ _ hw')⟩)
   refine qg_val (v := .bool (decide (x19 = (markR 1 ((k - xs.length : Nat) : Int))))) rfl rfl rfl rfl rfl (e_eql_t (xs := [Ix (x19.a), Ix (x19.b), Ix (x19.len)]) (ys := [Ix ((markR 1 ((k - xs.length : Nat) : Int)).a), Ix ((markR 1 ((k - xs.length : Nat) : Int)).b), Ix ((markR 1 ((k - xs.length : Nat) : Int)).len)]) ua137 ua138 ua139 rfl rfl rfl rfl rope_eq) ?_
   refine qg_val (v := .bool (decide (¬ (x19 = (markR 1 ((k - xs.length : Nat) : Int)))))) rfl rfl rfl rfl rfl (e_not_p (p := x19 = (markR 1 ((k - xs.length : Nat) : Int))) rfl) ?_
   refine qg_val (v := .bool (decide (¬ (x19 = (markR 1 ((k - xs.length : Nat) : Int)))))) rfl rfl rfl rfl rfl (e_pick_t rfl) ?_
   refine q_val (v := .bool (decide (¬ (x19 = (markR 1 ((k - xs.length : Nat) : Int)))))) rfl rfl rfl (e_pick_f rfl) ?_
   refine q_nil ?_
   refine f_then ?_
   refine c_if (¬ (x19 = (markR 1 ((k - xs.length : Nat) : Int)))) rfl (fun hc25 => ?_) (fun hc25 => ?_)
   ·exact absurd hc25 (Decidable.not_not.2 (lentL_hi hx20 (by omega)))
   refine c_skip ?_
   refine f_block ?_
   refine f_then ?_
   refine c_region ?_
   refine lv (v := Nx (k)) e_move ?_
   refine lv (v := Nx (k + 1)) (e_add (a := ((k : Nat) : Int)) (b := (1 : Int)) rfl rfl (i64n (by omega) (by omega))) ?_
   refine lv (v := Nx (k + 1)) e_assign ?_
   refine l_nil ?_
   exact f_cut ⟨k + 1, ⟨⟨rfl, rfl, rfl⟩, rfl, (by omega)⟩, (show xs.length + 12 - (k + 1) < xs.length + 12 - k from by omega)⟩
  refine q_skip rfl rfl rfl rfl rfl rfl ?_
  refine q_skip rfl rfl rfl rfl rfl rfl ?_
  refine q_skip rfl rfl rfl rfl rfl rfl ?_
  refine q_skip rfl rfl rfl rfl rfl rfl ?_
  refine q_skip rfl rfl rfl rfl rfl rfl ?_
  refine q_skip rfl rfl rfl rfl rfl rfl ?_
  refine q_skip rfl rfl rfl rfl rfl rfl ?_
  refine q_skip rfl rfl rfl rfl rfl rfl ?_
  refine q_skip rfl rfl rfl rfl rfl rfl ?_
  refine q_skip rfl rfl rfl rfl rfl rfl ?_
  refine q_skip rfl rfl rfl rfl rfl rfl ?_
  refine qg_val (v := .bool false) rfl rfl rfl rfl rfl (e_pick_f rfl) ?_
  refine q_val (v := .bool false) rfl rfl rfl (e_pick_f rfl) ?_
  refine q_nil ?_
  refine f_then ?_
  refine c_no rfl ?_
  refine c_skip ?_
  refine f_block ?_
  refine f_then ?_
  refine c_region ?_
  refine lv (v := Nx (k)) e_move ?_
  refine lv (v := Nx (k + 1)) (e_add (a := ((k : Nat) : Int)) (b := (1 : Int)) rfl rfl (i64n (by omega) (by omega))) ?_
  refine lv (v := Nx (k + 1)) e_assign ?_
  refine l_nil ?_
  exact f_cut ⟨k + 1, ⟨⟨rfl, rfl, rfl⟩, rfl, (by omega)⟩, (show xs.length + 12 - (k + 1) < xs.length + 12 - k from by omega)⟩
 refine c_exit ?_
 refine f_then_exit ?_
 refine f_then_exit ?_
 refine f_exit ?_
 refine ftc ?_
 refine lv (v := .bool true) e_assign ?_
 refine lnf ?_
 refine c_ret ?_
 refine ret1 Tryz.results60 (v := .bool true) rfl ?_
 intro w hw
 exact ⟨rfl, st_mask [] rfl hw⟩
theorem overR_ok (β : Base) (w : World) (p : Option Addr) (c n : Nat) (ys : List KR) (hyl : ys.length = n + 12) (hn : n ≤ 1000000) (hw : St β [rowF RopeF 42 p c ys] w) : Calls Tryz.prog 62 #[.slice p n c] w fun r w' => ∃ zs, r = .returned (.tuple #[]) ∧ St β [rowF RopeF 42 p c zs] w' := by
 refine enter (n := 23) Tryz.func62 rfl Tryz.ntmps62 rfl ?_ hw
 refine c_seq ?_
 refine c_rowcap 0 rfl (fun hcl hcm => ?_)
 have hcm2 : c ≤ 9223372036854775807 := by unfold maxLen at hcm; omega
 refine c_region ?_
 refine lv (v := .slice p (n) c) e_move ?_
 refine lv (v := .slice p (n) c) e_move ?_
 refine lv (v := Nx (c)) (e_cap (a := p) (n := n) (c := c) rfl ua45) ?_
 refine lv (v := .slice p (n) c) e_move ?_
 refine lv (v := Nx (n)) (e_len (a := p) (n := n) (c := c) rfl ua45) ?_
 refine lv (v := Nx (n + 12)) (e_add (a := ((n : Nat) : Int)) (b := (12 : Int)) rfl rfl (i64n (by omega) (by omega))) ?_
 refine lv (v := Nx (min c (n + 12))) (ev_eq (congrArg (Value.int .i64) (by omega)) (e_min (a := ((c : Nat) : Int)) (b := ((n + 12 : Nat) : Int)) rfl rfl)) ?_
 refine lv (v := .slice p (min c (n + 12)) c) (e_slice_hi (a := p) (len := n) (cap := c) (h := min c (n + 12)) ua46 rfl rfl (by omega)) ?_
 refine lv (v := .slice p (min c (n + 12)) c) e_assign ?_
 refine lnc ?_
 refine lv (v := .int .i64 (0)) e_assign ?_
 refine lnf ?_
 refine c_block ?_
 refine c_loop (fun (x_ : Nat × List KR) (f : Fm) (L : List Res) => match x_ with | (k, zs) => (f 2 = .slice p (min c (n + 12)) c ∧ f 3 = Nx (k)) ∧ L = [rowF RopeF 42 p c zs] ∧ (k ≤ min c (n + 12) ∧ zs.length = n + 12)) (fun (x_ : Nat × List KR) => match x_ with | (k, zs) => min c (n + 12) - k) (0, ys) ?_ ?_
 ·exact ⟨⟨rfl, rfl⟩, rfl, ⟨by omega, hyl⟩⟩
 rintro ⟨k, zs⟩ f0 L0 ⟨⟨hs2, hs3⟩, hL, ⟨hk, hzl⟩⟩
 subst L0
 refine rebase (d := 2) hs2 ?_
 refine rebase (d := 3) hs3 ?_
 clear hs2 hs3
 refine cs2 ?_
 refine c_region ?_
 refine lv (v := Nx (k)) e_move ?_
 refine lv (v := .slice p (min c (n + 12)) c) e_move ?_
 refine lv (v := Nx (min c (n + 12))) (e_len (a := p) (n := min c (n + 12)) (c := c) rfl ua45) ?_
 refine lv (e_lss (a := ((k : Nat) : Int)) (b := ((min c (n + 12) : Nat) : Int)) rfl rfl) ?_
 refine lnf ?_
 refine c_if (((k : Nat) : Int) < ((min c (n + 12) : Nat) : Int)) rfl (fun hc1 => ?_) (fun hc1 => ?_)
 ·refine csk ?_
  refine c_seq ?_
  refine c_block ?_
  refine c_region ?_
  refine lv (v := .slice p (min c (n + 12)) c) e_move ?_
  refine lv (v := Nx (k)) e_move ?_
  refine lv (v := Nx (k)) e_move ?_
  refine lcf (cl0 (vs := [.int .i64 (2), Nx (k)]) ua136 rfl rfl) rfl fun w β1 sb kn hw1 back => (markR_ok β1 w hw1 (2 : Int) ((k : Nat) : Int) (by omega) (by omega)).mono ?_
  rintro e w' ⟨rfl, hw'⟩
  refine ⟨_, rfl, _, back _ _ hw', ?_⟩
  clear hw1 hw' back kn sb
  refine lv (v := .pointer (some ((ba p).add (k * 3)))) (e_indexFlN 0 (F := RopeF) (j := k) (m := min c (n + 12)) (xs := zs) rfl (by omega) rfl ua46 (by omega) rfl) ?_
  refine lu (m_storeFl 0 (F := RopeF) (p := p) (k := k) (xs := zs) (z := (markR 2 ((k : Nat) : Int))) ua47 rfl rfl rfl rfl (by omega)) ?_
  refine l_nil ?_
  refine f_block ?_
  refine f_then ?_
  refine c_region ?_
  refine lv (v := Nx (k)) e_move ?_
  refine lv (v := Nx (k + 1)) (e_add (a := ((k : Nat) : Int)) (b := (1 : Int)) rfl rfl (i64n (by omega) (by omega))) ?_
  refine lv (v := Nx (k + 1)) e_assign ?_
  refine l_nil ?_
  exact f_cut ⟨(k + 1, (zs.set k (markR 2 ((k : Nat) : Int)))), ⟨⟨rfl, rfl⟩, rfl, ⟨by omega, by simp only [sB, List.length_set]; exact hzl⟩⟩, (show min c (n + 12) - (k + 1) < min c (n + 12) - k from by omega)⟩
 refine c_exit ?_
 refine f_then_exit ?_
 refine f_then_exit ?_
 refine f_exit ?_
 refine end0 Tryz.results62 ?_
 intro w hw
 exact ⟨zs, rfl, st_mask [true] rfl hw⟩
end Go.Proofs
namespace Go.Proofs
open Go Go.Sl Go.Stp
theorem el_same {α : Type} {xs : List α} {k : Nat} {a b : α} (h1 : xs[k]? = some a) (h2 : xs[k]? = some b) : a = b := by rw [h1] at h2; injection h2
theorem ua140 : cfB Tryz.prog 57 = true := by kernel_rfl
theorem ua141 : cfB Tryz.prog 58 = true := by kernel_rfl
theorem ua142 : cfB Tryz.prog 48 = true := by kernel_rfl
theorem ua143 : cfB Tryz.prog 49 = true := by kernel_rfl
theorem ua144 : cfB Tryz.prog 24 = true := by kernel_rfl
theorem ua145 : cfB Tryz.prog 59 = true := by kernel_rfl
theorem ua146 : cfB Tryz.prog 60 = true := by kernel_rfl
theorem ua147 : cfB Tryz.prog 61 = true := by kernel_rfl
theorem ua148 : cfB Tryz.prog 62 = true := by kernel_rfl
set_option maxHeartbeats 4000000 in
theorem eqB_ok (β : Base) (w : World) (hw : St β [] w) (v u : Value) (xs : List KB) (hs : Sl KBR β.heap v xs) (hu : Sl KBR β.heap u xs) : Calls Tryz.prog 57 #[v, u] w fun r w' => r = .returned (.bool true) ∧ St β [] w' := by
 obtain ⟨va, vc, rfl, vl, vm, ve⟩ := hs.get
 obtain ⟨ua, uc, rfl, ul, um, ue⟩ := hu.get
 refine enter (n := 26) Tryz.func57 rfl Tryz.ntmps57 rfl ?_ hw
 refine csr ?_
 refine l_val (v := .bool false) rfl rfl rfl e_assign ?_
 refine lnf ?_
 refine cs2 ?_
 refine c_region ?_
 refine lv (v := sB va xs (vc)) e_move ?_
 refine lv (v := Nx (xs.length)) (e_len (a := va) (n := xs.length) (c := vc) rfl ua40) ?_
 refine lv (v := sB ua xs (uc)) e_move ?_
 refine lv (v := Nx (xs.length)) (e_len (a := ua) (n := xs.length) (c := uc) rfl ua40) ?_
 refine lv (e_neq (a := ((xs.length : Nat) : Int)) (b := ((xs.length : Nat) : Int)) rfl rfl) ?_
 refine lnf ?_
 refine c_if (((xs.length : Nat) : Int) ≠ ((xs.length : Nat) : Int)) rfl (fun hc1 => ?_) (fun hc1 => ?_)
 ·exact absurd hc1 (by omega)
 refine csk ?_
 refine cs2 ?_
 refine c_region ?_
 refine l_val (v := .int .i64 (0)) rfl rfl rfl e_assign ?_
 refine lnf ?_
 refine c_block ?_
 refine c_loop (fun (k : Nat) (f : Fm) (L : List Res) => (f 0 = sB va xs (vc) ∧ f 1 = sB ua xs (uc) ∧ f 5 = Nx (k)) ∧ L = [] ∧ (k ≤ xs.length)) (fun (k : Nat) => xs.length - k) 0 ?_ ?_
 ·exact ⟨⟨rfl, rfl, rfl⟩, rfl, (by omega)⟩
 rintro k f0 L0 ⟨⟨hs0, hs1, hs5⟩, hL, hk⟩
 subst L0
 refine rebase (d := 0) hs0 ?_
 refine rebase (d := 1) hs1 ?_
 refine rebase (d := 5) hs5 ?_
 clear hs0 hs1 hs5
 refine cs2 ?_
 refine c_region ?_
 refine lv (v := Nx (k)) e_move ?_
 refine lv (v := sB va xs (vc)) e_move ?_
 refine lv (v := Nx (xs.length)) (e_len (a := va) (n := xs.length) (c := vc) rfl ua40) ?_
 refine lv (e_lss (a := ((k : Nat) : Int)) (b := ((xs.length : Nat) : Int)) rfl rfl) ?_
 refine lnf ?_
 refine c_if (((k : Nat) : Int) < ((xs.length : Nat) : Int)) rfl (fun hc2 => ?_) (fun hc2 => ?_)
 ·refine csk ?_
  refine c_seq ?_
  refine c_block ?_
  refine c_seq ?_
  refine c_quiet (by kernel_rfl) (by kernel_rfl) ?_
  refine q_val (v := sB va xs (vc)) rfl rfl rfl e_move ?_
  refine q_val (v := Nx (k)) rfl rfl rfl e_move ?_
  obtain ⟨x3, hx4⟩ : ∃ x_, (xs)[k]? = some x_ := ⟨_, List.getElem?_eq_getElem (by omega)⟩
  obtain ⟨ha5, cs6, hc7, rfl⟩ := ve _ _ hx4
  refine q_val (v := .pointer (some ((ba va).add (k * 9)))) rfl rfl rfl (e_indexAddr (k := k) (len := xs.length) (cap := vc) (a := va) rfl rfl ua43 (by omega) ha5) ?_
  refine q_val (v := .agg (bC x3)) rfl rfl rfl (e_load ua22 rfl (kB hc7) rfl) ?_
  refine q_val (v := sB ua xs (uc)) rfl rfl rfl e_move ?_
  refine q_val (v := Nx (k)) rfl rfl rfl e_move ?_
  obtain ⟨x9, hx10⟩ : ∃ x_, (xs)[k]? = some x_ := ⟨_, List.getElem?_eq_getElem (by omega)⟩
  obtain ⟨ha11, cs12, hc13, rfl⟩ := ue _ _ hx10
  refine q_val (v := .pointer (some ((ba ua).add (k * 9)))) rfl rfl rfl (e_indexAddr (k := k) (len := xs.length) (cap := uc) (a := ua) rfl rfl ua43 (by omega) ha11) ?_
  refine q_val (v := .agg (bC x9)) rfl rfl rfl (e_load ua22 rfl (kB hc13) rfl) ?_
  refine q_val (v := .bool (decide (¬ (x3 = x9)))) rfl rfl rfl (e_neq_t (xs := (bodyE x3)) (ys := (bodyE x9)) ua133 ua134 ua135 rfl rfl rfl rfl (not_congr body_eq)) ?_
  refine q_nil ?_
  refine f_then ?_
  refine c_if (¬ (x3 = x9)) rfl (fun hc15 => ?_) (fun hc15 => ?_)
  ·exact absurd hc15 (Decidable.not_not.2 (el_same hx4 hx10))
  refine c_skip ?_
  refine f_block ?_
  refine f_then ?_
  refine c_region ?_
  refine lv (v := Nx (k)) e_move ?_
  refine lv (v := Nx (k + 1)) (e_add (a := ((k : Nat) : Int)) (b := (1 : Int)) rfl rfl (i64n (by omega) (by omega))) ?_
  refine lv (v := Nx (k + 1)) e_assign ?_
  refine l_nil ?_
  exact f_cut ⟨k + 1, ⟨⟨rfl, rfl, rfl⟩, rfl, (by omega)⟩, (show xs.length - (k + 1) < xs.length - k from by omega)⟩
 refine c_exit ?_
 refine f_then_exit ?_
 refine f_then_exit ?_
 refine f_exit ?_
 refine ftc ?_
 refine lv (v := .bool true) e_assign ?_
 refine lnf ?_
 refine c_ret ?_
 refine ret1 Tryz.results57 (v := .bool true) rfl ?_
 intro w hw
 exact ⟨rfl, st_mask [] rfl hw⟩
set_option maxHeartbeats 4000000 in
theorem eqR_ok (β : Base) (w : World) (hw : St β [] w) (v u : Value) (xs : List KR) (hs : Sl KRR β.heap v xs) (hu : Sl KRR β.heap u xs) : Calls Tryz.prog 58 #[v, u] w fun r w' => r = .returned (.bool true) ∧ St β [] w' := by
 obtain ⟨va, vc, rfl, vl, vm, ve⟩ := hs.get
 obtain ⟨ua, uc, rfl, ul, um, ue⟩ := hu.get
 refine enter (n := 26) Tryz.func58 rfl Tryz.ntmps58 rfl ?_ hw
 refine csr ?_
 refine l_val (v := .bool false) rfl rfl rfl e_assign ?_
 refine lnf ?_
 refine cs2 ?_
 refine c_region ?_
 refine lv (v := sB va xs (vc)) e_move ?_
 refine lv (v := Nx (xs.length)) (e_len (a := va) (n := xs.length) (c := vc) rfl ua45) ?_
 refine lv (v := sB ua xs (uc)) e_move ?_
 refine lv (v := Nx (xs.length)) (e_len (a := ua) (n := xs.length) (c := uc) rfl ua45) ?_
 refine lv (e_neq (a := ((xs.length : Nat) : Int)) (b := ((xs.length : Nat) : Int)) rfl rfl) ?_
 refine lnf ?_
 refine c_if (((xs.length : Nat) : Int) ≠ ((xs.length : Nat) : Int)) rfl (fun hc1 => ?_) (fun hc1 => ?_)
 ·exact absurd hc1 (by omega)
 refine csk ?_
 refine cs2 ?_
 refine c_region ?_
 refine l_val (v := .int .i64 (0)) rfl rfl rfl e_assign ?_
 refine lnf ?_
 refine c_block ?_
 refine c_loop (fun (k : Nat) (f : Fm) (L : List Res) => (f 0 = sB va xs (vc) ∧ f 1 = sB ua xs (uc) ∧ f 5 = Nx (k)) ∧ L = [] ∧ (k ≤ xs.length)) (fun (k : Nat) => xs.length - k) 0 ?_ ?_
 ·exact ⟨⟨rfl, rfl, rfl⟩, rfl, (by omega)⟩
 rintro k f0 L0 ⟨⟨hs0, hs1, hs5⟩, hL, hk⟩
 subst L0
 refine rebase (d := 0) hs0 ?_
 refine rebase (d := 1) hs1 ?_
 refine rebase (d := 5) hs5 ?_
 clear hs0 hs1 hs5
 refine cs2 ?_
 refine c_region ?_
 refine lv (v := Nx (k)) e_move ?_
 refine lv (v := sB va xs (vc)) e_move ?_
 refine lv (v := Nx (xs.length)) (e_len (a := va) (n := xs.length) (c := vc) rfl ua45) ?_
 refine lv (e_lss (a := ((k : Nat) : Int)) (b := ((xs.length : Nat) : Int)) rfl rfl) ?_
 refine lnf ?_
 refine c_if (((k : Nat) : Int) < ((xs.length : Nat) : Int)) rfl (fun hc2 => ?_) (fun hc2 => ?_)
 ·refine csk ?_
  refine c_seq ?_
  refine c_block ?_
  refine c_seq ?_
  refine c_quiet (by kernel_rfl) (by kernel_rfl) ?_
  refine q_val (v := sB va xs (vc)) rfl rfl rfl e_move ?_
  refine q_val (v := Nx (k)) rfl rfl rfl e_move ?_
  obtain ⟨x3, hx4⟩ : ∃ x_, (xs)[k]? = some x_ := ⟨_, List.getElem?_eq_getElem (by omega)⟩
  obtain ⟨ha5, cs6, hc7, rfl⟩ := ve _ _ hx4
  refine q_val (v := .pointer (some ((ba va).add (k * 3)))) rfl rfl rfl (e_indexAddr (k := k) (len := xs.length) (cap := vc) (a := va) rfl rfl ua46 (by omega) ha5) ?_
  refine q_val (v := .agg #[Ix (x3.a), Ix (x3.b), Ix (x3.len)]) rfl rfl rfl (e_load ua47 rfl (kB hc7) rfl) ?_
  refine q_val (v := sB ua xs (uc)) rfl rfl rfl e_move ?_
  refine q_val (v := Nx (k)) rfl rfl rfl e_move ?_
  obtain ⟨x9, hx10⟩ : ∃ x_, (xs)[k]? = some x_ := ⟨_, List.getElem?_eq_getElem (by omega)⟩
  obtain ⟨ha11, cs12, hc13, rfl⟩ := ue _ _ hx10
  refine q_val (v := .pointer (some ((ba ua).add (k * 3)))) rfl rfl rfl (e_indexAddr (k := k) (len := xs.length) (cap := uc) (a := ua) rfl rfl ua46 (by omega) ha11) ?_
  refine q_val (v := .agg #[Ix (x9.a), Ix (x9.b), Ix (x9.len)]) rfl rfl rfl (e_load ua47 rfl (kB hc13) rfl) ?_
  refine q_val (v := .bool (decide (¬ (x3 = x9)))) rfl rfl rfl (e_neq_t (xs := [Ix (x3.a), Ix (x3.b), Ix (x3.len)]) (ys := [Ix (x9.a), Ix (x9.b), Ix (x9.len)]) ua137 ua138 ua139 rfl rfl rfl rfl (not_congr rope_eq)) ?_
  refine q_nil ?_
  refine f_then ?_
  refine c_if (¬ (x3 = x9)) rfl (fun hc15 => ?_) (fun hc15 => ?_)
  ·exact absurd hc15 (Decidable.not_not.2 (el_same hx4 hx10))
  refine c_skip ?_
  refine f_block ?_
  refine f_then ?_
  refine c_region ?_
  refine lv (v := Nx (k)) e_move ?_
  refine lv (v := Nx (k + 1)) (e_add (a := ((k : Nat) : Int)) (b := (1 : Int)) rfl rfl (i64n (by omega) (by omega))) ?_
  refine lv (v := Nx (k + 1)) e_assign ?_
  refine l_nil ?_
  exact f_cut ⟨k + 1, ⟨⟨rfl, rfl, rfl⟩, rfl, (by omega)⟩, (show xs.length - (k + 1) < xs.length - k from by omega)⟩
 refine c_exit ?_
 refine f_then_exit ?_
 refine f_then_exit ?_
 refine f_exit ?_
 refine ftc ?_
 refine lv (v := .bool true) e_assign ?_
 refine lnf ?_
 refine c_ret ?_
 refine ret1 Tryz.results58 (v := .bool true) rfl ?_
 intro w hw
 exact ⟨rfl, st_mask [] rfl hw⟩
theorem eqScene_ok (β : Base) (w : World) (hw : St β [] w) (v rv u ru : Value) (gx gy : Int) (bs : List KB) (rs : List KR) (hs : Sl KBR β.heap v bs) (hr : Sl KRR β.heap rv rs) (hu : Sl KBR β.heap u bs) (hq : Sl KRR β.heap ru rs) : Calls Tryz.prog 24 #[.agg #[v, rv, Ix gx, Ix gy], .agg #[u, ru, Ix gx, Ix gy]] w fun r w' => r = .returned (.bool true) ∧ St β [] w' := by
 obtain ⟨va, vc, rfl, vl, vm, ve⟩ := hs.get
 obtain ⟨rva, rvc, rfl, rvl, rvm, rve⟩ := hr.get
 obtain ⟨ua, uc, rfl, ul, um, ue⟩ := hu.get
 obtain ⟨rua, ruc, rfl, rul, rum, rue⟩ := hq.get
 refine enter (n := 24) Tryz.func24 rfl Tryz.ntmps24 rfl ?_ hw
 refine csr ?_
 refine l_mv rfl rfl rfl (m_box (v := .agg #[sB va bs (vc), sB rva rs (rvc), Ix (gx), Ix (gy)]) rfl) ?_
 rintro _ _ ⟨b1, rfl, rfl⟩
 refine l_mv rfl rfl rfl (m_box (v := .agg #[sB ua bs (uc), sB rua rs (ruc), Ix (gx), Ix (gy)]) rfl) ?_
 rintro _ _ ⟨b2, rfl, rfl⟩
 refine lv (v := .bool false) e_assign ?_
 refine lnc ?_
 refine lv (v := pp b1 0) (e_fieldPt rfl ua49) ?_
 refine lv (v := sB va bs (vc)) (e_load1 ua50 rfl (k_pt 1 rfl rfl)) ?_
 refine lv (v := pp b2 0) (e_fieldPt rfl ua49) ?_
 refine lv (v := sB ua bs (uc)) (e_load1 ua50 rfl (k_pt 0 rfl rfl)) ?_
 refine lcf (cl0 (vs := [sB va bs (vc), sB ua bs (uc)]) ua140 rfl rfl) rfl fun w β1 sb kn hw1 back => (eqB_ok β1 w hw1 _ _ bs (Sl.mono _ _ _ _ _ sb (⟨⟨_, _, rfl, vl, vm, ve⟩⟩ : Sl KBR _ _ bs)) (Sl.mono _ _ _ _ _ sb (⟨⟨_, _, rfl, ul, um, ue⟩⟩ : Sl KBR _ _ bs))).mono ?_
 rintro e w' ⟨rfl, hw'⟩
 refine ⟨_, rfl, _, back _ _ hw', ?_⟩
 clear hw1 hw' back kn sb
 refine lv (v := .bool true) e_move ?_
 refine g_val (v := pp b1 1) rfl rfl rfl rfl rfl (e_fieldPt rfl ua55) ?_
 refine g_val (v := sB rva rs (rvc)) rfl rfl rfl rfl rfl (e_load1 ua56 rfl (k_pt 1 rfl rfl)) ?_
 refine g_val (v := pp b2 1) rfl rfl rfl rfl rfl (e_fieldPt rfl ua55) ?_
 refine g_val (v := sB rua rs (ruc)) rfl rfl rfl rfl rfl (e_load1 ua56 rfl (k_pt 0 rfl rfl)) ?_
 refine g_call rfl rfl rfl rfl rfl (cl0 (vs := [sB rva rs (rvc), sB rua rs (ruc)]) ua141 rfl rfl) ?_
 intro w hw
 obtain ⟨β1, sb, kn, hw1, back⟩ := St.frame_all hw
 refine (eqR_ok β1 w hw1 _ _ rs (Sl.mono _ _ _ _ _ sb (⟨⟨_, _, rfl, rvl, rvm, rve⟩⟩ : Sl KRR _ _ rs)) (Sl.mono _ _ _ _ _ sb (⟨⟨_, _, rfl, rul, rum, rue⟩⟩ : Sl KRR _ _ rs))).mono ?_
 rintro e w' ⟨rfl, hw'⟩
 refine ⟨_, rfl, _, back _ _ hw', ?_⟩
 clear hw hw1 hw' back kn sb
 refine lv (v := .bool true) (e_pick_t rfl) ?_
 refine lv (v := .bool true) e_move ?_
 refine g_val (v := pp b1 2) rfl rfl rfl rfl rfl (e_fieldPt rfl ua57) ?_
 refine g_val (v := .agg #[Ix (gx), Ix (gy)]) rfl rfl rfl rfl rfl (e_load ua15 rfl (k_pt 1 rfl rfl) rfl) ?_
 refine g_val (v := pp b2 2) rfl rfl rfl rfl rfl (e_fieldPt rfl ua57) ?_
 refine g_val (v := .agg #[Ix (gx), Ix (gy)]) rfl rfl rfl rfl rfl (e_load ua15 rfl (k_pt 0 rfl rfl) rfl) ?_
 refine g_val (v := .bool (decide ((gx) = (gx) ∧ (gy) = (gy)))) rfl rfl rfl rfl rfl (e_eql_t (xs := [Ix (gx), Ix (gy)]) (ys := [Ix (gx), Ix (gy)]) ua18 ua19 ua20 rfl rfl rfl rfl vec_eq) ?_
 refine lv (v := .bool (decide ((gx) = (gx) ∧ (gy) = (gy)))) (e_pick_t rfl) ?_
 refine lv (v := .bool (decide ((gx) = (gx) ∧ (gy) = (gy)))) e_assign ?_
 refine lnf ?_
 refine c_ret ?_
 refine ret1 Tryz.results24 (v := .bool (decide ((gx) = (gx) ∧ (gy) = (gy)))) rfl ?_
 intro w hw
 exact ⟨by first | rfl | simp, st_mask [false, false] rfl hw⟩
theorem lentS_ok (β : Base) (w : World) (hw : St β [] w) (v rv : Value) (gx gy : Int) (bs : List KB) (rs : List KR) (hs : Sl KBR β.heap v bs) (hr : Sl KRR β.heap rv rs) (hbn : bs.length ≤ 1048576) (hrn : rs.length ≤ 1048576) : Calls Tryz.prog 16 #[.agg #[v, rv, Ix gx, Ix gy]] w fun r w' => ∃ p c q d, r = .returned (.agg #[sB p bs c, sB q rs d, Ix gx, Ix gy]) ∧ St β [rowF BodyF 33 p c (lentL (markB 1) bs), rowF RopeF 42 q d (lentL (markR 1) rs)] w' := by
 obtain ⟨va, vc, rfl, vl, vm, ve⟩ := hs.get
 obtain ⟨rva, rvc, rfl, rvl, rvm, rve⟩ := hr.get
 refine enter (n := 12) Tryz.func16 rfl Tryz.ntmps16 rfl ?_ hw
 refine csr ?_
 refine l_mv rfl rfl rfl (m_box (v := .agg #[sB va bs (vc), sB rva rs (rvc), Ix (gx), Ix (gy)]) rfl) ?_
 rintro _ _ ⟨b1, rfl, rfl⟩
 refine l_mv rfl rfl rfl (m_alloc ua85) ?_
 rintro _ _ ⟨b2, rfl, rfl⟩
 refine lnc ?_
 refine lv (v := pp b1 0) (e_fieldPt rfl ua49) ?_
 refine lv (v := sB va bs (vc)) (e_load1 ua50 rfl (k_pt 1 rfl rfl)) ?_
 refine lcf (cl0 (vs := [sB va bs (vc)]) ua142 rfl rfl) rfl fun w β1 sb kn hw1 back => (lentB_ok β1 w hw1 _ bs (Sl.mono _ _ _ _ _ sb (⟨⟨_, _, rfl, vl, vm, ve⟩⟩ : Sl KBR _ _ bs)) (by omega)).mono ?_
 rintro e w' ⟨p3, c4, rfl, hw'⟩
 refine ⟨_, rfl, _, back _ _ hw', ?_⟩
 clear hw1 hw' back kn sb
 refine lv (v := pp b1 0) (e_fieldPt rfl ua49) ?_
 refine lu (m_store 2 ua50 (cs' := #[sB p3 bs c4, sB rva rs (rvc), Ix (gx), Ix (gy)]) rfl rfl rfl rfl rfl rfl rfl) ?_
 refine lnc ?_
 refine lv (v := pp b1 1) (e_fieldPt rfl ua55) ?_
 refine lv (v := sB rva rs (rvc)) (e_load1 ua56 rfl (k_pt 2 rfl rfl)) ?_
 refine lcf (cl0 (vs := [sB rva rs (rvc)]) ua143 rfl rfl) rfl fun w β1 sb kn hw1 back => (lentR_ok β1 w hw1 _ rs (Sl.mono _ _ _ _ _ sb (⟨⟨_, _, rfl, rvl, rvm, rve⟩⟩ : Sl KRR _ _ rs)) (by omega)).mono ?_
 rintro e w' ⟨p5, c6, rfl, hw'⟩
 refine ⟨_, rfl, _, back _ _ hw', ?_⟩
 clear hw1 hw' back kn sb
 refine lv (v := pp b1 1) (e_fieldPt rfl ua55) ?_
 refine lu (m_store 3 ua56 (cs' := #[sB p3 bs c4, sB p5 rs c6, Ix (gx), Ix (gy)]) rfl rfl rfl rfl rfl rfl rfl) ?_
 refine lnc ?_
 refine lv (v := .agg #[sB p3 bs c4, sB p5 rs c6, Ix (gx), Ix (gy)]) (e_load ua86 rfl (k_pt 3 rfl rfl) rfl) ?_
 refine lu (m_store 2 ua86 (cs' := #[sB p3 bs c4, sB p5 rs c6, Ix (gx), Ix (gy)]) rfl rfl rfl rfl rfl rfl rfl) ?_
 refine lnf ?_
 refine c_ret ?_
 refine retG (m := [.agg #[sB p3 bs c4, sB p5 rs c6, Ix (gx), Ix (gy)]]) Tryz.results16 ⟨rd_cell ua86 rfl (k_pt 2 rfl rfl) rfl, trivial⟩ rfl ?_
 intro w hw
 have hw2 := st_mask (L' := [rowF RopeF 42 p5 c6 (lentL (markR 1) rs), rowF BodyF 33 p3 c4 (lentL (markB 1) bs)]) [true, true, false, false] rfl hw
 exact ⟨_, _, _, _, rfl, hw2.perm (perm_ix [1, 0] 2 rfl (by kernel_rfl) (by kernel_rfl))⟩
theorem keptS_ok (β : Base) (w : World) (hw : St β [] w) (p q : Option Addr) (c d : Nat) (u ru : Value) (gx gy : Int) (bs : List KB) (rs : List KR) (hbn : bs.length ≤ 1048576) (hrn : rs.length ≤ 1048576) (hlb : Sl KBR β.heap (sB p (lentL (markB 1) bs) c) (lentL (markB 1) bs)) (hlr : Sl KRR β.heap (sB q (lentL (markR 1) rs) d) (lentL (markR 1) rs)) (hu : Sl KBR β.heap u bs) (hq : Sl KRR β.heap ru rs) : Calls Tryz.prog 25 #[.agg #[sB p bs c, sB q rs d, Ix gx, Ix gy], .agg #[u, ru, Ix gx, Ix gy]] w fun r w' => r = .returned (.bool true) ∧ St β [] w' := by
 obtain ⟨ua, uc, rfl, ul, um, ue⟩ := hu.get
 obtain ⟨rua, ruc, rfl, rul, rum, rue⟩ := hq.get
 refine enter (n := 22) Tryz.func25 rfl Tryz.ntmps25 rfl ?_ hw
 refine csr ?_
 refine l_mv rfl rfl rfl (m_box (v := .agg #[sB p bs (c), sB q rs (d), Ix (gx), Ix (gy)]) rfl) ?_
 rintro _ _ ⟨b1, rfl, rfl⟩
 refine l_mv rfl rfl rfl (m_box (v := .agg #[sB ua bs (uc), sB rua rs (ruc), Ix (gx), Ix (gy)]) rfl) ?_
 rintro _ _ ⟨b2, rfl, rfl⟩
 refine lv (v := .bool false) e_assign ?_
 refine lnc ?_
 refine lv (v := .agg #[sB p bs (c), sB q rs (d), Ix (gx), Ix (gy)]) (e_load ua86 rfl (k_pt 1 rfl rfl) rfl) ?_
 refine lv (v := .agg #[sB ua bs (uc), sB rua rs (ruc), Ix (gx), Ix (gy)]) (e_load ua86 rfl (k_pt 0 rfl rfl) rfl) ?_
 refine lcf (cl0 (vs := [.agg #[sB p bs (c), sB q rs (d), Ix (gx), Ix (gy)], .agg #[sB ua bs (uc), sB rua rs (ruc), Ix (gx), Ix (gy)]]) ua144 rfl rfl) rfl fun w β1 sb kn hw1 back => (eqScene_ok β1 w hw1 _ _ _ _ (gx) (gy) bs rs (Sl.mono _ _ _ _ _ sb (sl_pre hlb)) (Sl.mono _ _ _ _ _ sb (sl_pre hlr)) (Sl.mono _ _ _ _ _ sb (⟨⟨_, _, rfl, ul, um, ue⟩⟩ : Sl KBR _ _ bs)) (Sl.mono _ _ _ _ _ sb (⟨⟨_, _, rfl, rul, rum, rue⟩⟩ : Sl KRR _ _ rs))).mono ?_
 rintro e w' ⟨rfl, hw'⟩
 refine ⟨_, rfl, _, back _ _ hw', ?_⟩
 clear hw1 hw' back kn sb
 refine lv (v := .bool true) e_move ?_
 refine g_val (v := pp b1 0) rfl rfl rfl rfl rfl (e_fieldPt rfl ua49) ?_
 refine g_val (v := sB p bs (c)) rfl rfl rfl rfl rfl (e_load1 ua50 rfl (k_pt 1 rfl rfl)) ?_
 refine g_val (v := pp b2 0) rfl rfl rfl rfl rfl (e_fieldPt rfl ua49) ?_
 refine g_val (v := sB ua bs (uc)) rfl rfl rfl rfl rfl (e_load1 ua50 rfl (k_pt 0 rfl rfl)) ?_
 refine g_call rfl rfl rfl rfl rfl (cl0 (vs := [sB p bs (c), sB ua bs (uc)]) ua145 rfl rfl) ?_
 intro w hw
 obtain ⟨β1, sb, kn, hw1, back⟩ := St.frame_all hw
 refine (keptB_ok β1 w hw1 _ _ _ bs (by omega) (Sl.mono _ _ _ _ _ sb hlb) (Sl.mono _ _ _ _ _ sb (⟨⟨_, _, rfl, ul, um, ue⟩⟩ : Sl KBR _ _ bs))).mono ?_
 rintro e w' ⟨rfl, hw'⟩
 refine ⟨_, rfl, _, back _ _ hw', ?_⟩
 clear hw hw1 hw' back kn sb
 refine lv (v := .bool true) (e_pick_t rfl) ?_
 refine lv (v := .bool true) e_move ?_
 refine g_val (v := pp b1 1) rfl rfl rfl rfl rfl (e_fieldPt rfl ua55) ?_
 refine g_val (v := sB q rs (d)) rfl rfl rfl rfl rfl (e_load1 ua56 rfl (k_pt 1 rfl rfl)) ?_
 refine g_val (v := pp b2 1) rfl rfl rfl rfl rfl (e_fieldPt rfl ua55) ?_
 refine g_val (v := sB rua rs (ruc)) rfl rfl rfl rfl rfl (e_load1 ua56 rfl (k_pt 0 rfl rfl)) ?_
 refine g_call rfl rfl rfl rfl rfl (cl0 (vs := [sB q rs (d), sB rua rs (ruc)]) ua146 rfl rfl) ?_
 intro w hw
 obtain ⟨β1, sb, kn, hw1, back⟩ := St.frame_all hw
 refine (keptR_ok β1 w hw1 _ _ _ rs (by omega) (Sl.mono _ _ _ _ _ sb hlr) (Sl.mono _ _ _ _ _ sb (⟨⟨_, _, rfl, rul, rum, rue⟩⟩ : Sl KRR _ _ rs))).mono ?_
 rintro e w' ⟨rfl, hw'⟩
 refine ⟨_, rfl, _, back _ _ hw', ?_⟩
 clear hw hw1 hw' back kn sb
 refine lv (v := .bool true) (e_pick_t rfl) ?_
 refine lv (v := .bool true) e_assign ?_
 refine lnf ?_
 refine c_ret ?_
 refine ret1 Tryz.results25 (v := .bool true) rfl ?_
 intro w hw
 exact ⟨rfl, st_mask [false, false] rfl hw⟩
theorem overS_ok (β : Base) (w : World) (p q : Option Addr) (c d n m : Nat) (gx gy : Int) (ys : List KB) (us : List KR) (hlB : ys.length = n + 12) (hlR : us.length = m + 12) (hn : n ≤ 1000000) (hm : m ≤ 1000000) (hw : St β [rowF BodyF 33 p c ys, rowF RopeF 42 q d us] w) : Calls Tryz.prog 27 #[.agg #[.slice p n c, .slice q m d, Ix gx, Ix gy]] w fun r w' => ∃ zs ts, r = .returned (.tuple #[]) ∧ St β [rowF BodyF 33 p c zs, rowF RopeF 42 q d ts] w' := by
 refine enter (n := 8) Tryz.func27 rfl Tryz.ntmps27 rfl ?_ hw
 refine csr ?_
 refine l_mv rfl rfl rfl (m_box (v := .agg #[.slice p (n) c, .slice q (m) d, Ix (gx), Ix (gy)]) rfl) ?_
 rintro _ _ ⟨b1, rfl, rfl⟩
 refine lnc ?_
 refine lv (v := pp b1 0) (e_fieldPt rfl ua49) ?_
 refine lv (v := .slice p (n) c) (e_load1 ua50 rfl (k_pt 0 rfl rfl)) ?_
 refine l_call rfl rfl rfl (cl0 (vs := [.slice p (n) c]) ua147 rfl rfl) ?_
 intro w hw
 replace hw := hw.perm (L' := _ :: _ :: _ :: []) (by exact (((perm_front 2 rfl).trans (perm_front 1 rfl)).trans (perm_front 2 rfl)))
 obtain ⟨β1, sb, kn, hw1, back⟩ := St.frame (L := [_]) (M := _ :: _ :: []) hw
 refine (overB_ok β1 w _ _ _ ys hlB (by omega) hw1).mono ?_
 rintro e w' ⟨zs2, rfl, hw'⟩
 refine ⟨_, rfl, _, back _ _ hw', ?_⟩
 clear hw hw1 hw' back kn sb
 refine lnr ?_
 refine lv (v := pp b1 1) (e_fieldPt rfl ua55) ?_
 refine lv (v := .slice q (m) d) (e_load1 ua56 rfl (k_pt 1 rfl rfl)) ?_
 refine l_call rfl rfl rfl (cl0 (vs := [.slice q (m) d]) ua148 rfl rfl) ?_
 intro w hw
 replace hw := hw.perm (L' := _ :: _ :: _ :: []) (by exact (((perm_front 1 rfl).trans (perm_front 1 rfl)).trans (perm_front 2 rfl)))
 obtain ⟨β1, sb, kn, hw1, back⟩ := St.frame (L := [_]) (M := _ :: _ :: []) hw
 refine (overR_ok β1 w _ _ _ us hlR (by omega) hw1).mono ?_
 rintro e w' ⟨zs3, rfl, hw'⟩
 refine ⟨_, rfl, _, back _ _ hw', ?_⟩
 clear hw hw1 hw' back kn sb
 refine l_nil ?_
 refine end0 Tryz.results27 ?_
 intro w hw
 have hw2 := st_mask (L' := [rowF RopeF 42 q d zs3, rowF BodyF 33 p c zs2]) [true, true, false] rfl hw
 exact ⟨zs2, zs3, rfl, hw2.perm (perm_ix [1, 0] 2 rfl (by kernel_rfl) (by kernel_rfl))⟩
end Go.Proofs

