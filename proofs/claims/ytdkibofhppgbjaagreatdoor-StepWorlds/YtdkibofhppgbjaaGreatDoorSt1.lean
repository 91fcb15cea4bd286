/-
 Shapes: what shape.Valid, far and Overlap answer. Printed by a program of my own.
-/
import Derived.Test.YtdkibofhppgbjaaGreatDoorProg
import Derived.Test.YtdkibofhppgbjaaGreatDoorStBase
namespace Go.Proofs
open Go Go.Sl Go.Stp
theorem k_ptI {β : Base} {L : List Res} {b T : Nat} {fr : Nat × Nat} {xs : List Int} (i : Nat) (hi : L[i]? = some (pt b (.cells (xs.map fun x => Ix x).toArray T fr))) : Knows β L (fun h => Elems IntR h (some ⟨b, 0, none⟩) xs) := k_ptE (enc := fun x : Int => Ix x) i hi
theorem tf0 : Tryz.prog.underlying 46 = some (.slice 3) := by kernel_rfl
theorem tf1 : slB Tryz.prog 46 3 1 = true := by kernel_rfl
theorem tf2 : tyB Tryz.prog 3 false 1 = true := by kernel_rfl
theorem tf3 : fldB Tryz.prog 52 0 0 1 false = true := by kernel_rfl
theorem tf4 : (Tryz.prog.info? 3).bind (·.zero) = some (.int .i64 (0)) := by kernel_rfl
theorem tf5 : cfB Tryz.prog 142 = true := by kernel_rfl
theorem tf6 : fldB Tryz.prog 52 1 1 2 true = true := by kernel_rfl
theorem tf7 : fldB Tryz.prog 28 0 0 1 false = true := by kernel_rfl
theorem tf8 : fldB Tryz.prog 28 1 1 1 false = true := by kernel_rfl
theorem tf9 : fldB Tryz.prog 52 2 3 2 true = true := by kernel_rfl
theorem tf10 : fldB Tryz.prog 52 3 5 1 false = true := by kernel_rfl
theorem tf11 : fldB Tryz.prog 52 4 6 1 false = true := by kernel_rfl
theorem tf12 : fldB Tryz.prog 52 5 7 1 false = true := by kernel_rfl
theorem tf13 : tyB Tryz.prog 4 false 1 = true := by kernel_rfl
theorem tf14 : fldB Tryz.prog 52 6 8 1 false = true := by kernel_rfl
theorem tf15 : tyB Tryz.prog 28 true 2 = true := by kernel_rfl
theorem tf16 : stB Tryz.prog 28 [(0, 1), (1, 1)] = true := by kernel_rfl
theorem tf17 : (Tryz.prog.info? 28).bind (·.zero) = some (.agg #[.int .i64 (0), .int .i64 (0)]) := by kernel_rfl
theorem tf18 : lay Tryz.prog 10000 28 = some [.int .i64, .int .i64] := by kernel_rfl
theorem tf19 : isAggT Tryz.prog 28 = true := by kernel_rfl
theorem tf20 : Tryz.prog.eqGuardType Tryz.prog.depth 28 = false := by kernel_rfl
theorem tf21 : cfB Tryz.prog 269 = true := by kernel_rfl
theorem tf22 : tyB Tryz.prog 52 true 9 = true := by kernel_rfl
theorem tf23 : cfB Tryz.prog 266 = true := by kernel_rfl
theorem tf24 : cfB Tryz.prog 85 = true := by kernel_rfl
theorem tf25 : cfB Tryz.prog 218 = true := by kernel_rfl
theorem tf26 : arB Tryz.prog 301 2 300 2 = true := by kernel_rfl
theorem tf27 : arB Tryz.prog 300 2 299 1 = true := by kernel_rfl
theorem tf28 : tyB Tryz.prog 299 false 1 = true := by kernel_rfl
theorem tf29 : cfB Tryz.prog 219 = true := by kernel_rfl
theorem tf30 : cfB Tryz.prog 265 = true := by kernel_rfl
theorem tf31 : cfB Tryz.prog 267 = true := by kernel_rfl
theorem tf32 : cfB Tryz.prog 268 = true := by kernel_rfl
theorem tf33 : cfB Tryz.prog 202 = true := by kernel_rfl
set_option maxHeartbeats 4000000 in
theorem between_ok (β : Base) (w : World) (hw : St β [] w) (lo hi : Int) (v : Value) (xs : List Int) (hs : Sl IntR β.heap v xs) : Calls Tryz.prog 142 #[Ix lo, Ix hi, v] w fun r w' => r = .returned (.bool (decide (∀ z ∈ xs, lo ≤ z ∧ z ≤ hi))) ∧ St β [] w' := by
 obtain ⟨va, vc, rfl, vl, vm, ve⟩ := hs.get
 refine enter (n := 24) Tryz.func142 rfl Tryz.ntmps142 rfl ?_ hw
 refine c_seq ?_
 refine c_region ?_
 refine l_val (v := .bool false) rfl rfl rfl (e_assign) ?_
 refine l_nil ?_
 refine f_then ?_
 refine c_seq ?_
 refine c_seq ?_
 refine c_region ?_
 refine l_val (v := .slice va (xs.length) (vc)) rfl rfl rfl (e_move) ?_
 refine l_val (v := Nx (xs.length)) rfl rfl rfl (e_len (a := va) (n := xs.length) (c := vc) rfl tf0) ?_
 refine l_val (v := .int .i64 (0)) rfl rfl rfl (e_move) ?_
 refine l_nil ?_
 refine f_then ?_
 refine c_block ?_
 refine c_loop (fun (k : Nat) (f : Fm) (L : List Res) => (f 0 = Ix (lo) ∧ f 1 = Ix (hi) ∧ f 9 = .slice va (xs.length) (vc) ∧ f 10 = Nx (xs.length) ∧ f 11 = Nx (k)) ∧ L = [] ∧ (k ≤ xs.length ∧ ∀ z ∈ xs.take k, lo ≤ z ∧ z ≤ hi)) (fun (k : Nat) => xs.length - k) 0 ?_ ?_
 ·exact ⟨⟨rfl, rfl, rfl, rfl, rfl⟩, rfl, ⟨by omega, fun z hz => by simp at hz⟩⟩
 rintro k f0 L0 ⟨⟨hs0, hs1, hs9, hs10, hs11⟩, hL, ⟨hk, hp⟩⟩
 subst L0
 refine rebase (d := 0) hs0 ?_
 refine rebase (d := 1) hs1 ?_
 refine rebase (d := 9) hs9 ?_
 refine rebase (d := 10) hs10 ?_
 refine rebase (d := 11) hs11 ?_
 clear hs0 hs1 hs9 hs10 hs11
 refine c_seq ?_
 refine c_region ?_
 refine l_val (v := .bool (decide (((k : Nat) : Int) < ((xs.length : Nat) : Int)))) rfl rfl rfl (e_lss (a := ((k : Nat) : Int)) (b := ((xs.length : Nat) : Int)) rfl rfl) ?_
 refine l_nil ?_
 refine f_then ?_
 refine c_seq ?_
 refine c_if (((k : Nat) : Int) < ((xs.length : Nat) : Int)) rfl (fun hc1 => ?_) (fun hc1 => ?_)
 ·
  refine c_skip ?_
  refine f_then ?_
  refine c_seq ?_
  refine c_block ?_
  refine c_seq ?_
  refine c_region ?_
  obtain ⟨x2, hx3⟩ : ∃ x_, (xs)[k]? = some x_ := ⟨_, List.getElem?_eq_getElem (by omega)⟩
  obtain ⟨ha4, cs5, hc6, rfl⟩ := ve _ _ hx3
  refine l_val (v := .pointer (some ((ba va).add (k * 1)))) rfl rfl rfl (e_indexAddr (k := k) (len := xs.length) (cap := vc) (a := va) rfl rfl tf1 (by omega) ha4) ?_
  refine l_val (v := Ix (x2)) rfl rfl rfl (e_load1 tf2 (v := Ix (x2)) rfl (Knows.of_base (Cs.mono _ _) hc6)) ?_
  refine l_val (v := Ix (x2)) rfl rfl rfl (e_assign) ?_
  refine l_nil ?_
  refine f_then ?_
  refine c_seq ?_
  refine c_region ?_
  refine l_val (v := Ix (x2)) rfl rfl rfl (e_move) ?_
  refine l_val (v := Ix (lo)) rfl rfl rfl (e_move) ?_
  refine l_val (v := .bool (decide ((x2) < (lo)))) rfl rfl rfl (e_lss (a := (x2)) (b := (lo)) rfl rfl) ?_
  refine l_val (v := .bool (decide ((x2) < (lo)))) rfl rfl rfl (e_move) ?_
  refine l_split (s := 18) (p := (x2) < (lo)) rfl (fun hg8 => ?_) (fun hg8 => ?_)
  ·
   refine l_skip rfl rfl rfl rfl rfl rfl ?_
   refine l_skip rfl rfl rfl rfl rfl rfl ?_
   refine l_skip rfl rfl rfl rfl rfl rfl ?_
   refine l_val (v := .bool true) rfl rfl rfl (e_pick_t rfl) ?_
   refine l_nil ?_
   refine f_then ?_
   refine c_yes rfl ?_
   refine c_seq ?_
   refine c_region ?_
   refine l_val (v := .bool false) rfl rfl rfl (e_assign) ?_
   refine l_nil ?_
   refine f_then ?_
   refine c_ret ?_
   refine f_block_ret ?_
   refine f_then_ret ?_
   refine f_then_ret ?_
   refine f_block_ret ?_
   refine f_then_ret ?_
   refine ret1 Tryz.results142 (v := .bool false) rfl ?_
   intro w hw
   exact ⟨congrArg (fun b : Bool => Ending.returned (.bool b)) (all_ite hx3 (by omega)).symm, st_mask [] rfl hw⟩
  ·
   refine g_val (v := Ix (x2)) rfl rfl rfl rfl rfl (e_move) ?_
   refine g_val (v := Ix (hi)) rfl rfl rfl rfl rfl (e_move) ?_
   refine g_val (v := .bool (decide ((hi) < (x2)))) rfl rfl rfl rfl rfl (e_gtr (a := (x2)) (b := (hi)) rfl rfl) ?_
   refine l_val (v := .bool (decide ((hi) < (x2)))) rfl rfl rfl (e_pick_f rfl) ?_
   refine l_nil ?_
   refine f_then ?_
   refine c_if ((hi) < (x2)) rfl (fun hc9 => ?_) (fun hc9 => ?_)
   ·
    refine c_seq ?_
    refine c_region ?_
    refine l_val (v := .bool false) rfl rfl rfl (e_assign) ?_
    refine l_nil ?_
    refine f_then ?_
    refine c_ret ?_
    refine f_block_ret ?_
    refine f_then_ret ?_
    refine f_then_ret ?_
    refine f_block_ret ?_
    refine f_then_ret ?_
    refine ret1 Tryz.results142 (v := .bool false) rfl ?_
    intro w hw
    exact ⟨congrArg (fun b : Bool => Ending.returned (.bool b)) (all_ite hx3 (by omega)).symm, st_mask [] rfl hw⟩
   ·
    refine c_skip ?_
    refine f_block ?_
    refine f_then ?_
    refine c_region ?_
    refine l_val (v := Nx (k + 1)) rfl rfl rfl (e_add (a := ((k : Nat) : Int)) (b := (1 : Int)) rfl rfl (i64n (by omega) (by omega))) ?_
    refine l_val (v := Nx (k + 1)) rfl rfl rfl (e_move) ?_
    refine l_nil ?_
    exact f_cut ⟨k + 1, ⟨⟨rfl, rfl, rfl, rfl, rfl⟩, rfl, ⟨by omega, all_next hx3 hp ⟨by omega, by omega⟩⟩⟩, (show xs.length - (k + 1) < xs.length - k from by omega)⟩
 ·
  refine c_exit ?_
  refine f_then_exit ?_
  refine f_then_exit ?_
  refine f_exit ?_
  refine f_then ?_
  refine c_seq ?_
  refine c_region ?_
  refine l_val (v := .bool true) rfl rfl rfl (e_assign) ?_
  refine l_nil ?_
  refine f_then ?_
  refine c_ret ?_
  refine ret1 Tryz.results142 (v := .bool true) rfl ?_
  intro w hw
  exact ⟨congrArg (fun b : Bool => Ending.returned (.bool b)) (all_end (by omega) hp).symm, st_mask [] rfl hw⟩
theorem between1_ok (β : Base) (w : World) (hw : St β [] w) (lo hi : Int) (v : Value) (x : Int) (hs : Sl IntR β.heap v [x]) : Calls Tryz.prog 142 #[Ix lo, Ix hi, v] w fun r w' => r = .returned (.bool (decide ((lo ≤ x ∧ x ≤ hi)))) ∧ St β [] w' := by
 refine (between_ok β w hw lo hi v _ hs).mono ?_
 rintro r w' ⟨rfl, hw'⟩
 exact ⟨congrArg (fun b : Bool => Ending.returned (.bool b)) (decide_eq_decide.2 (by simp)), hw'⟩
theorem between2_ok (β : Base) (w : World) (hw : St β [] w) (lo hi : Int) (v : Value) (x y : Int) (hs : Sl IntR β.heap v [x, y]) : Calls Tryz.prog 142 #[Ix lo, Ix hi, v] w fun r w' => r = .returned (.bool (decide ((lo ≤ x ∧ x ≤ hi) ∧ (lo ≤ y ∧ y ≤ hi)))) ∧ St β [] w' := by
 refine (between_ok β w hw lo hi v _ hs).mono ?_
 rintro r w' ⟨rfl, hw'⟩
 exact ⟨congrArg (fun b : Bool => Ending.returned (.bool b)) (decide_eq_decide.2 (by simp)), hw'⟩
set_option maxHeartbeats 4000000 in
theorem valid_ok (β : Base) (w : World) (hw : St β [] w) (b : KB) : Calls Tryz.prog 85 #[.agg (bC b)] w fun r w' => r = .returned (.bool (decide (okB b))) ∧ St β [] w' := by
 refine enter (n := 60) Tryz.func85 rfl Tryz.ntmps85 rfl ?_ hw
 refine c_seq ?_
 refine c_region ?_
 refine l_mv rfl rfl rfl (m_box (v := .agg (bC b)) rfl) ?_
 rintro _ _ ⟨b1, rfl, rfl⟩
 refine l_val (v := .bool false) rfl rfl rfl (e_assign) ?_
 refine l_nil ?_
 refine f_then ?_
 refine c_seq ?_
 refine c_seq ?_
 refine c_region ?_
 refine l_val (v := .pointer (some ⟨b1, 0, none⟩)) rfl rfl rfl (e_fieldPt (b := b1) (o := 0) rfl tf3) ?_
 refine l_val (v := Ix (b.id)) rfl rfl rfl (e_load1 tf2 (v := Ix (b.id)) rfl (k_pt 0 (cs := (bC b)) (vs := [Ix (b.id)]) rfl rfl)) ?_
 refine l_mv rfl rfl rfl (m_slices tf1 tf4 (vs := [(0, Ix (b.id))]) (cells := #[Ix (b.id)]) rfl rfl rfl rfl) ?_
 rintro _ _ ⟨b2, rfl, rfl⟩
 refine l_call rfl rfl rfl (cl_value (fst := []) (cap := []) (vs := [.int .i64 (0), .int .i64 (65536), .slice (some ⟨b2, 0, none⟩) 1 1]) (all := [.int .i64 (0), .int .i64 (65536), .slice (some ⟨b2, 0, none⟩) 1 1]) tf5 rfl rfl rfl) ?_
 intro w hw
 obtain ⟨β1, sb, kn, hw1, back⟩ := St.frame_all hw
 refine (between1_ok β1 w hw1 (0) (65536) _ b.id (⟨⟨_, _, rfl, by simp, by simp, kn _ (k_ptI 0 (xs := [b.id]) rfl)⟩⟩ : Sl IntR _ _ [b.id])).mono ?_
 rintro e w' ⟨rfl, hw'⟩
 refine ⟨_, rfl, _, back _ _ hw', ?_⟩
 clear hw hw1 hw' back kn sb
 refine l_val (v := .bool (decide (¬ (((0 : Int) ≤ b.id ∧ b.id ≤ 65536))))) rfl rfl rfl (e_not_p (p := ((0 : Int) ≤ b.id ∧ b.id ≤ 65536)) rfl) ?_
 refine l_val (v := .bool (decide (¬ (((0 : Int) ≤ b.id ∧ b.id ≤ 65536))))) rfl rfl rfl (e_move) ?_
 refine l_split (s := 8) (p := ¬ (((0 : Int) ≤ b.id ∧ b.id ≤ 65536))) rfl (fun hg3 => ?_) (fun hg3 => ?_)
 ·
  refine l_skip rfl rfl rfl rfl rfl rfl ?_
  refine l_skip rfl rfl rfl rfl rfl rfl ?_
  refine l_skip rfl rfl rfl rfl rfl rfl ?_
  refine l_skip rfl rfl rfl rfl rfl rfl ?_
  refine l_skip rfl rfl rfl rfl rfl rfl ?_
  refine l_skip rfl rfl rfl rfl rfl rfl ?_
  refine l_skip rfl rfl rfl rfl rfl rfl ?_
  refine l_skip rfl rfl rfl rfl rfl rfl ?_
  refine l_skip rfl rfl rfl rfl rfl rfl ?_
  refine l_val (v := .bool true) rfl rfl rfl (e_pick_t rfl) ?_
  refine l_val (v := .bool true) rfl rfl rfl (e_move) ?_
  refine l_skip rfl rfl rfl rfl rfl rfl ?_
  refine l_skip rfl rfl rfl rfl rfl rfl ?_
  refine l_skip rfl rfl rfl rfl rfl rfl ?_
  refine l_skip rfl rfl rfl rfl rfl rfl ?_
  refine l_skip rfl rfl rfl rfl rfl rfl ?_
  refine l_skip rfl rfl rfl rfl rfl rfl ?_
  refine l_skip rfl rfl rfl rfl rfl rfl ?_
  refine l_skip rfl rfl rfl rfl rfl rfl ?_
  refine l_skip rfl rfl rfl rfl rfl rfl ?_
  refine l_val (v := .bool true) rfl rfl rfl (e_pick_t rfl) ?_
  refine l_val (v := .bool true) rfl rfl rfl (e_move) ?_
  refine l_skip rfl rfl rfl rfl rfl rfl ?_
  refine l_skip rfl rfl rfl rfl rfl rfl ?_
  refine l_skip rfl rfl rfl rfl rfl rfl ?_
  refine l_skip rfl rfl rfl rfl rfl rfl ?_
  refine l_skip rfl rfl rfl rfl rfl rfl ?_
  refine l_skip rfl rfl rfl rfl rfl rfl ?_
  refine l_skip rfl rfl rfl rfl rfl rfl ?_
  refine l_val (v := .bool true) rfl rfl rfl (e_pick_t rfl) ?_
  refine l_nil ?_
  refine f_then ?_
  refine c_yes rfl ?_
  refine c_seq ?_
  refine c_region ?_
  refine l_val (v := .bool false) rfl rfl rfl (e_assign) ?_
  refine l_nil ?_
  refine f_then ?_
  refine c_ret ?_
  refine f_then_ret ?_
  refine ret1 Tryz.results85 (v := .bool false) rfl ?_
  intro w hw
  exact ⟨congrArg (fun b : Bool => Ending.returned (.bool b)) (show false = decide (okB b) by first | (rw [eq_comm, decide_eq_false_iff_not]; intro hok; obtain ⟨h1, h2, h3, h4, h5, h6, h7, h8, h9⟩ := hok; simp_all) | (simp only [okB]; simp_all)), st_mask [false, false] rfl hw⟩
 ·
  refine g_val (v := .pointer (some ⟨b1, 1, none⟩)) rfl rfl rfl rfl rfl (e_fieldPt (b := b1) (o := 0) rfl tf6) ?_
  refine g_val (v := .pointer (some ⟨b1, 1, none⟩)) rfl rfl rfl rfl rfl (e_fieldPt (b := b1) (o := 1) rfl tf7) ?_
  refine g_val (v := Ix (b.x)) rfl rfl rfl rfl rfl (e_load1 tf2 (v := Ix (b.x)) rfl (k_pt 1 (cs := (bC b)) (vs := [Ix (b.x)]) rfl rfl)) ?_
  refine g_val (v := .pointer (some ⟨b1, 1, none⟩)) rfl rfl rfl rfl rfl (e_fieldPt (b := b1) (o := 0) rfl tf6) ?_
  refine g_val (v := .pointer (some ⟨b1, 2, none⟩)) rfl rfl rfl rfl rfl (e_fieldPt (b := b1) (o := 1) rfl tf8) ?_
  refine g_val (v := Ix (b.y)) rfl rfl rfl rfl rfl (e_load1 tf2 (v := Ix (b.y)) rfl (k_pt 1 (cs := (bC b)) (vs := [Ix (b.y)]) rfl rfl)) ?_
  refine g_mv rfl rfl rfl rfl rfl (m_slices tf1 tf4 (vs := [(0, Ix (b.x)), (1, Ix (b.y))]) (cells := #[Ix (b.x), Ix (b.y)]) rfl rfl rfl rfl) ?_
  rintro _ _ ⟨b4, rfl, rfl⟩
  refine g_call rfl rfl rfl rfl rfl (cl_value (fst := []) (cap := []) (vs := [.int .i64 (-1048576), .int .i64 (1048576), .slice (some ⟨b4, 0, none⟩) 2 2]) (all := [.int .i64 (-1048576), .int .i64 (1048576), .slice (some ⟨b4, 0, none⟩) 2 2]) tf5 rfl rfl rfl) ?_
  intro w hw
  obtain ⟨β1, sb, kn, hw1, back⟩ := St.frame_all hw
  refine (between2_ok β1 w hw1 (-1048576) (1048576) _ b.x b.y (⟨⟨_, _, rfl, by simp, by simp, kn _ (k_ptI 0 (xs := [b.x, b.y]) rfl)⟩⟩ : Sl IntR _ _ [b.x, b.y])).mono ?_
  rintro e w' ⟨rfl, hw'⟩
  refine ⟨_, rfl, _, back _ _ hw', ?_⟩
  clear hw hw1 hw' back kn sb
  refine g_val (v := .bool (decide (¬ (((-1048576 : Int) ≤ b.x ∧ b.x ≤ 1048576) ∧ ((-1048576 : Int) ≤ b.y ∧ b.y ≤ 1048576))))) rfl rfl rfl rfl rfl (e_not_p (p := ((-1048576 : Int) ≤ b.x ∧ b.x ≤ 1048576) ∧ ((-1048576 : Int) ≤ b.y ∧ b.y ≤ 1048576)) rfl) ?_
  refine l_val (v := .bool (decide (¬ (((-1048576 : Int) ≤ b.x ∧ b.x ≤ 1048576) ∧ ((-1048576 : Int) ≤ b.y ∧ b.y ≤ 1048576))))) rfl rfl rfl (e_pick_f rfl) ?_
  refine l_val (v := .bool (decide (¬ (((-1048576 : Int) ≤ b.x ∧ b.x ≤ 1048576) ∧ ((-1048576 : Int) ≤ b.y ∧ b.y ≤ 1048576))))) rfl rfl rfl (e_move) ?_
  refine l_split (s := 19) (p := ¬ (((-1048576 : Int) ≤ b.x ∧ b.x ≤ 1048576) ∧ ((-1048576 : Int) ≤ b.y ∧ b.y ≤ 1048576))) rfl (fun hg5 => ?_) (fun hg5 => ?_)
  ·
   refine l_skip rfl rfl rfl rfl rfl rfl ?_
   refine l_skip rfl rfl rfl rfl rfl rfl ?_
   refine l_skip rfl rfl rfl rfl rfl rfl ?_
   refine l_skip rfl rfl rfl rfl rfl rfl ?_
   refine l_skip rfl rfl rfl rfl rfl rfl ?_
   refine l_skip rfl rfl rfl rfl rfl rfl ?_
   refine l_skip rfl rfl rfl rfl rfl rfl ?_
   refine l_skip rfl rfl rfl rfl rfl rfl ?_
   refine l_skip rfl rfl rfl rfl rfl rfl ?_
   refine l_val (v := .bool true) rfl rfl rfl (e_pick_t rfl) ?_
   refine l_val (v := .bool true) rfl rfl rfl (e_move) ?_
   refine l_skip rfl rfl rfl rfl rfl rfl ?_
   refine l_skip rfl rfl rfl rfl rfl rfl ?_
   refine l_skip rfl rfl rfl rfl rfl rfl ?_
   refine l_skip rfl rfl rfl rfl rfl rfl ?_
   refine l_skip rfl rfl rfl rfl rfl rfl ?_
   refine l_skip rfl rfl rfl rfl rfl rfl ?_
   refine l_skip rfl rfl rfl rfl rfl rfl ?_
   refine l_val (v := .bool true) rfl rfl rfl (e_pick_t rfl) ?_
   refine l_nil ?_
   refine f_then ?_
   refine c_yes rfl ?_
   refine c_seq ?_
   refine c_region ?_
   refine l_val (v := .bool false) rfl rfl rfl (e_assign) ?_
   refine l_nil ?_
   refine f_then ?_
   refine c_ret ?_
   refine f_then_ret ?_
   refine ret1 Tryz.results85 (v := .bool false) rfl ?_
   intro w hw
   exact ⟨congrArg (fun b : Bool => Ending.returned (.bool b)) (show false = decide (okB b) by first | (rw [eq_comm, decide_eq_false_iff_not]; intro hok; obtain ⟨h1, h2, h3, h4, h5, h6, h7, h8, h9⟩ := hok; simp_all) | (simp only [okB]; simp_all)), st_mask [false, false, false] rfl hw⟩
  ·
   refine g_val (v := .pointer (some ⟨b1, 3, none⟩)) rfl rfl rfl rfl rfl (e_fieldPt (b := b1) (o := 0) rfl tf9) ?_
   refine g_val (v := .pointer (some ⟨b1, 3, none⟩)) rfl rfl rfl rfl rfl (e_fieldPt (b := b1) (o := 3) rfl tf7) ?_
   refine g_val (v := Ix (b.vx)) rfl rfl rfl rfl rfl (e_load1 tf2 (v := Ix (b.vx)) rfl (k_pt 2 (cs := (bC b)) (vs := [Ix (b.vx)]) rfl rfl)) ?_
   refine g_val (v := .pointer (some ⟨b1, 3, none⟩)) rfl rfl rfl rfl rfl (e_fieldPt (b := b1) (o := 0) rfl tf9) ?_
   refine g_val (v := .pointer (some ⟨b1, 4, none⟩)) rfl rfl rfl rfl rfl (e_fieldPt (b := b1) (o := 3) rfl tf8) ?_
   refine g_val (v := Ix (b.vy)) rfl rfl rfl rfl rfl (e_load1 tf2 (v := Ix (b.vy)) rfl (k_pt 2 (cs := (bC b)) (vs := [Ix (b.vy)]) rfl rfl)) ?_
   refine g_mv rfl rfl rfl rfl rfl (m_slices tf1 tf4 (vs := [(0, Ix (b.vx)), (1, Ix (b.vy))]) (cells := #[Ix (b.vx), Ix (b.vy)]) rfl rfl rfl rfl) ?_
   rintro _ _ ⟨b6, rfl, rfl⟩
   refine g_call rfl rfl rfl rfl rfl (cl_value (fst := []) (cap := []) (vs := [.int .i64 (-4096), .int .i64 (4096), .slice (some ⟨b6, 0, none⟩) 2 2]) (all := [.int .i64 (-4096), .int .i64 (4096), .slice (some ⟨b6, 0, none⟩) 2 2]) tf5 rfl rfl rfl) ?_
   intro w hw
   obtain ⟨β1, sb, kn, hw1, back⟩ := St.frame_all hw
   refine (between2_ok β1 w hw1 (-4096) (4096) _ b.vx b.vy (⟨⟨_, _, rfl, by simp, by simp, kn _ (k_ptI 0 (xs := [b.vx, b.vy]) rfl)⟩⟩ : Sl IntR _ _ [b.vx, b.vy])).mono ?_
   rintro e w' ⟨rfl, hw'⟩
   refine ⟨_, rfl, _, back _ _ hw', ?_⟩
   clear hw hw1 hw' back kn sb
   refine g_val (v := .bool (decide (¬ (((-4096 : Int) ≤ b.vx ∧ b.vx ≤ 4096) ∧ ((-4096 : Int) ≤ b.vy ∧ b.vy ≤ 4096))))) rfl rfl rfl rfl rfl (e_not_p (p := ((-4096 : Int) ≤ b.vx ∧ b.vx ≤ 4096) ∧ ((-4096 : Int) ≤ b.vy ∧ b.vy ≤ 4096)) rfl) ?_
   refine l_val (v := .bool (decide (¬ (((-4096 : Int) ≤ b.vx ∧ b.vx ≤ 4096) ∧ ((-4096 : Int) ≤ b.vy ∧ b.vy ≤ 4096))))) rfl rfl rfl (e_pick_f rfl) ?_
   refine l_val (v := .bool (decide (¬ (((-4096 : Int) ≤ b.vx ∧ b.vx ≤ 4096) ∧ ((-4096 : Int) ≤ b.vy ∧ b.vy ≤ 4096))))) rfl rfl rfl (e_move) ?_
   refine l_split (s := 30) (p := ¬ (((-4096 : Int) ≤ b.vx ∧ b.vx ≤ 4096) ∧ ((-4096 : Int) ≤ b.vy ∧ b.vy ≤ 4096))) rfl (fun hg7 => ?_) (fun hg7 => ?_)
   ·
    refine l_skip rfl rfl rfl rfl rfl rfl ?_
    refine l_skip rfl rfl rfl rfl rfl rfl ?_
    refine l_skip rfl rfl rfl rfl rfl rfl ?_
    refine l_skip rfl rfl rfl rfl rfl rfl ?_
    refine l_skip rfl rfl rfl rfl rfl rfl ?_
    refine l_skip rfl rfl rfl rfl rfl rfl ?_
    refine l_skip rfl rfl rfl rfl rfl rfl ?_
    refine l_val (v := .bool true) rfl rfl rfl (e_pick_t rfl) ?_
    refine l_nil ?_
    refine f_then ?_
    refine c_yes rfl ?_
    refine c_seq ?_
    refine c_region ?_
    refine l_val (v := .bool false) rfl rfl rfl (e_assign) ?_
    refine l_nil ?_
    refine f_then ?_
    refine c_ret ?_
    refine f_then_ret ?_
    refine ret1 Tryz.results85 (v := .bool false) rfl ?_
    intro w hw
    exact ⟨congrArg (fun b : Bool => Ending.returned (.bool b)) (show false = decide (okB b) by first | (rw [eq_comm, decide_eq_false_iff_not]; intro hok; obtain ⟨h1, h2, h3, h4, h5, h6, h7, h8, h9⟩ := hok; simp_all) | (simp only [okB]; simp_all)), st_mask [false, false, false, false] rfl hw⟩
   ·
    refine g_val (v := .pointer (some ⟨b1, 5, none⟩)) rfl rfl rfl rfl rfl (e_fieldPt (b := b1) (o := 0) rfl tf10) ?_
    refine g_val (v := Ix (b.w)) rfl rfl rfl rfl rfl (e_load1 tf2 (v := Ix (b.w)) rfl (k_pt 3 (cs := (bC b)) (vs := [Ix (b.w)]) rfl rfl)) ?_
    refine g_val (v := .pointer (some ⟨b1, 6, none⟩)) rfl rfl rfl rfl rfl (e_fieldPt (b := b1) (o := 0) rfl tf11) ?_
    refine g_val (v := Ix (b.h)) rfl rfl rfl rfl rfl (e_load1 tf2 (v := Ix (b.h)) rfl (k_pt 3 (cs := (bC b)) (vs := [Ix (b.h)]) rfl rfl)) ?_
    refine g_mv rfl rfl rfl rfl rfl (m_slices tf1 tf4 (vs := [(0, Ix (b.w)), (1, Ix (b.h))]) (cells := #[Ix (b.w), Ix (b.h)]) rfl rfl rfl rfl) ?_
    rintro _ _ ⟨b8, rfl, rfl⟩
    refine g_call rfl rfl rfl rfl rfl (cl_value (fst := []) (cap := []) (vs := [.int .i64 (1), .int .i64 (16384), .slice (some ⟨b8, 0, none⟩) 2 2]) (all := [.int .i64 (1), .int .i64 (16384), .slice (some ⟨b8, 0, none⟩) 2 2]) tf5 rfl rfl rfl) ?_
    intro w hw
    obtain ⟨β1, sb, kn, hw1, back⟩ := St.frame_all hw
    refine (between2_ok β1 w hw1 (1) (16384) _ b.w b.h (⟨⟨_, _, rfl, by simp, by simp, kn _ (k_ptI 0 (xs := [b.w, b.h]) rfl)⟩⟩ : Sl IntR _ _ [b.w, b.h])).mono ?_
    rintro e w' ⟨rfl, hw'⟩
    refine ⟨_, rfl, _, back _ _ hw', ?_⟩
    clear hw hw1 hw' back kn sb
    refine g_val (v := .bool (decide (¬ (((1 : Int) ≤ b.w ∧ b.w ≤ 16384) ∧ ((1 : Int) ≤ b.h ∧ b.h ≤ 16384))))) rfl rfl rfl rfl rfl (e_not_p (p := ((1 : Int) ≤ b.w ∧ b.w ≤ 16384) ∧ ((1 : Int) ≤ b.h ∧ b.h ≤ 16384)) rfl) ?_
    refine l_val (v := .bool (decide (¬ (((1 : Int) ≤ b.w ∧ b.w ≤ 16384) ∧ ((1 : Int) ≤ b.h ∧ b.h ≤ 16384))))) rfl rfl rfl (e_pick_f rfl) ?_
    refine l_nil ?_
    refine f_then ?_
    refine c_if (¬ (((1 : Int) ≤ b.w ∧ b.w ≤ 16384) ∧ ((1 : Int) ≤ b.h ∧ b.h ≤ 16384))) rfl (fun hc9 => ?_) (fun hc9 => ?_)
    ·
     refine c_seq ?_
     refine c_region ?_
     refine l_val (v := .bool false) rfl rfl rfl (e_assign) ?_
     refine l_nil ?_
     refine f_then ?_
     refine c_ret ?_
     refine f_then_ret ?_
     refine ret1 Tryz.results85 (v := .bool false) rfl ?_
     intro w hw
     exact ⟨congrArg (fun b : Bool => Ending.returned (.bool b)) (show false = decide (okB b) by first | (rw [eq_comm, decide_eq_false_iff_not]; intro hok; obtain ⟨h1, h2, h3, h4, h5, h6, h7, h8, h9⟩ := hok; simp_all) | (simp only [okB]; simp_all)), st_mask [false, false, false, false, false] rfl hw⟩
    ·
     refine c_skip ?_
     refine f_then ?_
     refine c_seq ?_
     refine c_region ?_
     refine l_val (v := .pointer (some ⟨b1, 7, none⟩)) rfl rfl rfl (e_fieldPt (b := b1) (o := 0) rfl tf12) ?_
     refine l_val (v := .bool (b.round)) rfl rfl rfl (e_load1 tf13 (v := .bool (b.round)) rfl (k_pt 4 (cs := (bC b)) (vs := [.bool (b.round)]) rfl rfl)) ?_
     refine l_val (v := .bool (!b.round)) rfl rfl rfl (e_not rfl) ?_
     refine l_val (v := .bool (!b.round)) rfl rfl rfl (e_move) ?_
     refine l_splitb (s := 42) (b := !b.round) rfl (fun hg10 => ?_) (fun hg10 => ?_)
     ·
      refine l_skip rfl rfl rfl rfl rfl rfl ?_
      refine l_skip rfl rfl rfl rfl rfl rfl ?_
      refine l_skip rfl rfl rfl rfl rfl rfl ?_
      refine l_skip rfl rfl rfl rfl rfl rfl ?_
      refine l_skip rfl rfl rfl rfl rfl rfl ?_
      refine l_val (v := .bool true) rfl rfl rfl (e_pick_t rfl) ?_
      refine l_val (v := .bool true) rfl rfl rfl (e_move) ?_
      refine g_val (v := .pointer (some ⟨b1, 8, none⟩)) rfl rfl rfl rfl rfl (e_fieldPt (b := b1) (o := 0) rfl tf14) ?_
      refine g_val (v := .bool (b.fixed)) rfl rfl rfl rfl rfl (e_load1 tf13 (v := .bool (b.fixed)) rfl (k_pt 4 (cs := (bC b)) (vs := [.bool (b.fixed)]) rfl rfl)) ?_
      refine g_val (v := .bool (!b.fixed)) rfl rfl rfl rfl rfl (e_not rfl) ?_
      refine g_val (v := .bool (!b.fixed)) rfl rfl rfl rfl rfl (e_move) ?_
      refine l_splitb (s := 53) (b := !b.fixed) rfl (fun hg11 => ?_) (fun hg11 => ?_)
      ·
       refine l_skip rfl rfl rfl rfl rfl rfl ?_
       refine l_skip rfl rfl rfl rfl rfl rfl ?_
       refine l_skip rfl rfl rfl rfl rfl rfl ?_
       refine l_skip rfl rfl rfl rfl rfl rfl ?_
       refine g_val (v := .bool true) rfl rfl rfl rfl rfl (e_pick_t rfl) ?_
       refine l_val (v := .bool true) rfl rfl rfl (e_pick_t rfl) ?_
       refine l_val (v := .bool true) rfl rfl rfl (e_assign) ?_
       refine l_nil ?_
       refine f_then ?_
       refine c_ret ?_
       refine ret1 Tryz.results85 (v := .bool true) rfl ?_
       intro w hw
       exact ⟨congrArg (fun b : Bool => Ending.returned (.bool b)) (show true = decide (okB b) by first | (rw [eq_comm, decide_eq_false_iff_not]; intro hok; obtain ⟨h1, h2, h3, h4, h5, h6, h7, h8, h9⟩ := hok; simp_all) | (simp only [okB]; simp_all)), st_mask [false, false, false, false, false] rfl hw⟩
      ·
       refine g_val (v := .pointer (some ⟨b1, 3, none⟩)) rfl rfl rfl rfl rfl (e_fieldPt (b := b1) (o := 0) rfl tf9) ?_
       refine g_val (v := .agg #[Ix (b.vx), Ix (b.vy)]) rfl rfl rfl rfl rfl (e_load tf15 (cs := [Ix (b.vx), Ix (b.vy)]) rfl (k_pt 4 (cs := (bC b)) (vs := [Ix (b.vx), Ix (b.vy)]) rfl rfl) rfl) ?_
       refine g_val (v := .agg #[.int .i64 (0), .int .i64 (0)]) rfl rfl rfl rfl rfl (e_build tf17 tf16 (vs := []) (cells := #[.int .i64 (0), .int .i64 (0)]) rfl rfl) ?_
       refine g_val (v := .bool (decide ((b.vx) = (0 : Int) ∧ (b.vy) = (0 : Int)))) rfl rfl rfl rfl rfl (e_eql_t (xs := [Ix (b.vx), Ix (b.vy)]) (ys := [.int .i64 (0), .int .i64 (0)]) tf18 tf19 tf20 rfl rfl rfl rfl vec_eq) ?_
       refine g_val (v := .bool (decide ((b.vx) = (0 : Int) ∧ (b.vy) = (0 : Int)))) rfl rfl rfl rfl rfl (e_pick_f rfl) ?_
       refine l_val (v := .bool (decide ((b.vx) = (0 : Int) ∧ (b.vy) = (0 : Int)))) rfl rfl rfl (e_pick_t rfl) ?_
       refine l_val (v := .bool (decide ((b.vx) = (0 : Int) ∧ (b.vy) = (0 : Int)))) rfl rfl rfl (e_assign) ?_
       refine l_nil ?_
       refine f_then ?_
       refine c_ret ?_
       refine ret1 Tryz.results85 (v := .bool (decide ((b.vx) = (0 : Int) ∧ (b.vy) = (0 : Int)))) rfl ?_
       intro w hw
       exact ⟨congrArg (fun b : Bool => Ending.returned (.bool b)) (show decide ((b.vx) = (0 : Int) ∧ (b.vy) = (0 : Int)) = decide (okB b) by first | (rw [eq_comm, decide_eq_false_iff_not]; intro hok; obtain ⟨h1, h2, h3, h4, h5, h6, h7, h8, h9⟩ := hok; simp_all) | (simp only [okB]; simp_all)), st_mask [false, false, false, false, false] rfl hw⟩
     ·
      refine g_val (v := .pointer (some ⟨b1, 5, none⟩)) rfl rfl rfl rfl rfl (e_fieldPt (b := b1) (o := 0) rfl tf10) ?_
      refine g_val (v := Ix (b.w)) rfl rfl rfl rfl rfl (e_load1 tf2 (v := Ix (b.w)) rfl (k_pt 4 (cs := (bC b)) (vs := [Ix (b.w)]) rfl rfl)) ?_
      refine g_val (v := .pointer (some ⟨b1, 6, none⟩)) rfl rfl rfl rfl rfl (e_fieldPt (b := b1) (o := 0) rfl tf11) ?_
      refine g_val (v := Ix (b.h)) rfl rfl rfl rfl rfl (e_load1 tf2 (v := Ix (b.h)) rfl (k_pt 4 (cs := (bC b)) (vs := [Ix (b.h)]) rfl rfl)) ?_
      refine g_val (v := .bool (decide ((b.w) = (b.h)))) rfl rfl rfl rfl rfl (e_eql (a := (b.w)) (b := (b.h)) rfl rfl) ?_
      refine l_val (v := .bool (decide ((b.w) = (b.h)))) rfl rfl rfl (e_pick_f rfl) ?_
      refine l_val (v := .bool (decide ((b.w) = (b.h)))) rfl rfl rfl (e_move) ?_
      refine l_split (s := 49) (p := (b.w) = (b.h)) rfl (fun hg12 => ?_) (fun hg12 => ?_)
      ·
       refine g_val (v := .pointer (some ⟨b1, 8, none⟩)) rfl rfl rfl rfl rfl (e_fieldPt (b := b1) (o := 0) rfl tf14) ?_
       refine g_val (v := .bool (b.fixed)) rfl rfl rfl rfl rfl (e_load1 tf13 (v := .bool (b.fixed)) rfl (k_pt 4 (cs := (bC b)) (vs := [.bool (b.fixed)]) rfl rfl)) ?_
       refine g_val (v := .bool (!b.fixed)) rfl rfl rfl rfl rfl (e_not rfl) ?_
       refine g_val (v := .bool (!b.fixed)) rfl rfl rfl rfl rfl (e_move) ?_
       refine l_splitb (s := 53) (b := !b.fixed) rfl (fun hg13 => ?_) (fun hg13 => ?_)
       ·
        refine l_skip rfl rfl rfl rfl rfl rfl ?_
        refine l_skip rfl rfl rfl rfl rfl rfl ?_
        refine l_skip rfl rfl rfl rfl rfl rfl ?_
        refine l_skip rfl rfl rfl rfl rfl rfl ?_
        refine g_val (v := .bool true) rfl rfl rfl rfl rfl (e_pick_t rfl) ?_
        refine l_val (v := .bool true) rfl rfl rfl (e_pick_t rfl) ?_
        refine l_val (v := .bool true) rfl rfl rfl (e_assign) ?_
        refine l_nil ?_
        refine f_then ?_
        refine c_ret ?_
        refine ret1 Tryz.results85 (v := .bool true) rfl ?_
        intro w hw
        exact ⟨congrArg (fun b : Bool => Ending.returned (.bool b)) (show true = decide (okB b) by first | (rw [eq_comm, decide_eq_false_iff_not]; intro hok; obtain ⟨h1, h2, h3, h4, h5, h6, h7, h8, h9⟩ := hok; simp_all) | (simp only [okB]; simp_all)), st_mask [false, false, false, false, false] rfl hw⟩
       ·
        refine g_val (v := .pointer (some ⟨b1, 3, none⟩)) rfl rfl rfl rfl rfl (e_fieldPt (b := b1) (o := 0) rfl tf9) ?_
        refine g_val (v := .agg #[Ix (b.vx), Ix (b.vy)]) rfl rfl rfl rfl rfl (e_load tf15 (cs := [Ix (b.vx), Ix (b.vy)]) rfl (k_pt 4 (cs := (bC b)) (vs := [Ix (b.vx), Ix (b.vy)]) rfl rfl) rfl) ?_
        refine g_val (v := .agg #[.int .i64 (0), .int .i64 (0)]) rfl rfl rfl rfl rfl (e_build tf17 tf16 (vs := []) (cells := #[.int .i64 (0), .int .i64 (0)]) rfl rfl) ?_
        refine g_val (v := .bool (decide ((b.vx) = (0 : Int) ∧ (b.vy) = (0 : Int)))) rfl rfl rfl rfl rfl (e_eql_t (xs := [Ix (b.vx), Ix (b.vy)]) (ys := [.int .i64 (0), .int .i64 (0)]) tf18 tf19 tf20 rfl rfl rfl rfl vec_eq) ?_
        refine g_val (v := .bool (decide ((b.vx) = (0 : Int) ∧ (b.vy) = (0 : Int)))) rfl rfl rfl rfl rfl (e_pick_f rfl) ?_
        refine l_val (v := .bool (decide ((b.vx) = (0 : Int) ∧ (b.vy) = (0 : Int)))) rfl rfl rfl (e_pick_t rfl) ?_
        refine l_val (v := .bool (decide ((b.vx) = (0 : Int) ∧ (b.vy) = (0 : Int)))) rfl rfl rfl (e_assign) ?_
        refine l_nil ?_
        refine f_then ?_
        refine c_ret ?_
        refine ret1 Tryz.results85 (v := .bool (decide ((b.vx) = (0 : Int) ∧ (b.vy) = (0 : Int)))) rfl ?_
        intro w hw
        exact ⟨congrArg (fun b : Bool => Ending.returned (.bool b)) (show decide ((b.vx) = (0 : Int) ∧ (b.vy) = (0 : Int)) = decide (okB b) by first | (rw [eq_comm, decide_eq_false_iff_not]; intro hok; obtain ⟨h1, h2, h3, h4, h5, h6, h7, h8, h9⟩ := hok; simp_all) | (simp only [okB]; simp_all)), st_mask [false, false, false, false, false] rfl hw⟩
      ·
       refine l_skip rfl rfl rfl rfl rfl rfl ?_
       refine l_skip rfl rfl rfl rfl rfl rfl ?_
       refine l_skip rfl rfl rfl rfl rfl rfl ?_
       refine l_skip rfl rfl rfl rfl rfl rfl ?_
       refine l_skip_u rfl rfl rfl rfl rfl ?_
       refine l_skip_u rfl rfl rfl rfl rfl ?_
       refine l_skip_u rfl rfl rfl rfl rfl ?_
       refine l_skip_u rfl rfl rfl rfl rfl ?_
       refine l_skip rfl rfl rfl rfl rfl rfl ?_
       refine l_val (v := .bool false) rfl rfl rfl (e_pick_f rfl) ?_
       refine l_val (v := .bool false) rfl rfl rfl (e_assign) ?_
       refine l_nil ?_
       refine f_then ?_
       refine c_ret ?_
       refine ret1 Tryz.results85 (v := .bool false) rfl ?_
       intro w hw
       exact ⟨congrArg (fun b : Bool => Ending.returned (.bool b)) (show false = decide (okB b) by first | (rw [eq_comm, decide_eq_false_iff_not]; intro hok; obtain ⟨h1, h2, h3, h4, h5, h6, h7, h8, h9⟩ := hok; simp_all) | (simp only [okB]; simp_all)), st_mask [false, false, false, false, false] rfl hw⟩
theorem kind_ok (β : Base) (w : World) (hw : St β [] w) (b : KB) : Calls Tryz.prog 218 #[.agg (bC b)] w fun r w' => r = .returned (Nx b.round.toNat) ∧ St β [] w' := by
 refine enter (n := 5) Tryz.func218 rfl Tryz.ntmps218 rfl ?_ hw
 refine c_seq ?_
 refine c_region ?_
 refine l_mv rfl rfl rfl (m_box (v := .agg (bC b)) rfl) ?_
 rintro _ _ ⟨b1, rfl, rfl⟩
 refine l_val (v := .int .i64 (0)) rfl rfl rfl (e_assign) ?_
 refine l_nil ?_
 refine f_then ?_
 refine c_seq ?_
 refine c_seq ?_
 refine c_region ?_
 refine l_val (v := .pointer (some ⟨b1, 7, none⟩)) rfl rfl rfl (e_fieldPt (b := b1) (o := 0) rfl tf12) ?_
 refine l_val (v := .bool (b.round)) rfl rfl rfl (e_load1 tf13 (v := .bool (b.round)) rfl (k_pt 0 (cs := (bC b)) (vs := [.bool (b.round)]) rfl rfl)) ?_
 refine l_nil ?_
 refine f_then ?_
 refine c_ifb (b.round) rfl (fun hc2 => ?_) (fun hc2 => ?_)
 ·
  refine c_seq ?_
  refine c_region ?_
  refine l_val (v := .int .i64 (1)) rfl rfl rfl (e_assign) ?_
  refine l_nil ?_
  refine f_then ?_
  refine c_ret ?_
  refine f_then_ret ?_
  refine ret1 Tryz.results218 (v := .int .i64 (1)) rfl ?_
  intro w hw
  exact ⟨by rw [hc2]; rfl, st_mask [false] rfl hw⟩
 ·
  refine c_skip ?_
  refine f_then ?_
  refine c_seq ?_
  refine c_region ?_
  refine l_val (v := .int .i64 (0)) rfl rfl rfl (e_assign) ?_
  refine l_nil ?_
  refine f_then ?_
  refine c_ret ?_
  refine ret1 Tryz.results218 (v := .int .i64 (0)) rfl ?_
  intro w hw
  exact ⟨by rw [hc2]; rfl, st_mask [false] rfl hw⟩
theorem kind0_ok (β : Base) (w : World) (hw : St β [] w) (b : KB) (h : b.round = false) : Calls Tryz.prog 218 #[.agg (bC b)] w fun r w' => r = .returned (.int .i64 (0)) ∧ St β [] w' := by
 refine (kind_ok β w hw b).mono ?_
 rintro r w' ⟨rfl, hw'⟩
 exact ⟨by rw [h]; rfl, hw'⟩
theorem kind1_ok (β : Base) (w : World) (hw : St β [] w) (b : KB) (h : b.round = true) : Calls Tryz.prog 218 #[.agg (bC b)] w fun r w' => r = .returned (.int .i64 (1)) ∧ St β [] w' := by
 refine (kind_ok β w hw b).mono ?_
 rintro r w' ⟨rfl, hw'⟩
 exact ⟨by rw [h]; rfl, hw'⟩
theorem abs_ok (β : Base) (w : World) (hw : St β [] w) (x : Int) (hx : -4611686018427387904 ≤ x ∧ x ≤ 4611686018427387904) : Calls Tryz.prog 219 #[Ix x] w fun r w' => r = .returned (Ix (Stp.abs x)) ∧ St β [] w' := by
 refine enter (n := 7) Tryz.func219 rfl Tryz.ntmps219 rfl ?_ hw
 refine c_seq ?_
 refine c_region ?_
 refine l_val (v := .int .i64 (0)) rfl rfl rfl (e_assign) ?_
 refine l_nil ?_
 refine f_then ?_
 refine c_seq ?_
 refine c_region ?_
 refine l_val (v := Ix (x)) rfl rfl rfl (e_move) ?_
 refine l_val (v := Ix (x)) rfl rfl rfl (e_move) ?_
 refine l_val (v := Ix (0 - (x))) rfl rfl rfl (e_neg (a := (x)) rfl (i64w (by omega))) ?_
 refine l_val (v := Ix (max (x) (0 - (x)))) rfl rfl rfl (e_max (a := (x)) (b := (0 - (x))) rfl rfl) ?_
 refine l_val (v := Ix (max (x) (0 - (x)))) rfl rfl rfl (e_assign) ?_
 refine l_nil ?_
 refine f_then ?_
 refine c_ret ?_
 refine ret1 Tryz.results219 (v := Ix (max (x) (0 - (x)))) rfl ?_
 intro w hw
 exact ⟨congrArg Ending.returned (congrArg (Value.int .i64) (show max x (0 - x) = Stp.abs x by unfold Stp.abs; omega)), st_mask [] rfl hw⟩
theorem sq2_ok (β : Base) (w : World) (hw : St β [] w) (x y : Int) (hx : 0 ≤ x * x ∧ x * x ≤ 1152921504606846976) (hy : 0 ≤ y * y ∧ y * y ≤ 1152921504606846976) : Calls Tryz.prog 269 #[Ix x, Ix y] w fun r w' => r = .returned (Ix (x * x + y * y)) ∧ St β [] w' := by
 refine enter (n := 12) Tryz.func269 rfl Tryz.ntmps269 rfl ?_ hw
 refine c_seq ?_
 refine c_region ?_
 refine l_val (v := .int .i64 (0)) rfl rfl rfl (e_assign) ?_
 refine l_nil ?_
 refine f_then ?_
 refine c_seq ?_
 refine c_region ?_
 refine l_val (v := Ix (x)) rfl rfl rfl (e_move) ?_
 refine l_val (v := Ix (x)) rfl rfl rfl (e_move) ?_
 refine l_val (v := Ix ((x) * (x))) rfl rfl rfl (e_mul (a := (x)) (b := (x)) rfl rfl (i64w (by omega))) ?_
 refine l_val (v := Ix (y)) rfl rfl rfl (e_move) ?_
 refine l_val (v := Ix (y)) rfl rfl rfl (e_move) ?_
 refine l_val (v := Ix ((y) * (y))) rfl rfl rfl (e_mul (a := (y)) (b := (y)) rfl rfl (i64w (by omega))) ?_
 refine l_val (v := Ix (((x) * (x)) + ((y) * (y)))) rfl rfl rfl (e_add (a := ((x) * (x))) (b := ((y) * (y))) rfl rfl (i64w (by omega))) ?_
 refine l_val (v := Ix (((x) * (x)) + ((y) * (y)))) rfl rfl rfl (e_assign) ?_
 refine l_nil ?_
 refine f_then ?_
 refine c_ret ?_
 refine ret1 Tryz.results269 (v := Ix (((x) * (x)) + ((y) * (y)))) rfl ?_
 intro w hw
 exact ⟨rfl, st_mask [] rfl hw⟩
theorem boxes_ok (β : Base) (w : World) (hw : St β [] w) (a b : KB) (ha : okB a) (hb : okB b) (dx dy : Int) (hx : 0 ≤ dx ∧ dx ≤ 2097152) (hy : 0 ≤ dy ∧ dy ≤ 2097152) : Calls Tryz.prog 265 #[.agg (bC a), .agg (bC b), Ix dx, Ix dy] w fun r w' => r = .returned (Ix (max (dx - a.w - b.w) (dy - a.h - b.h))) ∧ St β [] w' := by
 have a6 := ha.2.2.2.2.2.1
 have a7 := ha.2.2.2.2.2.2.1
 have b6 := hb.2.2.2.2.2.1
 have b7 := hb.2.2.2.2.2.2.1
 refine enter (n := 24) Tryz.func265 rfl Tryz.ntmps265 rfl ?_ hw
 refine c_seq ?_
 refine c_region ?_
 refine l_mv rfl rfl rfl (m_box (v := .agg (bC a)) rfl) ?_
 rintro _ _ ⟨b1, rfl, rfl⟩
 refine l_mv rfl rfl rfl (m_box (v := .agg (bC b)) rfl) ?_
 rintro _ _ ⟨b2, rfl, rfl⟩
 refine l_val (v := .int .i64 (0)) rfl rfl rfl (e_assign) ?_
 refine l_nil ?_
 refine f_then ?_
 refine c_seq ?_
 refine c_region ?_
 refine l_val (v := Ix (dx)) rfl rfl rfl (e_move) ?_
 refine l_val (v := .pointer (some ⟨b1, 5, none⟩)) rfl rfl rfl (e_fieldPt (b := b1) (o := 0) rfl tf10) ?_
 refine l_val (v := Ix (a.w)) rfl rfl rfl (e_load1 tf2 (v := Ix (a.w)) rfl (k_pt 1 (cs := (bC a)) (vs := [Ix (a.w)]) rfl rfl)) ?_
 refine l_val (v := Ix ((dx) - (a.w))) rfl rfl rfl (e_sub (a := (dx)) (b := (a.w)) rfl rfl (i64w (by omega))) ?_
 refine l_val (v := .pointer (some ⟨b2, 5, none⟩)) rfl rfl rfl (e_fieldPt (b := b2) (o := 0) rfl tf10) ?_
 refine l_val (v := Ix (b.w)) rfl rfl rfl (e_load1 tf2 (v := Ix (b.w)) rfl (k_pt 0 (cs := (bC b)) (vs := [Ix (b.w)]) rfl rfl)) ?_
 refine l_val (v := Ix (((dx) - (a.w)) - (b.w))) rfl rfl rfl (e_sub (a := ((dx) - (a.w))) (b := (b.w)) rfl rfl (i64w (by omega))) ?_
 refine l_val (v := Ix (dy)) rfl rfl rfl (e_move) ?_
 refine l_val (v := .pointer (some ⟨b1, 6, none⟩)) rfl rfl rfl (e_fieldPt (b := b1) (o := 0) rfl tf11) ?_
 refine l_val (v := Ix (a.h)) rfl rfl rfl (e_load1 tf2 (v := Ix (a.h)) rfl (k_pt 1 (cs := (bC a)) (vs := [Ix (a.h)]) rfl rfl)) ?_
 refine l_val (v := Ix ((dy) - (a.h))) rfl rfl rfl (e_sub (a := (dy)) (b := (a.h)) rfl rfl (i64w (by omega))) ?_
 refine l_val (v := .pointer (some ⟨b2, 6, none⟩)) rfl rfl rfl (e_fieldPt (b := b2) (o := 0) rfl tf11) ?_
 refine l_val (v := Ix (b.h)) rfl rfl rfl (e_load1 tf2 (v := Ix (b.h)) rfl (k_pt 0 (cs := (bC b)) (vs := [Ix (b.h)]) rfl rfl)) ?_
 refine l_val (v := Ix (((dy) - (a.h)) - (b.h))) rfl rfl rfl (e_sub (a := ((dy) - (a.h))) (b := (b.h)) rfl rfl (i64w (by omega))) ?_
 refine l_val (v := Ix (max (((dx) - (a.w)) - (b.w)) (((dy) - (a.h)) - (b.h)))) rfl rfl rfl (e_max (a := (((dx) - (a.w)) - (b.w))) (b := (((dy) - (a.h)) - (b.h))) rfl rfl) ?_
 refine l_val (v := Ix (max (((dx) - (a.w)) - (b.w)) (((dy) - (a.h)) - (b.h)))) rfl rfl rfl (e_assign) ?_
 refine l_nil ?_
 refine f_then ?_
 refine c_ret ?_
 refine ret1 Tryz.results265 (v := Ix (max (((dx) - (a.w)) - (b.w)) (((dy) - (a.h)) - (b.h)))) rfl ?_
 intro w hw
 exact ⟨rfl, st_mask [false, false] rfl hw⟩
theorem boxCircle_ok (β : Base) (w : World) (hw : St β [] w) (a b : KB) (ha : okB a) (hb : okB b) (dx dy : Int) (hx : 0 ≤ dx ∧ dx ≤ 2097152) (hy : 0 ≤ dy ∧ dy ≤ 2097152) : Calls Tryz.prog 266 #[.agg (bC a), .agg (bC b), Ix dx, Ix dy] w fun r w' => r = .returned (Ix (max (dx - a.w) 0 * max (dx - a.w) 0 + max (dy - a.h) 0 * max (dy - a.h) 0 - b.w * b.w)) ∧ St β [] w' := by
 have a6 := ha.2.2.2.2.2.1
 have a7 := ha.2.2.2.2.2.2.1
 have b6 := hb.2.2.2.2.2.1
 have b7 := hb.2.2.2.2.2.2.1
 have q1 := sq_bd (x := max (dx - a.w) 0) (B := 2097152) (by omega) (by omega)
 have q2 := sq_bd (x := max (dy - a.h) 0) (B := 2097152) (by omega) (by omega)
 have q3 := sq_bd (x := b.w) (B := 16384) (by omega) (by omega)
 refine enter (n := 26) Tryz.func266 rfl Tryz.ntmps266 rfl ?_ hw
 refine c_seq ?_
 refine c_region ?_
 refine l_mv rfl rfl rfl (m_box (v := .agg (bC a)) rfl) ?_
 rintro _ _ ⟨b1, rfl, rfl⟩
 refine l_mv rfl rfl rfl (m_box (v := .agg (bC b)) rfl) ?_
 rintro _ _ ⟨b2, rfl, rfl⟩
 refine l_val (v := .int .i64 (0)) rfl rfl rfl (e_assign) ?_
 refine l_nil ?_
 refine f_then ?_
 refine c_seq ?_
 refine c_quiet (by kernel_rfl) (by kernel_rfl) ?_
 refine q_val (v := Ix (dx)) rfl rfl rfl (e_move) ?_
 refine q_val (v := .pointer (some ⟨b1, 5, none⟩)) rfl rfl rfl (e_fieldPt (b := b1) (o := 0) rfl tf10) ?_
 refine q_val (v := Ix (a.w)) rfl rfl rfl (e_load1 tf2 (v := Ix (a.w)) rfl (k_pt 1 (cs := (bC a)) (vs := [Ix (a.w)]) rfl rfl)) ?_
 refine q_val (v := Ix ((dx) - (a.w))) rfl rfl rfl (e_sub (a := (dx)) (b := (a.w)) rfl rfl (i64w (by omega))) ?_
 refine q_val (v := Ix (max ((dx) - (a.w)) (0 : Int))) rfl rfl rfl (e_max (a := ((dx) - (a.w))) (b := (0 : Int)) rfl rfl) ?_
 refine q_val (v := Ix (dy)) rfl rfl rfl (e_move) ?_
 refine q_val (v := .pointer (some ⟨b1, 6, none⟩)) rfl rfl rfl (e_fieldPt (b := b1) (o := 0) rfl tf11) ?_
 refine q_val (v := Ix (a.h)) rfl rfl rfl (e_load1 tf2 (v := Ix (a.h)) rfl (k_pt 1 (cs := (bC a)) (vs := [Ix (a.h)]) rfl rfl)) ?_
 refine q_val (v := Ix ((dy) - (a.h))) rfl rfl rfl (e_sub (a := (dy)) (b := (a.h)) rfl rfl (i64w (by omega))) ?_
 refine q_val (v := Ix (max ((dy) - (a.h)) (0 : Int))) rfl rfl rfl (e_max (a := ((dy) - (a.h))) (b := (0 : Int)) rfl rfl) ?_
 refine q_call (v := Ix ((max ((dx) - (a.w)) (0 : Int)) * (max ((dx) - (a.w)) (0 : Int)) + (max ((dy) - (a.h)) (0 : Int)) * (max ((dy) - (a.h)) (0 : Int)))) rfl rfl rfl (cl_value (fst := []) (cap := []) (vs := [Ix (max ((dx) - (a.w)) (0 : Int)), Ix (max ((dy) - (a.h)) (0 : Int))]) (all := [Ix (max ((dx) - (a.w)) (0 : Int)), Ix (max ((dy) - (a.h)) (0 : Int))]) tf21 rfl rfl rfl) (fun w hw => ?_) ?_
 ·obtain ⟨β1, sb, kn, hw1, back⟩ := St.frame_all hw
  exact (sq2_ok β1 w hw1 (max ((dx) - (a.w)) (0 : Int)) (max ((dy) - (a.h)) (0 : Int)) (by omega) (by omega)).mono (fun e w' ⟨he, hw'⟩ => ⟨he, st_mask [true, true] rfl (back _ _ hw')⟩)
 refine q_val (v := .pointer (some ⟨b2, 5, none⟩)) rfl rfl rfl (e_fieldPt (b := b2) (o := 0) rfl tf10) ?_
 refine q_val (v := Ix (b.w)) rfl rfl rfl (e_load1 tf2 (v := Ix (b.w)) rfl (k_pt 0 (cs := (bC b)) (vs := [Ix (b.w)]) rfl rfl)) ?_
 refine q_val (v := .pointer (some ⟨b2, 5, none⟩)) rfl rfl rfl (e_fieldPt (b := b2) (o := 0) rfl tf10) ?_
 refine q_val (v := Ix (b.w)) rfl rfl rfl (e_load1 tf2 (v := Ix (b.w)) rfl (k_pt 0 (cs := (bC b)) (vs := [Ix (b.w)]) rfl rfl)) ?_
 refine q_val (v := Ix ((b.w) * (b.w))) rfl rfl rfl (e_mul (a := (b.w)) (b := (b.w)) rfl rfl (i64w (by omega))) ?_
 refine q_val (v := Ix (((max ((dx) - (a.w)) (0 : Int)) * (max ((dx) - (a.w)) (0 : Int)) + (max ((dy) - (a.h)) (0 : Int)) * (max ((dy) - (a.h)) (0 : Int))) - ((b.w) * (b.w)))) rfl rfl rfl (e_sub (a := ((max ((dx) - (a.w)) (0 : Int)) * (max ((dx) - (a.w)) (0 : Int)) + (max ((dy) - (a.h)) (0 : Int)) * (max ((dy) - (a.h)) (0 : Int)))) (b := ((b.w) * (b.w))) rfl rfl (i64w (by omega))) ?_
 refine q_val (v := Ix (((max ((dx) - (a.w)) (0 : Int)) * (max ((dx) - (a.w)) (0 : Int)) + (max ((dy) - (a.h)) (0 : Int)) * (max ((dy) - (a.h)) (0 : Int))) - ((b.w) * (b.w)))) rfl rfl rfl (e_assign) ?_
 refine q_nil ?_
 refine f_then ?_
 refine c_ret ?_
 refine ret1 Tryz.results266 (v := Ix (((max ((dx) - (a.w)) (0 : Int)) * (max ((dx) - (a.w)) (0 : Int)) + (max ((dy) - (a.h)) (0 : Int)) * (max ((dy) - (a.h)) (0 : Int))) - ((b.w) * (b.w)))) rfl ?_
 intro w hw
 exact ⟨rfl, st_mask [false, false] rfl hw⟩
theorem circleBox_ok (β : Base) (w : World) (hw : St β [] w) (a b : KB) (ha : okB a) (hb : okB b) (dx dy : Int) (hx : 0 ≤ dx ∧ dx ≤ 2097152) (hy : 0 ≤ dy ∧ dy ≤ 2097152) : Calls Tryz.prog 267 #[.agg (bC a), .agg (bC b), Ix dx, Ix dy] w fun r w' => r = .returned (Ix (max (dx - b.w) 0 * max (dx - b.w) 0 + max (dy - b.h) 0 * max (dy - b.h) 0 - a.w * a.w)) ∧ St β [] w' := by
 refine enter (n := 14) Tryz.func267 rfl Tryz.ntmps267 rfl ?_ hw
 refine c_seq ?_
 refine c_region ?_
 refine l_mv rfl rfl rfl (m_box (v := .agg (bC a)) rfl) ?_
 rintro _ _ ⟨b1, rfl, rfl⟩
 refine l_mv rfl rfl rfl (m_box (v := .agg (bC b)) rfl) ?_
 rintro _ _ ⟨b2, rfl, rfl⟩
 refine l_val (v := .int .i64 (0)) rfl rfl rfl (e_assign) ?_
 refine l_nil ?_
 refine f_then ?_
 refine c_seq ?_
 refine c_region ?_
 refine l_val (v := .agg (bC b)) rfl rfl rfl (e_load tf22 (cs := (bodyE b)) rfl (k_pt 0 (cs := (bC b)) (vs := (bodyE b)) rfl rfl) rfl) ?_
 refine l_val (v := .agg (bC a)) rfl rfl rfl (e_load tf22 (cs := (bodyE a)) rfl (k_pt 1 (cs := (bC a)) (vs := (bodyE a)) rfl rfl) rfl) ?_
 refine l_val (v := Ix (dx)) rfl rfl rfl (e_move) ?_
 refine l_val (v := Ix (dy)) rfl rfl rfl (e_move) ?_
 refine l_call rfl rfl rfl (cl_value (fst := []) (cap := []) (vs := [.agg (bC b), .agg (bC a), Ix (dx), Ix (dy)]) (all := [.agg (bC b), .agg (bC a), Ix (dx), Ix (dy)]) tf23 rfl rfl rfl) ?_
 intro w hw
 obtain ⟨β1, sb, kn, hw1, back⟩ := St.frame_all hw
 refine (boxCircle_ok β1 w hw1 b a hb ha (dx) (dy) ⟨by omega, by omega⟩ ⟨by omega, by omega⟩).mono ?_
 rintro e w' ⟨rfl, hw'⟩
 refine ⟨_, rfl, _, back _ _ hw', ?_⟩
 clear hw hw1 hw' back kn sb
 refine l_val (v := Ix (max ((dx) - b.w) 0 * max ((dx) - b.w) 0 + max ((dy) - b.h) 0 * max ((dy) - b.h) 0 - a.w * a.w)) rfl rfl rfl (e_assign) ?_
 refine l_nil ?_
 refine f_then ?_
 refine c_ret ?_
 refine ret1 Tryz.results267 (v := Ix (max ((dx) - b.w) 0 * max ((dx) - b.w) 0 + max ((dy) - b.h) 0 * max ((dy) - b.h) 0 - a.w * a.w)) rfl ?_
 intro w hw
 exact ⟨rfl, st_mask [false, false] rfl hw⟩
theorem circles_ok (β : Base) (w : World) (hw : St β [] w) (a b : KB) (ha : okB a) (hb : okB b) (dx dy : Int) (hx : 0 ≤ dx ∧ dx ≤ 2097152) (hy : 0 ≤ dy ∧ dy ≤ 2097152) : Calls Tryz.prog 268 #[.agg (bC a), .agg (bC b), Ix dx, Ix dy] w fun r w' => r = .returned (Ix (dx * dx + dy * dy - (a.w + b.w) * (a.w + b.w))) ∧ St β [] w' := by
 have a6 := ha.2.2.2.2.2.1
 have a7 := ha.2.2.2.2.2.2.1
 have b6 := hb.2.2.2.2.2.1
 have b7 := hb.2.2.2.2.2.2.1
 have q1 := sq_bd (x := dx) (B := 2097152) (by omega) (by omega)
 have q2 := sq_bd (x := dy) (B := 2097152) (by omega) (by omega)
 have q3 := sq_bd (x := a.w + b.w) (B := 32768) (by omega) (by omega)
 refine enter (n := 24) Tryz.func268 rfl Tryz.ntmps268 rfl ?_ hw
 refine c_seq ?_
 refine c_region ?_
 refine l_mv rfl rfl rfl (m_box (v := .agg (bC a)) rfl) ?_
 rintro _ _ ⟨b1, rfl, rfl⟩
 refine l_mv rfl rfl rfl (m_box (v := .agg (bC b)) rfl) ?_
 rintro _ _ ⟨b2, rfl, rfl⟩
 refine l_val (v := .int .i64 (0)) rfl rfl rfl (e_assign) ?_
 refine l_nil ?_
 refine f_then ?_
 refine c_seq ?_
 refine c_quiet (by kernel_rfl) (by kernel_rfl) ?_
 refine q_val (v := Ix (dx)) rfl rfl rfl (e_move) ?_
 refine q_val (v := Ix (dy)) rfl rfl rfl (e_move) ?_
 refine q_call (v := Ix ((dx) * (dx) + (dy) * (dy))) rfl rfl rfl (cl_value (fst := []) (cap := []) (vs := [Ix (dx), Ix (dy)]) (all := [Ix (dx), Ix (dy)]) tf21 rfl rfl rfl) (fun w hw => ?_) ?_
 ·obtain ⟨β1, sb, kn, hw1, back⟩ := St.frame_all hw
  exact (sq2_ok β1 w hw1 (dx) (dy) (by omega) (by omega)).mono (fun e w' ⟨he, hw'⟩ => ⟨he, st_mask [true, true] rfl (back _ _ hw')⟩)
 refine q_val (v := .pointer (some ⟨b1, 5, none⟩)) rfl rfl rfl (e_fieldPt (b := b1) (o := 0) rfl tf10) ?_
 refine q_val (v := Ix (a.w)) rfl rfl rfl (e_load1 tf2 (v := Ix (a.w)) rfl (k_pt 1 (cs := (bC a)) (vs := [Ix (a.w)]) rfl rfl)) ?_
 refine q_val (v := .pointer (some ⟨b2, 5, none⟩)) rfl rfl rfl (e_fieldPt (b := b2) (o := 0) rfl tf10) ?_
 refine q_val (v := Ix (b.w)) rfl rfl rfl (e_load1 tf2 (v := Ix (b.w)) rfl (k_pt 0 (cs := (bC b)) (vs := [Ix (b.w)]) rfl rfl)) ?_
 refine q_val (v := Ix ((a.w) + (b.w))) rfl rfl rfl (e_add (a := (a.w)) (b := (b.w)) rfl rfl (i64w (by omega))) ?_
 refine q_val (v := .pointer (some ⟨b1, 5, none⟩)) rfl rfl rfl (e_fieldPt (b := b1) (o := 0) rfl tf10) ?_
 refine q_val (v := Ix (a.w)) rfl rfl rfl (e_load1 tf2 (v := Ix (a.w)) rfl (k_pt 1 (cs := (bC a)) (vs := [Ix (a.w)]) rfl rfl)) ?_
 refine q_val (v := .pointer (some ⟨b2, 5, none⟩)) rfl rfl rfl (e_fieldPt (b := b2) (o := 0) rfl tf10) ?_
 refine q_val (v := Ix (b.w)) rfl rfl rfl (e_load1 tf2 (v := Ix (b.w)) rfl (k_pt 0 (cs := (bC b)) (vs := [Ix (b.w)]) rfl rfl)) ?_
 refine q_val (v := Ix ((a.w) + (b.w))) rfl rfl rfl (e_add (a := (a.w)) (b := (b.w)) rfl rfl (i64w (by omega))) ?_
 refine q_val (v := Ix (((a.w) + (b.w)) * ((a.w) + (b.w)))) rfl rfl rfl (e_mul (a := ((a.w) + (b.w))) (b := ((a.w) + (b.w))) rfl rfl (i64w (by omega))) ?_
 refine q_val (v := Ix (((dx) * (dx) + (dy) * (dy)) - (((a.w) + (b.w)) * ((a.w) + (b.w))))) rfl rfl rfl (e_sub (a := ((dx) * (dx) + (dy) * (dy))) (b := (((a.w) + (b.w)) * ((a.w) + (b.w)))) rfl rfl (i64w (by omega))) ?_
 refine q_val (v := Ix (((dx) * (dx) + (dy) * (dy)) - (((a.w) + (b.w)) * ((a.w) + (b.w))))) rfl rfl rfl (e_assign) ?_
 refine q_nil ?_
 refine f_then ?_
 refine c_ret ?_
 refine ret1 Tryz.results268 (v := Ix (((dx) * (dx) + (dy) * (dy)) - (((a.w) + (b.w)) * ((a.w) + (b.w))))) rfl ?_
 intro w hw
 exact ⟨rfl, st_mask [false, false] rfl hw⟩
set_option maxHeartbeats 4000000 in
theorem far_ok (β : Base) (w : World) (hw : St β [] w) (hG : GR β) (a b : KB) : Calls Tryz.prog 202 #[.agg (bC a), .agg (bC b)] w fun r w' => r = .returned (.tuple (farV a b)) ∧ St β [] w' := by
 refine enter (n := 40) Tryz.func202 rfl Tryz.ntmps202 rfl ?_ hw
 refine c_seq ?_
 refine c_region ?_
 refine l_mv rfl rfl rfl (m_box (v := .agg (bC a)) rfl) ?_
 rintro _ _ ⟨b1, rfl, rfl⟩
 refine l_mv rfl rfl rfl (m_box (v := .agg (bC b)) rfl) ?_
 rintro _ _ ⟨b2, rfl, rfl⟩
 refine l_val (v := .int .i64 (0)) rfl rfl rfl (e_assign) ?_
 refine l_val (v := .bool false) rfl rfl rfl (e_assign) ?_
 refine l_nil ?_
 refine f_then ?_
 refine c_seq ?_
 refine c_seq ?_
 refine c_region ?_
 refine l_val (v := .agg (bC a)) rfl rfl rfl (e_load tf22 (cs := (bodyE a)) rfl (k_pt 1 (cs := (bC a)) (vs := (bodyE a)) rfl rfl) rfl) ?_
 refine l_call rfl rfl rfl (cl_value (fst := []) (cap := []) (vs := [.agg (bC a)]) (all := [.agg (bC a)]) tf24 rfl rfl rfl) ?_
 intro w hw
 obtain ⟨β1, sb, kn, hw1, back⟩ := St.frame_all hw
 refine (valid_ok β1 w hw1 a).mono ?_
 rintro e w' ⟨rfl, hw'⟩
 refine ⟨_, rfl, _, back _ _ hw', ?_⟩
 clear hw hw1 hw' back kn sb
 refine l_val (v := .bool (decide (¬ (okB a)))) rfl rfl rfl (e_not_p (p := okB a) rfl) ?_
 refine l_val (v := .bool (decide (¬ (okB a)))) rfl rfl rfl (e_move) ?_
 refine l_split (s := 9) (p := ¬ (okB a)) rfl (fun hg3 => ?_) (fun hg3 => ?_)
 ·
  have hoa := hg3
  refine l_skip rfl rfl rfl rfl rfl rfl ?_
  refine l_skip rfl rfl rfl rfl rfl rfl ?_
  refine l_skip rfl rfl rfl rfl rfl rfl ?_
  refine l_val (v := .bool true) rfl rfl rfl (e_pick_t rfl) ?_
  refine l_nil ?_
  refine f_then ?_
  refine c_yes rfl ?_
  refine c_seq ?_
  refine c_region ?_
  refine l_val (v := .int .i64 (0)) rfl rfl rfl (e_assign) ?_
  refine l_val (v := .bool false) rfl rfl rfl (e_assign) ?_
  refine l_nil ?_
  refine f_then ?_
  refine c_ret ?_
  refine f_then_ret ?_
  refine ret2 (v := .int .i64 (0)) (v' := .bool false) Tryz.results202 rfl rfl ?_
  intro w hw
  exact ⟨congrArg (fun z => Ending.returned (.tuple z)) (farV_noA hoa).symm, st_mask [false, false] rfl hw⟩
 ·
  have hoa := Decidable.not_not.1 hg3
  refine g_val (v := .agg (bC b)) rfl rfl rfl rfl rfl (e_load tf22 (cs := (bodyE b)) rfl (k_pt 0 (cs := (bC b)) (vs := (bodyE b)) rfl rfl) rfl) ?_
  refine g_call rfl rfl rfl rfl rfl (cl_value (fst := []) (cap := []) (vs := [.agg (bC b)]) (all := [.agg (bC b)]) tf24 rfl rfl rfl) ?_
  intro w hw
  obtain ⟨β1, sb, kn, hw1, back⟩ := St.frame_all hw
  refine (valid_ok β1 w hw1 b).mono ?_
  rintro e w' ⟨rfl, hw'⟩
  refine ⟨_, rfl, _, back _ _ hw', ?_⟩
  clear hw hw1 hw' back kn sb
  refine g_val (v := .bool (decide (¬ (okB b)))) rfl rfl rfl rfl rfl (e_not_p (p := okB b) rfl) ?_
  refine l_val (v := .bool (decide (¬ (okB b)))) rfl rfl rfl (e_pick_f rfl) ?_
  refine l_nil ?_
  refine f_then ?_
  refine c_if (¬ (okB b)) rfl (fun hc4 => ?_) (fun hc4 => ?_)
  ·
   have hob := hc4
   refine c_seq ?_
   refine c_region ?_
   refine l_val (v := .int .i64 (0)) rfl rfl rfl (e_assign) ?_
   refine l_val (v := .bool false) rfl rfl rfl (e_assign) ?_
   refine l_nil ?_
   refine f_then ?_
   refine c_ret ?_
   refine f_then_ret ?_
   refine ret2 (v := .int .i64 (0)) (v' := .bool false) Tryz.results202 rfl rfl ?_
   intro w hw
   exact ⟨congrArg (fun z => Ending.returned (.tuple z)) (farV_noB hob).symm, st_mask [false, false] rfl hw⟩
  ·
   have hob := Decidable.not_not.1 hc4
   refine c_skip ?_
   refine f_then ?_
   refine c_seq ?_
   have ga2 := hoa.2.1
   have ga3 := hoa.2.2.1
   have gb2 := hob.2.1
   have gb3 := hob.2.2.1
   have dX : 0 ≤ Stp.abs (a.x - b.x) ∧ Stp.abs (a.x - b.x) ≤ 2097152 := by unfold Stp.abs; omega
   have dY : 0 ≤ Stp.abs (a.y - b.y) ∧ Stp.abs (a.y - b.y) ≤ 2097152 := by unfold Stp.abs; omega
   cases ra : a.round
   ·
    cases rb : b.round
    ·
     refine c_any [⟨[], [], [0], [14], fun f => f 14 = .agg (bC a)⟩, ⟨[0], [0], [], [15], fun f => f 15 = .int .i64 (0)⟩, ⟨[], [], [1], [16], fun f => f 16 = .agg (bC b)⟩, ⟨[0, 1, 2], [2], [], [17], fun f => f 17 = .int .i64 (0)⟩, ⟨[0, 1], [1], [], [18], fun f => f 18 = .pointer (some ((⟨0, 0, none⟩ : Addr).add (0 * 2)))⟩, ⟨[0, 1, 2, 3, 4], [4, 3], [], [19], fun f => f 19 = .pointer (some (((⟨0, 0, none⟩ : Addr).add (0 * 2) : Addr).add (0 * 1)))⟩, ⟨[0, 1, 2, 3, 4, 5], [5], [], [20], fun f => f 20 = .func (.func 265) #[] #[]⟩, ⟨[], [], [0], [21], fun f => f 21 = .agg (bC a)⟩, ⟨[], [], [1], [22], fun f => f 22 = .agg (bC b)⟩, ⟨[], [], [0], [23], fun f => f 23 = .pointer (some ⟨b1, 1, none⟩)⟩, ⟨[9], [9], [], [24], fun f => f 24 = .pointer (some ⟨b1, 1, none⟩)⟩, ⟨[9, 10], [10], [], [25], fun f => f 25 = Ix (a.x)⟩, ⟨[], [], [1], [26], fun f => f 26 = .pointer (some ⟨b2, 1, none⟩)⟩, ⟨[12], [12], [], [27], fun f => f 27 = .pointer (some ⟨b2, 1, none⟩)⟩, ⟨[12, 13], [13], [], [28], fun f => f 28 = Ix (b.x)⟩, ⟨[9, 10, 11, 12, 13, 14], [11, 14], [], [29], fun f => f 29 = Ix ((a.x) - (b.x))⟩, ⟨[0, 1, 2, 3, 9, 10, 11, 12, 13, 14, 15], [15], [], [30], fun f => f 30 = Ix (Stp.abs ((a.x) - (b.x)))⟩, ⟨[], [], [0], [31], fun f => f 31 = .pointer (some ⟨b1, 1, none⟩)⟩, ⟨[17], [17], [], [32], fun f => f 32 = .pointer (some ⟨b1, 2, none⟩)⟩, ⟨[17, 18], [18], [], [33], fun f => f 33 = Ix (a.y)⟩, ⟨[], [], [1], [34], fun f => f 34 = .pointer (some ⟨b2, 1, none⟩)⟩, ⟨[20], [20], [], [35], fun f => f 35 = .pointer (some ⟨b2, 2, none⟩)⟩, ⟨[20, 21], [21], [], [36], fun f => f 36 = Ix (b.y)⟩, ⟨[17, 18, 19, 20, 21, 22], [19, 22], [], [37], fun f => f 37 = Ix ((a.y) - (b.y))⟩, ⟨[0, 1, 2, 3, 9, 10, 11, 12, 13, 14, 15, 16, 17, 18, 19, 20, 21, 22, 23], [23], [], [38], fun f => f 38 = Ix (Stp.abs ((a.y) - (b.y)))⟩, ⟨[0, 1, 2, 3, 4, 5, 6, 7, 8, 9, 10, 11, 12, 13, 14, 15, 16, 17, 18, 19, 20, 21, 22, 23, 24], [6, 7, 8, 16, 24], [], [39], fun f => f 39 = Ix (max ((Stp.abs ((a.x) - (b.x))) - a.w - b.w) ((Stp.abs ((a.y) - (b.y))) - a.h - b.h))⟩, ⟨[0, 1, 2, 3, 4, 5, 6, 7, 8, 9, 10, 11, 12, 13, 14, 15, 16, 17, 18, 19, 20, 21, 22, 23, 24, 25], [25], [], [4], fun f => f 4 = Ix (max ((Stp.abs ((a.x) - (b.x))) - a.w - b.w) ((Stp.abs ((a.y) - (b.y))) - a.h - b.h))⟩, ⟨[0, 1, 2, 3, 4, 5, 6, 7, 8, 9, 10, 11, 12, 13, 14, 15, 16, 17, 18, 19, 20, 21, 22, 23, 24, 25, 26], [], [], [5], fun f => f 5 = .bool true⟩] [⟨none, none, [2, 8, 14, 22], [], fun _ => pt b2 (.cells (bC b) 52)⟩, ⟨none, none, [0, 7, 11, 19], [], fun _ => pt b1 (.cells (bC a) 52)⟩] [(2, .pointer (some ⟨b1, 0, none⟩)), (3, .pointer (some ⟨b2, 0, none⟩))] [] [] (by kernel_rfl) (by kernel_rfl) (by kernel_rfl) (by kernel_rfl) rfl ⟨rfl, rfl, trivial⟩ ⟨?_, ?_, ?_, ?_, ?_, ?_, ?_, ?_, ?_, ?_, ?_, ?_, ?_, ?_, ?_, ?_, ?_, ?_, ?_, ?_, ?_, ?_, ?_, ?_, ?_, ?_, ?_, ?_, trivial⟩ ?_
     ·rintro f M - ⟨i0, -⟩
      have hs2 : f 2 = .pointer (some ⟨b1, 0, none⟩) := i0
      refine ob_start (L' := pt b1 (.cells (bC a) 52) :: M) (by rfl) (up_cons rfl hs2) ?_
      refine l_val (v := .agg (bC a)) rfl rfl rfl (e_load tf22 (cs := (bodyE a)) rfl (k_pt 0 (cs := (bC a)) (vs := (bodyE a)) rfl rfl) rfl) ?_
      refine l_nil ?_
      exact f_owes_d (up_cons rfl hs2) rfl (perm_front 0 rfl)
     ·rintro f M ⟨k0, -⟩ -
      have hs14 : f 14 = .agg (bC a) := k0
      refine ob_start (L' := M) (by rfl) (up_cons rfl hs14) ?_
      refine l_call rfl rfl rfl (cl_value (fst := []) (cap := []) (vs := [.agg (bC a)]) (all := [.agg (bC a)]) tf25 rfl rfl rfl) ?_
      intro w hw
      obtain ⟨β1, sb, kn, hw1, back⟩ := St.frame_all hw
      refine (kind0_ok β1 w hw1 a ra).mono ?_
      rintro e w' ⟨rfl, hw'⟩
      refine ⟨_, rfl, _, back _ _ hw', ?_⟩
      clear hw hw1 hw' back kn sb
      refine l_nil ?_
      exact f_owes_d (up_cons rfl hs14) rfl (List.Perm.refl _)
     ·rintro f M - ⟨i0, -⟩
      have hs3 : f 3 = .pointer (some ⟨b2, 0, none⟩) := i0
      refine ob_start (L' := pt b2 (.cells (bC b) 52) :: M) (by rfl) (up_cons rfl hs3) ?_
      refine l_val (v := .agg (bC b)) rfl rfl rfl (e_load tf22 (cs := (bodyE b)) rfl (k_pt 0 (cs := (bC b)) (vs := (bodyE b)) rfl rfl) rfl) ?_
      refine l_nil ?_
      exact f_owes_d (up_cons rfl hs3) rfl (perm_front 0 rfl)
     ·rintro f M ⟨k0, -⟩ -
      have hs16 : f 16 = .agg (bC b) := k0
      refine ob_start (L' := M) (by rfl) (up_cons rfl hs16) ?_
      refine l_call rfl rfl rfl (cl_value (fst := []) (cap := []) (vs := [.agg (bC b)]) (all := [.agg (bC b)]) tf25 rfl rfl rfl) ?_
      intro w hw
      obtain ⟨β1, sb, kn, hw1, back⟩ := St.frame_all hw
      refine (kind0_ok β1 w hw1 b rb).mono ?_
      rintro e w' ⟨rfl, hw'⟩
      refine ⟨_, rfl, _, back _ _ hw', ?_⟩
      clear hw hw1 hw' back kn sb
      refine l_nil ?_
      exact f_owes_d (up_cons rfl hs16) rfl (List.Perm.refl _)
     ·rintro f M ⟨k0, -⟩ -
      have hs15 : f 15 = .int .i64 (0) := k0
      refine ob_start (L' := M) (by rfl) (up_cons rfl hs15) ?_
      refine l_val (v := .pointer (some ((⟨0, 0, none⟩ : Addr).add (0 * 2)))) rfl rfl rfl (e_indexArr (a := ⟨0, 0, none⟩) (k := 0) rfl rfl tf26 (by decide)) ?_
      refine l_nil ?_
      exact f_owes_d (up_cons rfl hs15) rfl (List.Perm.refl _)
     ·rintro f M ⟨k0, k1, -⟩ -
      have hs18 : f 18 = .pointer (some ((⟨0, 0, none⟩ : Addr).add (0 * 2))) := k0
      have hs17 : f 17 = .int .i64 (0) := k1
      refine ob_start (L' := M) (by rfl) (up_cons (up_cons rfl hs18) hs17) ?_
      refine l_val (v := .pointer (some (((⟨0, 0, none⟩ : Addr).add (0 * 2) : Addr).add (0 * 1)))) rfl rfl rfl (e_indexArr (a := (⟨0, 0, none⟩ : Addr).add (0 * 2)) (k := 0) rfl rfl tf27 (by decide)) ?_
      refine l_nil ?_
      exact f_owes_d (up_cons (up_cons rfl hs18) hs17) rfl (List.Perm.refl _)
     ·rintro f M ⟨k0, -⟩ -
      have hs19 : f 19 = .pointer (some (((⟨0, 0, none⟩ : Addr).add (0 * 2) : Addr).add (0 * 1))) := k0
      refine ob_start (L' := M) (by rfl) (up_cons rfl hs19) ?_
      refine l_val (v := .func (.func 265) #[] #[]) rfl rfl rfl (e_load1 tf28 (v := .func (.func 265) #[] #[]) rfl (Knows.imp (Knows.imp (Knows.of_base (Cs.mono _ _) hG) (fun _ h => Cs.sub (vs := [.func (.func 265) #[] #[], .func (.func 266) #[] #[]]) (0 * 2) h rfl)) (fun _ h => Cs.sub (vs := [.func (.func 265) #[] #[]]) (0 * 1) h rfl))) ?_
      refine l_nil ?_
      exact f_owes_d (up_cons rfl hs19) rfl (List.Perm.refl _)
     ·rintro f M - ⟨i0, -⟩
      have hs2 : f 2 = .pointer (some ⟨b1, 0, none⟩) := i0
      refine ob_start (L' := pt b1 (.cells (bC a) 52) :: M) (by rfl) (up_cons rfl hs2) ?_
      refine l_val (v := .agg (bC a)) rfl rfl rfl (e_load tf22 (cs := (bodyE a)) rfl (k_pt 0 (cs := (bC a)) (vs := (bodyE a)) rfl rfl) rfl) ?_
      refine l_nil ?_
      exact f_owes_d (up_cons rfl hs2) rfl (perm_front 0 rfl)
     ·rintro f M - ⟨i0, -⟩
      have hs3 : f 3 = .pointer (some ⟨b2, 0, none⟩) := i0
      refine ob_start (L' := pt b2 (.cells (bC b) 52) :: M) (by rfl) (up_cons rfl hs3) ?_
      refine l_val (v := .agg (bC b)) rfl rfl rfl (e_load tf22 (cs := (bodyE b)) rfl (k_pt 0 (cs := (bC b)) (vs := (bodyE b)) rfl rfl) rfl) ?_
      refine l_nil ?_
      exact f_owes_d (up_cons rfl hs3) rfl (perm_front 0 rfl)
     ·rintro f M - ⟨i0, -⟩
      have hs2 : f 2 = .pointer (some ⟨b1, 0, none⟩) := i0
      refine ob_start (L' := M) (by rfl) (up_cons rfl hs2) ?_
      refine l_val (v := .pointer (some ⟨b1, 1, none⟩)) rfl rfl rfl (e_fieldPt (b := b1) (o := 0) rfl tf6) ?_
      refine l_nil ?_
      exact f_owes_d (up_cons rfl hs2) rfl (List.Perm.refl _)
     ·rintro f M ⟨k0, -⟩ -
      have hs23 : f 23 = .pointer (some ⟨b1, 1, none⟩) := k0
      refine ob_start (L' := M) (by rfl) (up_cons rfl hs23) ?_
      refine l_val (v := .pointer (some ⟨b1, 1, none⟩)) rfl rfl rfl (e_fieldPt (b := b1) (o := 1) rfl tf7) ?_
      refine l_nil ?_
      exact f_owes_d (up_cons rfl hs23) rfl (List.Perm.refl _)
     ·rintro f M ⟨k0, -⟩ -
      have hs24 : f 24 = .pointer (some ⟨b1, 1, none⟩) := k0
      refine ob_start (L' := pt b1 (.cells (bC a) 52) :: M) (by rfl) (up_cons rfl hs24) ?_
      refine l_val (v := Ix (a.x)) rfl rfl rfl (e_load1 tf2 (v := Ix (a.x)) rfl (k_pt 0 (cs := (bC a)) (vs := [Ix (a.x)]) rfl rfl)) ?_
      refine l_nil ?_
      exact f_owes_d (up_cons rfl hs24) rfl (perm_front 0 rfl)
     ·rintro f M - ⟨i0, -⟩
      have hs3 : f 3 = .pointer (some ⟨b2, 0, none⟩) := i0
      refine ob_start (L' := M) (by rfl) (up_cons rfl hs3) ?_
      refine l_val (v := .pointer (some ⟨b2, 1, none⟩)) rfl rfl rfl (e_fieldPt (b := b2) (o := 0) rfl tf6) ?_
      refine l_nil ?_
      exact f_owes_d (up_cons rfl hs3) rfl (List.Perm.refl _)
     ·rintro f M ⟨k0, -⟩ -
      have hs26 : f 26 = .pointer (some ⟨b2, 1, none⟩) := k0
      refine ob_start (L' := M) (by rfl) (up_cons rfl hs26) ?_
      refine l_val (v := .pointer (some ⟨b2, 1, none⟩)) rfl rfl rfl (e_fieldPt (b := b2) (o := 1) rfl tf7) ?_
      refine l_nil ?_
      exact f_owes_d (up_cons rfl hs26) rfl (List.Perm.refl _)
     ·rintro f M ⟨k0, -⟩ -
      have hs27 : f 27 = .pointer (some ⟨b2, 1, none⟩) := k0
      refine ob_start (L' := pt b2 (.cells (bC b) 52) :: M) (by rfl) (up_cons rfl hs27) ?_
      refine l_val (v := Ix (b.x)) rfl rfl rfl (e_load1 tf2 (v := Ix (b.x)) rfl (k_pt 0 (cs := (bC b)) (vs := [Ix (b.x)]) rfl rfl)) ?_
      refine l_nil ?_
      exact f_owes_d (up_cons rfl hs27) rfl (perm_front 0 rfl)
     ·rintro f M ⟨k0, k1, -⟩ -
      have hs25 : f 25 = Ix (a.x) := k0
      have hs28 : f 28 = Ix (b.x) := k1
      refine ob_start (L' := M) (by rfl) (up_cons (up_cons rfl hs25) hs28) ?_
      refine l_val (v := Ix ((a.x) - (b.x))) rfl rfl rfl (e_sub (a := (a.x)) (b := (b.x)) rfl rfl (i64w (by omega))) ?_
      refine l_nil ?_
      exact f_owes_d (up_cons (up_cons rfl hs25) hs28) rfl (List.Perm.refl _)
     ·rintro f M ⟨k0, -⟩ -
      have hs29 : f 29 = Ix ((a.x) - (b.x)) := k0
      refine ob_start (L' := M) (by rfl) (up_cons rfl hs29) ?_
      refine l_call rfl rfl rfl (cl_value (fst := []) (cap := []) (vs := [Ix ((a.x) - (b.x))]) (all := [Ix ((a.x) - (b.x))]) tf29 rfl rfl rfl) ?_
      intro w hw
      obtain ⟨β1, sb, kn, hw1, back⟩ := St.frame_all hw
      refine (abs_ok β1 w hw1 ((a.x) - (b.x)) (by omega)).mono ?_
      rintro e w' ⟨rfl, hw'⟩
      refine ⟨_, rfl, _, back _ _ hw', ?_⟩
      clear hw hw1 hw' back kn sb
      refine l_nil ?_
      exact f_owes_d (up_cons rfl hs29) rfl (List.Perm.refl _)
     ·rintro f M - ⟨i0, -⟩
      have hs2 : f 2 = .pointer (some ⟨b1, 0, none⟩) := i0
      refine ob_start (L' := M) (by rfl) (up_cons rfl hs2) ?_
      refine l_val (v := .pointer (some ⟨b1, 1, none⟩)) rfl rfl rfl (e_fieldPt (b := b1) (o := 0) rfl tf6) ?_
      refine l_nil ?_
      exact f_owes_d (up_cons rfl hs2) rfl (List.Perm.refl _)
     ·rintro f M ⟨k0, -⟩ -
      have hs31 : f 31 = .pointer (some ⟨b1, 1, none⟩) := k0
      refine ob_start (L' := M) (by rfl) (up_cons rfl hs31) ?_
      refine l_val (v := .pointer (some ⟨b1, 2, none⟩)) rfl rfl rfl (e_fieldPt (b := b1) (o := 1) rfl tf8) ?_
      refine l_nil ?_
      exact f_owes_d (up_cons rfl hs31) rfl (List.Perm.refl _)
     ·rintro f M ⟨k0, -⟩ -
      have hs32 : f 32 = .pointer (some ⟨b1, 2, none⟩) := k0
      refine ob_start (L' := pt b1 (.cells (bC a) 52) :: M) (by rfl) (up_cons rfl hs32) ?_
      refine l_val (v := Ix (a.y)) rfl rfl rfl (e_load1 tf2 (v := Ix (a.y)) rfl (k_pt 0 (cs := (bC a)) (vs := [Ix (a.y)]) rfl rfl)) ?_
      refine l_nil ?_
      exact f_owes_d (up_cons rfl hs32) rfl (perm_front 0 rfl)
     ·rintro f M - ⟨i0, -⟩
      have hs3 : f 3 = .pointer (some ⟨b2, 0, none⟩) := i0
      refine ob_start (L' := M) (by rfl) (up_cons rfl hs3) ?_
      refine l_val (v := .pointer (some ⟨b2, 1, none⟩)) rfl rfl rfl (e_fieldPt (b := b2) (o := 0) rfl tf6) ?_
      refine l_nil ?_
      exact f_owes_d (up_cons rfl hs3) rfl (List.Perm.refl _)
     ·rintro f M ⟨k0, -⟩ -
      have hs34 : f 34 = .pointer (some ⟨b2, 1, none⟩) := k0
      refine ob_start (L' := M) (by rfl) (up_cons rfl hs34) ?_
      refine l_val (v := .pointer (some ⟨b2, 2, none⟩)) rfl rfl rfl (e_fieldPt (b := b2) (o := 1) rfl tf8) ?_
      refine l_nil ?_
      exact f_owes_d (up_cons rfl hs34) rfl (List.Perm.refl _)
     ·rintro f M ⟨k0, -⟩ -
      have hs35 : f 35 = .pointer (some ⟨b2, 2, none⟩) := k0
      refine ob_start (L' := pt b2 (.cells (bC b) 52) :: M) (by rfl) (up_cons rfl hs35) ?_
      refine l_val (v := Ix (b.y)) rfl rfl rfl (e_load1 tf2 (v := Ix (b.y)) rfl (k_pt 0 (cs := (bC b)) (vs := [Ix (b.y)]) rfl rfl)) ?_
      refine l_nil ?_
      exact f_owes_d (up_cons rfl hs35) rfl (perm_front 0 rfl)
     ·rintro f M ⟨k0, k1, -⟩ -
      have hs33 : f 33 = Ix (a.y) := k0
      have hs36 : f 36 = Ix (b.y) := k1
      refine ob_start (L' := M) (by rfl) (up_cons (up_cons rfl hs33) hs36) ?_
      refine l_val (v := Ix ((a.y) - (b.y))) rfl rfl rfl (e_sub (a := (a.y)) (b := (b.y)) rfl rfl (i64w (by omega))) ?_
      refine l_nil ?_
      exact f_owes_d (up_cons (up_cons rfl hs33) hs36) rfl (List.Perm.refl _)
     ·rintro f M ⟨k0, -⟩ -
      have hs37 : f 37 = Ix ((a.y) - (b.y)) := k0
      refine ob_start (L' := M) (by rfl) (up_cons rfl hs37) ?_
      refine l_call rfl rfl rfl (cl_value (fst := []) (cap := []) (vs := [Ix ((a.y) - (b.y))]) (all := [Ix ((a.y) - (b.y))]) tf29 rfl rfl rfl) ?_
      intro w hw
      obtain ⟨β1, sb, kn, hw1, back⟩ := St.frame_all hw
      refine (abs_ok β1 w hw1 ((a.y) - (b.y)) (by omega)).mono ?_
      rintro e w' ⟨rfl, hw'⟩
      refine ⟨_, rfl, _, back _ _ hw', ?_⟩
      clear hw hw1 hw' back kn sb
      refine l_nil ?_
      exact f_owes_d (up_cons rfl hs37) rfl (List.Perm.refl _)
     ·rintro f M ⟨k0, k1, k2, k3, k4, -⟩ -
      have hs20 : f 20 = .func (.func 265) #[] #[] := k0
      have hs21 : f 21 = .agg (bC a) := k1
      have hs22 : f 22 = .agg (bC b) := k2
      have hs30 : f 30 = Ix (Stp.abs ((a.x) - (b.x))) := k3
      have hs38 : f 38 = Ix (Stp.abs ((a.y) - (b.y))) := k4
      refine ob_start (L' := M) (by rfl) (up_cons (up_cons (up_cons (up_cons (up_cons rfl hs20) hs21) hs22) hs30) hs38) ?_
      refine l_call rfl rfl rfl (cl_value (fst := []) (cap := []) (vs := [.agg (bC a), .agg (bC b), Ix (Stp.abs ((a.x) - (b.x))), Ix (Stp.abs ((a.y) - (b.y)))]) (all := [.agg (bC a), .agg (bC b), Ix (Stp.abs ((a.x) - (b.x))), Ix (Stp.abs ((a.y) - (b.y)))]) tf30 rfl rfl rfl) ?_
      intro w hw
      obtain ⟨β1, sb, kn, hw1, back⟩ := St.frame_all hw
      refine (boxes_ok β1 w hw1 a b hoa hob (Stp.abs ((a.x) - (b.x))) (Stp.abs ((a.y) - (b.y))) dX dY).mono ?_
      rintro e w' ⟨rfl, hw'⟩
      refine ⟨_, rfl, _, back _ _ hw', ?_⟩
      clear hw hw1 hw' back kn sb
      refine l_nil ?_
      exact f_owes_d (up_cons (up_cons (up_cons (up_cons (up_cons rfl hs20) hs21) hs22) hs30) hs38) rfl (List.Perm.refl _)
     ·rintro f M ⟨k0, -⟩ -
      have hs39 : f 39 = Ix (max ((Stp.abs ((a.x) - (b.x))) - a.w - b.w) ((Stp.abs ((a.y) - (b.y))) - a.h - b.h)) := k0
      refine ob_start (L' := M) (by rfl) (up_cons rfl hs39) ?_
      refine l_val (v := Ix (max ((Stp.abs ((a.x) - (b.x))) - a.w - b.w) ((Stp.abs ((a.y) - (b.y))) - a.h - b.h))) rfl rfl rfl (e_assign) ?_
      refine l_nil ?_
      exact f_owes_d (up_cons rfl hs39) rfl (List.Perm.refl _)
     ·rintro f M - -
      refine ob_start (L' := M) (by rfl) rfl ?_
      refine l_val (v := .bool true) rfl rfl rfl (e_assign) ?_
      refine l_nil ?_
      exact f_owes_d rfl rfl (List.Perm.refl _)
     rintro fa5 ⟨-, -, -, -, -, -, -, -, -, -, -, -, -, -, -, -, -, -, -, -, -, -, -, -, -, -, k26, k27, -⟩ -
     refine f_re (L' := [pt b2 (.cells (bC b) 52), pt b1 (.cells (bC a) 52)]) (by rfl) ?_
     refine f_rebase (d := 4) (v := Ix (max ((Stp.abs ((a.x) - (b.x))) - a.w - b.w) ((Stp.abs ((a.y) - (b.y))) - a.h - b.h))) k26 ?_
     refine f_rebase (d := 5) (v := .bool true) k27 ?_
     refine f_then ?_
     refine c_ret ?_
     refine ret2 (v := Ix (max ((Stp.abs ((a.x) - (b.x))) - a.w - b.w) ((Stp.abs ((a.y) - (b.y))) - a.h - b.h))) (v' := .bool true) Tryz.results202 rfl rfl ?_
     intro w hw
     exact ⟨congrArg (fun z => Ending.returned (.tuple z)) (farV_yes hoa hob (room_ff ra rb _ _)).symm, st_mask [false, false] rfl hw⟩
    ·
     refine c_any [⟨[], [], [0], [14], fun f => f 14 = .agg (bC a)⟩, ⟨[0], [0], [], [15], fun f => f 15 = .int .i64 (0)⟩, ⟨[], [], [1], [16], fun f => f 16 = .agg (bC b)⟩, ⟨[0, 1, 2], [2], [], [17], fun f => f 17 = .int .i64 (1)⟩, ⟨[0, 1], [1], [], [18], fun f => f 18 = .pointer (some ((⟨0, 0, none⟩ : Addr).add (0 * 2)))⟩, ⟨[0, 1, 2, 3, 4], [4, 3], [], [19], fun f => f 19 = .pointer (some (((⟨0, 0, none⟩ : Addr).add (0 * 2) : Addr).add (1 * 1)))⟩, ⟨[0, 1, 2, 3, 4, 5], [5], [], [20], fun f => f 20 = .func (.func 266) #[] #[]⟩, ⟨[], [], [0], [21], fun f => f 21 = .agg (bC a)⟩, ⟨[], [], [1], [22], fun f => f 22 = .agg (bC b)⟩, ⟨[], [], [0], [23], fun f => f 23 = .pointer (some ⟨b1, 1, none⟩)⟩, ⟨[9], [9], [], [24], fun f => f 24 = .pointer (some ⟨b1, 1, none⟩)⟩, ⟨[9, 10], [10], [], [25], fun f => f 25 = Ix (a.x)⟩, ⟨[], [], [1], [26], fun f => f 26 = .pointer (some ⟨b2, 1, none⟩)⟩, ⟨[12], [12], [], [27], fun f => f 27 = .pointer (some ⟨b2, 1, none⟩)⟩, ⟨[12, 13], [13], [], [28], fun f => f 28 = Ix (b.x)⟩, ⟨[9, 10, 11, 12, 13, 14], [11, 14], [], [29], fun f => f 29 = Ix ((a.x) - (b.x))⟩, ⟨[0, 1, 2, 3, 9, 10, 11, 12, 13, 14, 15], [15], [], [30], fun f => f 30 = Ix (Stp.abs ((a.x) - (b.x)))⟩, ⟨[], [], [0], [31], fun f => f 31 = .pointer (some ⟨b1, 1, none⟩)⟩, ⟨[17], [17], [], [32], fun f => f 32 = .pointer (some ⟨b1, 2, none⟩)⟩, ⟨[17, 18], [18], [], [33], fun f => f 33 = Ix (a.y)⟩, ⟨[], [], [1], [34], fun f => f 34 = .pointer (some ⟨b2, 1, none⟩)⟩, ⟨[20], [20], [], [35], fun f => f 35 = .pointer (some ⟨b2, 2, none⟩)⟩, ⟨[20, 21], [21], [], [36], fun f => f 36 = Ix (b.y)⟩, ⟨[17, 18, 19, 20, 21, 22], [19, 22], [], [37], fun f => f 37 = Ix ((a.y) - (b.y))⟩, ⟨[0, 1, 2, 3, 9, 10, 11, 12, 13, 14, 15, 16, 17, 18, 19, 20, 21, 22, 23], [23], [], [38], fun f => f 38 = Ix (Stp.abs ((a.y) - (b.y)))⟩, ⟨[0, 1, 2, 3, 4, 5, 6, 7, 8, 9, 10, 11, 12, 13, 14, 15, 16, 17, 18, 19, 20, 21, 22, 23, 24], [6, 7, 8, 16, 24], [], [39], fun f => f 39 = Ix (max ((Stp.abs ((a.x) - (b.x))) - a.w) 0 * max ((Stp.abs ((a.x) - (b.x))) - a.w) 0 + max ((Stp.abs ((a.y) - (b.y))) - a.h) 0 * max ((Stp.abs ((a.y) - (b.y))) - a.h) 0 - b.w * b.w)⟩, ⟨[0, 1, 2, 3, 4, 5, 6, 7, 8, 9, 10, 11, 12, 13, 14, 15, 16, 17, 18, 19, 20, 21, 22, 23, 24, 25], [25], [], [4], fun f => f 4 = Ix (max ((Stp.abs ((a.x) - (b.x))) - a.w) 0 * max ((Stp.abs ((a.x) - (b.x))) - a.w) 0 + max ((Stp.abs ((a.y) - (b.y))) - a.h) 0 * max ((Stp.abs ((a.y) - (b.y))) - a.h) 0 - b.w * b.w)⟩, ⟨[0, 1, 2, 3, 4, 5, 6, 7, 8, 9, 10, 11, 12, 13, 14, 15, 16, 17, 18, 19, 20, 21, 22, 23, 24, 25, 26], [], [], [5], fun f => f 5 = .bool true⟩] [⟨none, none, [2, 8, 14, 22], [], fun _ => pt b2 (.cells (bC b) 52)⟩, ⟨none, none, [0, 7, 11, 19], [], fun _ => pt b1 (.cells (bC a) 52)⟩] [(2, .pointer (some ⟨b1, 0, none⟩)), (3, .pointer (some ⟨b2, 0, none⟩))] [] [] (by kernel_rfl) (by kernel_rfl) (by kernel_rfl) (by kernel_rfl) rfl ⟨rfl, rfl, trivial⟩ ⟨?_, ?_, ?_, ?_, ?_, ?_, ?_, ?_, ?_, ?_, ?_, ?_, ?_, ?_, ?_, ?_, ?_, ?_, ?_, ?_, ?_, ?_, ?_, ?_, ?_, ?_, ?_, ?_, trivial⟩ ?_
     ·rintro f M - ⟨i0, -⟩
      have hs2 : f 2 = .pointer (some ⟨b1, 0, none⟩) := i0
      refine ob_start (L' := pt b1 (.cells (bC a) 52) :: M) (by rfl) (up_cons rfl hs2) ?_
      refine l_val (v := .agg (bC a)) rfl rfl rfl (e_load tf22 (cs := (bodyE a)) rfl (k_pt 0 (cs := (bC a)) (vs := (bodyE a)) rfl rfl) rfl) ?_
      refine l_nil ?_
      exact f_owes_d (up_cons rfl hs2) rfl (perm_front 0 rfl)
     ·rintro f M ⟨k0, -⟩ -
      have hs14 : f 14 = .agg (bC a) := k0
      refine ob_start (L' := M) (by rfl) (up_cons rfl hs14) ?_
      refine l_call rfl rfl rfl (cl_value (fst := []) (cap := []) (vs := [.agg (bC a)]) (all := [.agg (bC a)]) tf25 rfl rfl rfl) ?_
      intro w hw
      obtain ⟨β1, sb, kn, hw1, back⟩ := St.frame_all hw
      refine (kind0_ok β1 w hw1 a ra).mono ?_
      rintro e w' ⟨rfl, hw'⟩
      refine ⟨_, rfl, _, back _ _ hw', ?_⟩
      clear hw hw1 hw' back kn sb
      refine l_nil ?_
      exact f_owes_d (up_cons rfl hs14) rfl (List.Perm.refl _)
     ·rintro f M - ⟨i0, -⟩
      have hs3 : f 3 = .pointer (some ⟨b2, 0, none⟩) := i0
      refine ob_start (L' := pt b2 (.cells (bC b) 52) :: M) (by rfl) (up_cons rfl hs3) ?_
      refine l_val (v := .agg (bC b)) rfl rfl rfl (e_load tf22 (cs := (bodyE b)) rfl (k_pt 0 (cs := (bC b)) (vs := (bodyE b)) rfl rfl) rfl) ?_
      refine l_nil ?_
      exact f_owes_d (up_cons rfl hs3) rfl (perm_front 0 rfl)
     ·rintro f M ⟨k0, -⟩ -
      have hs16 : f 16 = .agg (bC b) := k0
      refine ob_start (L' := M) (by rfl) (up_cons rfl hs16) ?_
      refine l_call rfl rfl rfl (cl_value (fst := []) (cap := []) (vs := [.agg (bC b)]) (all := [.agg (bC b)]) tf25 rfl rfl rfl) ?_
      intro w hw
      obtain ⟨β1, sb, kn, hw1, back⟩ := St.frame_all hw
      refine (kind1_ok β1 w hw1 b rb).mono ?_
      rintro e w' ⟨rfl, hw'⟩
      refine ⟨_, rfl, _, back _ _ hw', ?_⟩
      clear hw hw1 hw' back kn sb
      refine l_nil ?_
      exact f_owes_d (up_cons rfl hs16) rfl (List.Perm.refl _)
     ·rintro f M ⟨k0, -⟩ -
      have hs15 : f 15 = .int .i64 (0) := k0
      refine ob_start (L' := M) (by rfl) (up_cons rfl hs15) ?_
      refine l_val (v := .pointer (some ((⟨0, 0, none⟩ : Addr).add (0 * 2)))) rfl rfl rfl (e_indexArr (a := ⟨0, 0, none⟩) (k := 0) rfl rfl tf26 (by decide)) ?_
      refine l_nil ?_
      exact f_owes_d (up_cons rfl hs15) rfl (List.Perm.refl _)
     ·rintro f M ⟨k0, k1, -⟩ -
      have hs18 : f 18 = .pointer (some ((⟨0, 0, none⟩ : Addr).add (0 * 2))) := k0
      have hs17 : f 17 = .int .i64 (1) := k1
      refine ob_start (L' := M) (by rfl) (up_cons (up_cons rfl hs18) hs17) ?_
      refine l_val (v := .pointer (some (((⟨0, 0, none⟩ : Addr).add (0 * 2) : Addr).add (1 * 1)))) rfl rfl rfl (e_indexArr (a := (⟨0, 0, none⟩ : Addr).add (0 * 2)) (k := 1) rfl rfl tf27 (by decide)) ?_
      refine l_nil ?_
      exact f_owes_d (up_cons (up_cons rfl hs18) hs17) rfl (List.Perm.refl _)
     ·rintro f M ⟨k0, -⟩ -
      have hs19 : f 19 = .pointer (some (((⟨0, 0, none⟩ : Addr).add (0 * 2) : Addr).add (1 * 1))) := k0
      refine ob_start (L' := M) (by rfl) (up_cons rfl hs19) ?_
      refine l_val (v := .func (.func 266) #[] #[]) rfl rfl rfl (e_load1 tf28 (v := .func (.func 266) #[] #[]) rfl (Knows.imp (Knows.imp (Knows.of_base (Cs.mono _ _) hG) (fun _ h => Cs.sub (vs := [.func (.func 265) #[] #[], .func (.func 266) #[] #[]]) (0 * 2) h rfl)) (fun _ h => Cs.sub (vs := [.func (.func 266) #[] #[]]) (1 * 1) h rfl))) ?_
      refine l_nil ?_
      exact f_owes_d (up_cons rfl hs19) rfl (List.Perm.refl _)
     ·rintro f M - ⟨i0, -⟩
      have hs2 : f 2 = .pointer (some ⟨b1, 0, none⟩) := i0
      refine ob_start (L' := pt b1 (.cells (bC a) 52) :: M) (by rfl) (up_cons rfl hs2) ?_
      refine l_val (v := .agg (bC a)) rfl rfl rfl (e_load tf22 (cs := (bodyE a)) rfl (k_pt 0 (cs := (bC a)) (vs := (bodyE a)) rfl rfl) rfl) ?_
      refine l_nil ?_
      exact f_owes_d (up_cons rfl hs2) rfl (perm_front 0 rfl)
     ·rintro f M - ⟨i0, -⟩
      have hs3 : f 3 = .pointer (some ⟨b2, 0, none⟩) := i0
      refine ob_start (L' := pt b2 (.cells (bC b) 52) :: M) (by rfl) (up_cons rfl hs3) ?_
      refine l_val (v := .agg (bC b)) rfl rfl rfl (e_load tf22 (cs := (bodyE b)) rfl (k_pt 0 (cs := (bC b)) (vs := (bodyE b)) rfl rfl) rfl) ?_
      refine l_nil ?_
      exact f_owes_d (up_cons rfl hs3) rfl (perm_front 0 rfl)
     ·rintro f M - ⟨i0, -⟩
      have hs2 : f 2 = .pointer (some ⟨b1, 0, none⟩) := i0
      refine ob_start (L' := M) (by rfl) (up_cons rfl hs2) ?_
      refine l_val (v := .pointer (some ⟨b1, 1, none⟩)) rfl rfl rfl (e_fieldPt (b := b1) (o := 0) rfl tf6) ?_
      refine l_nil ?_
      exact f_owes_d (up_cons rfl hs2) rfl (List.Perm.refl _)
     ·rintro f M ⟨k0, -⟩ -
      have hs23 : f 23 = .pointer (some ⟨b1, 1, none⟩) := k0
      refine ob_start (L' := M) (by rfl) (up_cons rfl hs23) ?_
      refine l_val (v := .pointer (some ⟨b1, 1, none⟩)) rfl rfl rfl (e_fieldPt (b := b1) (o := 1) rfl tf7) ?_
      refine l_nil ?_
      exact f_owes_d (up_cons rfl hs23) rfl (List.Perm.refl _)
     ·rintro f M ⟨k0, -⟩ -
      have hs24 : f 24 = .pointer (some ⟨b1, 1, none⟩) := k0
      refine ob_start (L' := pt b1 (.cells (bC a) 52) :: M) (by rfl) (up_cons rfl hs24) ?_
      refine l_val (v := Ix (a.x)) rfl rfl rfl (e_load1 tf2 (v := Ix (a.x)) rfl (k_pt 0 (cs := (bC a)) (vs := [Ix (a.x)]) rfl rfl)) ?_
      refine l_nil ?_
      exact f_owes_d (up_cons rfl hs24) rfl (perm_front 0 rfl)
     ·rintro f M - ⟨i0, -⟩
      have hs3 : f 3 = .pointer (some ⟨b2, 0, none⟩) := i0
      refine ob_start (L' := M) (by rfl) (up_cons rfl hs3) ?_
      refine l_val (v := .pointer (some ⟨b2, 1, none⟩)) rfl rfl rfl (e_fieldPt (b := b2) (o := 0) rfl tf6) ?_
      refine l_nil ?_
      exact f_owes_d (up_cons rfl hs3) rfl (List.Perm.refl _)
     ·rintro f M ⟨k0, -⟩ -
      have hs26 : f 26 = .pointer (some ⟨b2, 1, none⟩) := k0
      refine ob_start (L' := M) (by rfl) (up_cons rfl hs26) ?_
      refine l_val (v := .pointer (some ⟨b2, 1, none⟩)) rfl rfl rfl (e_fieldPt (b := b2) (o := 1) rfl tf7) ?_
      refine l_nil ?_
      exact f_owes_d (up_cons rfl hs26) rfl (List.Perm.refl _)
     ·rintro f M ⟨k0, -⟩ -
      have hs27 : f 27 = .pointer (some ⟨b2, 1, none⟩) := k0
      refine ob_start (L' := pt b2 (.cells (bC b) 52) :: M) (by rfl) (up_cons rfl hs27) ?_
      refine l_val (v := Ix (b.x)) rfl rfl rfl (e_load1 tf2 (v := Ix (b.x)) rfl (k_pt 0 (cs := (bC b)) (vs := [Ix (b.x)]) rfl rfl)) ?_
      refine l_nil ?_
      exact f_owes_d (up_cons rfl hs27) rfl (perm_front 0 rfl)
     ·rintro f M ⟨k0, k1, -⟩ -
      have hs25 : f 25 = Ix (a.x) := k0
      have hs28 : f 28 = Ix (b.x) := k1
      refine ob_start (L' := M) (by rfl) (up_cons (up_cons rfl hs25) hs28) ?_
      refine l_val (v := Ix ((a.x) - (b.x))) rfl rfl rfl (e_sub (a := (a.x)) (b := (b.x)) rfl rfl (i64w (by omega))) ?_
      refine l_nil ?_
      exact f_owes_d (up_cons (up_cons rfl hs25) hs28) rfl (List.Perm.refl _)
     ·rintro f M ⟨k0, -⟩ -
      have hs29 : f 29 = Ix ((a.x) - (b.x)) := k0
      refine ob_start (L' := M) (by rfl) (up_cons rfl hs29) ?_
      refine l_call rfl rfl rfl (cl_value (fst := []) (cap := []) (vs := [Ix ((a.x) - (b.x))]) (all := [Ix ((a.x) - (b.x))]) tf29 rfl rfl rfl) ?_
      intro w hw
      obtain ⟨β1, sb, kn, hw1, back⟩ := St.frame_all hw
      refine (abs_ok β1 w hw1 ((a.x) - (b.x)) (by omega)).mono ?_
      rintro e w' ⟨rfl, hw'⟩
      refine ⟨_, rfl, _, back _ _ hw', ?_⟩
      clear hw hw1 hw' back kn sb
      refine l_nil ?_
      exact f_owes_d (up_cons rfl hs29) rfl (List.Perm.refl _)
     ·rintro f M - ⟨i0, -⟩
      have hs2 : f 2 = .pointer (some ⟨b1, 0, none⟩) := i0
      refine ob_start (L' := M) (by rfl) (up_cons rfl hs2) ?_
      refine l_val (v := .pointer (some ⟨b1, 1, none⟩)) rfl rfl rfl (e_fieldPt (b := b1) (o := 0) rfl tf6) ?_
      refine l_nil ?_
      exact f_owes_d (up_cons rfl hs2) rfl (List.Perm.refl _)
     ·rintro f M ⟨k0, -⟩ -
      have hs31 : f 31 = .pointer (some ⟨b1, 1, none⟩) := k0
      refine ob_start (L' := M) (by rfl) (up_cons rfl hs31) ?_
      refine l_val (v := .pointer (some ⟨b1, 2, none⟩)) rfl rfl rfl (e_fieldPt (b := b1) (o := 1) rfl tf8) ?_
      refine l_nil ?_
      exact f_owes_d (up_cons rfl hs31) rfl (List.Perm.refl _)
     ·rintro f M ⟨k0, -⟩ -
      have hs32 : f 32 = .pointer (some ⟨b1, 2, none⟩) := k0
      refine ob_start (L' := pt b1 (.cells (bC a) 52) :: M) (by rfl) (up_cons rfl hs32) ?_
      refine l_val (v := Ix (a.y)) rfl rfl rfl (e_load1 tf2 (v := Ix (a.y)) rfl (k_pt 0 (cs := (bC a)) (vs := [Ix (a.y)]) rfl rfl)) ?_
      refine l_nil ?_
      exact f_owes_d (up_cons rfl hs32) rfl (perm_front 0 rfl)
     ·rintro f M - ⟨i0, -⟩
      have hs3 : f 3 = .pointer (some ⟨b2, 0, none⟩) := i0
      refine ob_start (L' := M) (by rfl) (up_cons rfl hs3) ?_
      refine l_val (v := .pointer (some ⟨b2, 1, none⟩)) rfl rfl rfl (e_fieldPt (b := b2) (o := 0) rfl tf6) ?_
      refine l_nil ?_
      exact f_owes_d (up_cons rfl hs3) rfl (List.Perm.refl _)
     ·rintro f M ⟨k0, -⟩ -
      have hs34 : f 34 = .pointer (some ⟨b2, 1, none⟩) := k0
      refine ob_start (L' := M) (by rfl) (up_cons rfl hs34) ?_
      refine l_val (v := .pointer (some ⟨b2, 2, none⟩)) rfl rfl rfl (e_fieldPt (b := b2) (o := 1) rfl tf8) ?_
      refine l_nil ?_
      exact f_owes_d (up_cons rfl hs34) rfl (List.Perm.refl _)
     ·rintro f M ⟨k0, -⟩ -
      have hs35 : f 35 = .pointer (some ⟨b2, 2, none⟩) := k0
      refine ob_start (L' := pt b2 (.cells (bC b) 52) :: M) (by rfl) (up_cons rfl hs35) ?_
      refine l_val (v := Ix (b.y)) rfl rfl rfl (e_load1 tf2 (v := Ix (b.y)) rfl (k_pt 0 (cs := (bC b)) (vs := [Ix (b.y)]) rfl rfl)) ?_
      refine l_nil ?_
      exact f_owes_d (up_cons rfl hs35) rfl (perm_front 0 rfl)
     ·rintro f M ⟨k0, k1, -⟩ -
      have hs33 : f 33 = Ix (a.y) := k0
      have hs36 : f 36 = Ix (b.y) := k1
      refine ob_start (L' := M) (by rfl) (up_cons (up_cons rfl hs33) hs36) ?_
      refine l_val (v := Ix ((a.y) - (b.y))) rfl rfl rfl (e_sub (a := (a.y)) (b := (b.y)) rfl rfl (i64w (by omega))) ?_
      refine l_nil ?_
      exact f_owes_d (up_cons (up_cons rfl hs33) hs36) rfl (List.Perm.refl _)
     ·rintro f M ⟨k0, -⟩ -
      have hs37 : f 37 = Ix ((a.y) - (b.y)) := k0
      refine ob_start (L' := M) (by rfl) (up_cons rfl hs37) ?_
      refine l_call rfl rfl rfl (cl_value (fst := []) (cap := []) (vs := [Ix ((a.y) - (b.y))]) (all := [Ix ((a.y) - (b.y))]) tf29 rfl rfl rfl) ?_
      intro w hw
      obtain ⟨β1, sb, kn, hw1, back⟩ := St.frame_all hw
      refine (abs_ok β1 w hw1 ((a.y) - (b.y)) (by omega)).mono ?_
      rintro e w' ⟨rfl, hw'⟩
      refine ⟨_, rfl, _, back _ _ hw', ?_⟩
      clear hw hw1 hw' back kn sb
      refine l_nil ?_
      exact f_owes_d (up_cons rfl hs37) rfl (List.Perm.refl _)
     ·rintro f M ⟨k0, k1, k2, k3, k4, -⟩ -
      have hs20 : f 20 = .func (.func 266) #[] #[] := k0
      have hs21 : f 21 = .agg (bC a) := k1
      have hs22 : f 22 = .agg (bC b) := k2
      have hs30 : f 30 = Ix (Stp.abs ((a.x) - (b.x))) := k3
      have hs38 : f 38 = Ix (Stp.abs ((a.y) - (b.y))) := k4
      refine ob_start (L' := M) (by rfl) (up_cons (up_cons (up_cons (up_cons (up_cons rfl hs20) hs21) hs22) hs30) hs38) ?_
      refine l_call rfl rfl rfl (cl_value (fst := []) (cap := []) (vs := [.agg (bC a), .agg (bC b), Ix (Stp.abs ((a.x) - (b.x))), Ix (Stp.abs ((a.y) - (b.y)))]) (all := [.agg (bC a), .agg (bC b), Ix (Stp.abs ((a.x) - (b.x))), Ix (Stp.abs ((a.y) - (b.y)))]) tf23 rfl rfl rfl) ?_
      intro w hw
      obtain ⟨β1, sb, kn, hw1, back⟩ := St.frame_all hw
      refine (boxCircle_ok β1 w hw1 a b hoa hob (Stp.abs ((a.x) - (b.x))) (Stp.abs ((a.y) - (b.y))) dX dY).mono ?_
      rintro e w' ⟨rfl, hw'⟩
      refine ⟨_, rfl, _, back _ _ hw', ?_⟩
      clear hw hw1 hw' back kn sb
      refine l_nil ?_
      exact f_owes_d (up_cons (up_cons (up_cons (up_cons (up_cons rfl hs20) hs21) hs22) hs30) hs38) rfl (List.Perm.refl _)
     ·rintro f M ⟨k0, -⟩ -
      have hs39 : f 39 = Ix (max ((Stp.abs ((a.x) - (b.x))) - a.w) 0 * max ((Stp.abs ((a.x) - (b.x))) - a.w) 0 + max ((Stp.abs ((a.y) - (b.y))) - a.h) 0 * max ((Stp.abs ((a.y) - (b.y))) - a.h) 0 - b.w * b.w) := k0
      refine ob_start (L' := M) (by rfl) (up_cons rfl hs39) ?_
      refine l_val (v := Ix (max ((Stp.abs ((a.x) - (b.x))) - a.w) 0 * max ((Stp.abs ((a.x) - (b.x))) - a.w) 0 + max ((Stp.abs ((a.y) - (b.y))) - a.h) 0 * max ((Stp.abs ((a.y) - (b.y))) - a.h) 0 - b.w * b.w)) rfl rfl rfl (e_assign) ?_
      refine l_nil ?_
      exact f_owes_d (up_cons rfl hs39) rfl (List.Perm.refl _)
     ·rintro f M - -
      refine ob_start (L' := M) (by rfl) rfl ?_
      refine l_val (v := .bool true) rfl rfl rfl (e_assign) ?_
      refine l_nil ?_
      exact f_owes_d rfl rfl (List.Perm.refl _)
     rintro fa6 ⟨-, -, -, -, -, -, -, -, -, -, -, -, -, -, -, -, -, -, -, -, -, -, -, -, -, -, k26, k27, -⟩ -
     refine f_re (L' := [pt b2 (.cells (bC b) 52), pt b1 (.cells (bC a) 52)]) (by rfl) ?_
     refine f_rebase (d := 4) (v := Ix (max ((Stp.abs ((a.x) - (b.x))) - a.w) 0 * max ((Stp.abs ((a.x) - (b.x))) - a.w) 0 + max ((Stp.abs ((a.y) - (b.y))) - a.h) 0 * max ((Stp.abs ((a.y) - (b.y))) - a.h) 0 - b.w * b.w)) k26 ?_
     refine f_rebase (d := 5) (v := .bool true) k27 ?_
     refine f_then ?_
     refine c_ret ?_
     refine ret2 (v := Ix (max ((Stp.abs ((a.x) - (b.x))) - a.w) 0 * max ((Stp.abs ((a.x) - (b.x))) - a.w) 0 + max ((Stp.abs ((a.y) - (b.y))) - a.h) 0 * max ((Stp.abs ((a.y) - (b.y))) - a.h) 0 - b.w * b.w)) (v' := .bool true) Tryz.results202 rfl rfl ?_
     intro w hw
     exact ⟨congrArg (fun z => Ending.returned (.tuple z)) (farV_yes hoa hob (room_ft ra rb _ _)).symm, st_mask [false, false] rfl hw⟩
   ·
    cases rb : b.round
    ·
     refine c_any [⟨[], [], [0], [14], fun f => f 14 = .agg (bC a)⟩, ⟨[0], [0], [], [15], fun f => f 15 = .int .i64 (1)⟩, ⟨[], [], [1], [16], fun f => f 16 = .agg (bC b)⟩, ⟨[0, 1, 2], [2], [], [17], fun f => f 17 = .int .i64 (0)⟩, ⟨[0, 1], [1], [], [18], fun f => f 18 = .pointer (some ((⟨0, 0, none⟩ : Addr).add (1 * 2)))⟩, ⟨[0, 1, 2, 3, 4], [4, 3], [], [19], fun f => f 19 = .pointer (some (((⟨0, 0, none⟩ : Addr).add (1 * 2) : Addr).add (0 * 1)))⟩, ⟨[0, 1, 2, 3, 4, 5], [5], [], [20], fun f => f 20 = .func (.func 267) #[] #[]⟩, ⟨[], [], [0], [21], fun f => f 21 = .agg (bC a)⟩, ⟨[], [], [1], [22], fun f => f 22 = .agg (bC b)⟩, ⟨[], [], [0], [23], fun f => f 23 = .pointer (some ⟨b1, 1, none⟩)⟩, ⟨[9], [9], [], [24], fun f => f 24 = .pointer (some ⟨b1, 1, none⟩)⟩, ⟨[9, 10], [10], [], [25], fun f => f 25 = Ix (a.x)⟩, ⟨[], [], [1], [26], fun f => f 26 = .pointer (some ⟨b2, 1, none⟩)⟩, ⟨[12], [12], [], [27], fun f => f 27 = .pointer (some ⟨b2, 1, none⟩)⟩, ⟨[12, 13], [13], [], [28], fun f => f 28 = Ix (b.x)⟩, ⟨[9, 10, 11, 12, 13, 14], [11, 14], [], [29], fun f => f 29 = Ix ((a.x) - (b.x))⟩, ⟨[0, 1, 2, 3, 9, 10, 11, 12, 13, 14, 15], [15], [], [30], fun f => f 30 = Ix (Stp.abs ((a.x) - (b.x)))⟩, ⟨[], [], [0], [31], fun f => f 31 = .pointer (some ⟨b1, 1, none⟩)⟩, ⟨[17], [17], [], [32], fun f => f 32 = .pointer (some ⟨b1, 2, none⟩)⟩, ⟨[17, 18], [18], [], [33], fun f => f 33 = Ix (a.y)⟩, ⟨[], [], [1], [34], fun f => f 34 = .pointer (some ⟨b2, 1, none⟩)⟩, ⟨[20], [20], [], [35], fun f => f 35 = .pointer (some ⟨b2, 2, none⟩)⟩, ⟨[20, 21], [21], [], [36], fun f => f 36 = Ix (b.y)⟩, ⟨[17, 18, 19, 20, 21, 22], [19, 22], [], [37], fun f => f 37 = Ix ((a.y) - (b.y))⟩, ⟨[0, 1, 2, 3, 9, 10, 11, 12, 13, 14, 15, 16, 17, 18, 19, 20, 21, 22, 23], [23], [], [38], fun f => f 38 = Ix (Stp.abs ((a.y) - (b.y)))⟩, ⟨[0, 1, 2, 3, 4, 5, 6, 7, 8, 9, 10, 11, 12, 13, 14, 15, 16, 17, 18, 19, 20, 21, 22, 23, 24], [6, 7, 8, 16, 24], [], [39], fun f => f 39 = Ix (max ((Stp.abs ((a.x) - (b.x))) - b.w) 0 * max ((Stp.abs ((a.x) - (b.x))) - b.w) 0 + max ((Stp.abs ((a.y) - (b.y))) - b.h) 0 * max ((Stp.abs ((a.y) - (b.y))) - b.h) 0 - a.w * a.w)⟩, ⟨[0, 1, 2, 3, 4, 5, 6, 7, 8, 9, 10, 11, 12, 13, 14, 15, 16, 17, 18, 19, 20, 21, 22, 23, 24, 25], [25], [], [4], fun f => f 4 = Ix (max ((Stp.abs ((a.x) - (b.x))) - b.w) 0 * max ((Stp.abs ((a.x) - (b.x))) - b.w) 0 + max ((Stp.abs ((a.y) - (b.y))) - b.h) 0 * max ((Stp.abs ((a.y) - (b.y))) - b.h) 0 - a.w * a.w)⟩, ⟨[0, 1, 2, 3, 4, 5, 6, 7, 8, 9, 10, 11, 12, 13, 14, 15, 16, 17, 18, 19, 20, 21, 22, 23, 24, 25, 26], [], [], [5], fun f => f 5 = .bool true⟩] [⟨none, none, [2, 8, 14, 22], [], fun _ => pt b2 (.cells (bC b) 52)⟩, ⟨none, none, [0, 7, 11, 19], [], fun _ => pt b1 (.cells (bC a) 52)⟩] [(2, .pointer (some ⟨b1, 0, none⟩)), (3, .pointer (some ⟨b2, 0, none⟩))] [] [] (by kernel_rfl) (by kernel_rfl) (by kernel_rfl) (by kernel_rfl) rfl ⟨rfl, rfl, trivial⟩ ⟨?_, ?_, ?_, ?_, ?_, ?_, ?_, ?_, ?_, ?_, ?_, ?_, ?_, ?_, ?_, ?_, ?_, ?_, ?_, ?_, ?_, ?_, ?_, ?_, ?_, ?_, ?_, ?_, trivial⟩ ?_
     ·rintro f M - ⟨i0, -⟩
      have hs2 : f 2 = .pointer (some ⟨b1, 0, none⟩) := i0
      refine ob_start (L' := pt b1 (.cells (bC a) 52) :: M) (by rfl) (up_cons rfl hs2) ?_
      refine l_val (v := .agg (bC a)) rfl rfl rfl (e_load tf22 (cs := (bodyE a)) rfl (k_pt 0 (cs := (bC a)) (vs := (bodyE a)) rfl rfl) rfl) ?_
      refine l_nil ?_
      exact f_owes_d (up_cons rfl hs2) rfl (perm_front 0 rfl)
     ·rintro f M ⟨k0, -⟩ -
      have hs14 : f 14 = .agg (bC a) := k0
      refine ob_start (L' := M) (by rfl) (up_cons rfl hs14) ?_
      refine l_call rfl rfl rfl (cl_value (fst := []) (cap := []) (vs := [.agg (bC a)]) (all := [.agg (bC a)]) tf25 rfl rfl rfl) ?_
      intro w hw
      obtain ⟨β1, sb, kn, hw1, back⟩ := St.frame_all hw
      refine (kind1_ok β1 w hw1 a ra).mono ?_
      rintro e w' ⟨rfl, hw'⟩
      refine ⟨_, rfl, _, back _ _ hw', ?_⟩
      clear hw hw1 hw' back kn sb
      refine l_nil ?_
      exact f_owes_d (up_cons rfl hs14) rfl (List.Perm.refl _)
     ·rintro f M - ⟨i0, -⟩
      have hs3 : f 3 = .pointer (some ⟨b2, 0, none⟩) := i0
      refine ob_start (L' := pt b2 (.cells (bC b) 52) :: M) (by rfl) (up_cons rfl hs3) ?_
      refine l_val (v := .agg (bC b)) rfl rfl rfl (e_load tf22 (cs := (bodyE b)) rfl (k_pt 0 (cs := (bC b)) (vs := (bodyE b)) rfl rfl) rfl) ?_
      refine l_nil ?_
      exact f_owes_d (up_cons rfl hs3) rfl (perm_front 0 rfl)
     ·rintro f M ⟨k0, -⟩ -
      have hs16 : f 16 = .agg (bC b) := k0
      refine ob_start (L' := M) (by rfl) (up_cons rfl hs16) ?_
      refine l_call rfl rfl rfl (cl_value (fst := []) (cap := []) (vs := [.agg (bC b)]) (all := [.agg (bC b)]) tf25 rfl rfl rfl) ?_
      intro w hw
      obtain ⟨β1, sb, kn, hw1, back⟩ := St.frame_all hw
      refine (kind0_ok β1 w hw1 b rb).mono ?_
      rintro e w' ⟨rfl, hw'⟩
      refine ⟨_, rfl, _, back _ _ hw', ?_⟩
      clear hw hw1 hw' back kn sb
      refine l_nil ?_
      exact f_owes_d (up_cons rfl hs16) rfl (List.Perm.refl _)
     ·rintro f M ⟨k0, -⟩ -
      have hs15 : f 15 = .int .i64 (1) := k0
      refine ob_start (L' := M) (by rfl) (up_cons rfl hs15) ?_
      refine l_val (v := .pointer (some ((⟨0, 0, none⟩ : Addr).add (1 * 2)))) rfl rfl rfl (e_indexArr (a := ⟨0, 0, none⟩) (k := 1) rfl rfl tf26 (by decide)) ?_
      refine l_nil ?_
      exact f_owes_d (up_cons rfl hs15) rfl (List.Perm.refl _)
     ·rintro f M ⟨k0, k1, -⟩ -
      have hs18 : f 18 = .pointer (some ((⟨0, 0, none⟩ : Addr).add (1 * 2))) := k0
      have hs17 : f 17 = .int .i64 (0) := k1
      refine ob_start (L' := M) (by rfl) (up_cons (up_cons rfl hs18) hs17) ?_
      refine l_val (v := .pointer (some (((⟨0, 0, none⟩ : Addr).add (1 * 2) : Addr).add (0 * 1)))) rfl rfl rfl (e_indexArr (a := (⟨0, 0, none⟩ : Addr).add (1 * 2)) (k := 0) rfl rfl tf27 (by decide)) ?_
      refine l_nil ?_
      exact f_owes_d (up_cons (up_cons rfl hs18) hs17) rfl (List.Perm.refl _)
     ·rintro f M ⟨k0, -⟩ -
      have hs19 : f 19 = .pointer (some (((⟨0, 0, none⟩ : Addr).add (1 * 2) : Addr).add (0 * 1))) := k0
      refine ob_start (L' := M) (by rfl) (up_cons rfl hs19) ?_
      refine l_val (v := .func (.func 267) #[] #[]) rfl rfl rfl (e_load1 tf28 (v := .func (.func 267) #[] #[]) rfl (Knows.imp (Knows.imp (Knows.of_base (Cs.mono _ _) hG) (fun _ h => Cs.sub (vs := [.func (.func 267) #[] #[], .func (.func 268) #[] #[]]) (1 * 2) h rfl)) (fun _ h => Cs.sub (vs := [.func (.func 267) #[] #[]]) (0 * 1) h rfl))) ?_
      refine l_nil ?_
      exact f_owes_d (up_cons rfl hs19) rfl (List.Perm.refl _)
     ·rintro f M - ⟨i0, -⟩
      have hs2 : f 2 = .pointer (some ⟨b1, 0, none⟩) := i0
      refine ob_start (L' := pt b1 (.cells (bC a) 52) :: M) (by rfl) (up_cons rfl hs2) ?_
      refine l_val (v := .agg (bC a)) rfl rfl rfl (e_load tf22 (cs := (bodyE a)) rfl (k_pt 0 (cs := (bC a)) (vs := (bodyE a)) rfl rfl) rfl) ?_
      refine l_nil ?_
      exact f_owes_d (up_cons rfl hs2) rfl (perm_front 0 rfl)
     ·rintro f M - ⟨i0, -⟩
      have hs3 : f 3 = .pointer (some ⟨b2, 0, none⟩) := i0
      refine ob_start (L' := pt b2 (.cells (bC b) 52) :: M) (by rfl) (up_cons rfl hs3) ?_
      refine l_val (v := .agg (bC b)) rfl rfl rfl (e_load tf22 (cs := (bodyE b)) rfl (k_pt 0 (cs := (bC b)) (vs := (bodyE b)) rfl rfl) rfl) ?_
      refine l_nil ?_
      exact f_owes_d (up_cons rfl hs3) rfl (perm_front 0 rfl)
     ·rintro f M - ⟨i0, -⟩
      have hs2 : f 2 = .pointer (some ⟨b1, 0, none⟩) := i0
      refine ob_start (L' := M) (by rfl) (up_cons rfl hs2) ?_
      refine l_val (v := .pointer (some ⟨b1, 1, none⟩)) rfl rfl rfl (e_fieldPt (b := b1) (o := 0) rfl tf6) ?_
      refine l_nil ?_
      exact f_owes_d (up_cons rfl hs2) rfl (List.Perm.refl _)
     ·rintro f M ⟨k0, -⟩ -
      have hs23 : f 23 = .pointer (some ⟨b1, 1, none⟩) := k0
      refine ob_start (L' := M) (by rfl) (up_cons rfl hs23) ?_
      refine l_val (v := .pointer (some ⟨b1, 1, none⟩)) rfl rfl rfl (e_fieldPt (b := b1) (o := 1) rfl tf7) ?_
      refine l_nil ?_
      exact f_owes_d (up_cons rfl hs23) rfl (List.Perm.refl _)
     ·rintro f M ⟨k0, -⟩ -
      have hs24 : f 24 = .pointer (some ⟨b1, 1, none⟩) := k0
      refine ob_start (L' := pt b1 (.cells (bC a) 52) :: M) (by rfl) (up_cons rfl hs24) ?_
      refine l_val (v := Ix (a.x)) rfl rfl rfl (e_load1 tf2 (v := Ix (a.x)) rfl (k_pt 0 (cs := (bC a)) (vs := [Ix (a.x)]) rfl rfl)) ?_
      refine l_nil ?_
      exact f_owes_d (up_cons rfl hs24) rfl (perm_front 0 rfl)
     ·rintro f M - ⟨i0, -⟩
      have hs3 : f 3 = .pointer (some ⟨b2, 0, none⟩) := i0
      refine ob_start (L' := M) (by rfl) (up_cons rfl hs3) ?_
      refine l_val (v := .pointer (some ⟨b2, 1, none⟩)) rfl rfl rfl (e_fieldPt (b := b2) (o := 0) rfl tf6) ?_
      refine l_nil ?_
      exact f_owes_d (up_cons rfl hs3) rfl (List.Perm.refl _)
     ·rintro f M ⟨k0, -⟩ -
      have hs26 : f 26 = .pointer (some ⟨b2, 1, none⟩) := k0
      refine ob_start (L' := M) (by rfl) (up_cons rfl hs26) ?_
      refine l_val (v := .pointer (some ⟨b2, 1, none⟩)) rfl rfl rfl (e_fieldPt (b := b2) (o := 1) rfl tf7) ?_
      refine l_nil ?_
      exact f_owes_d (up_cons rfl hs26) rfl (List.Perm.refl _)
     ·rintro f M ⟨k0, -⟩ -
      have hs27 : f 27 = .pointer (some ⟨b2, 1, none⟩) := k0
      refine ob_start (L' := pt b2 (.cells (bC b) 52) :: M) (by rfl) (up_cons rfl hs27) ?_
      refine l_val (v := Ix (b.x)) rfl rfl rfl (e_load1 tf2 (v := Ix (b.x)) rfl (k_pt 0 (cs := (bC b)) (vs := [Ix (b.x)]) rfl rfl)) ?_
      refine l_nil ?_
      exact f_owes_d (up_cons rfl hs27) rfl (perm_front 0 rfl)
     ·rintro f M ⟨k0, k1, -⟩ -
      have hs25 : f 25 = Ix (a.x) := k0
      have hs28 : f 28 = Ix (b.x) := k1
      refine ob_start (L' := M) (by rfl) (up_cons (up_cons rfl hs25) hs28) ?_
      refine l_val (v := Ix ((a.x) - (b.x))) rfl rfl rfl (e_sub (a := (a.x)) (b := (b.x)) rfl rfl (i64w (by omega))) ?_
      refine l_nil ?_
      exact f_owes_d (up_cons (up_cons rfl hs25) hs28) rfl (List.Perm.refl _)
     ·rintro f M ⟨k0, -⟩ -
      have hs29 : f 29 = Ix ((a.x) - (b.x)) := k0
      refine ob_start (L' := M) (by rfl) (up_cons rfl hs29) ?_
      refine l_call rfl rfl rfl (cl_value (fst := []) (cap := []) (vs := [Ix ((a.x) - (b.x))]) (all := [Ix ((a.x) - (b.x))]) tf29 rfl rfl rfl) ?_
      intro w hw
      obtain ⟨β1, sb, kn, hw1, back⟩ := St.frame_all hw
      refine (abs_ok β1 w hw1 ((a.x) - (b.x)) (by omega)).mono ?_
      rintro e w' ⟨rfl, hw'⟩
      refine ⟨_, rfl, _, back _ _ hw', ?_⟩
      clear hw hw1 hw' back kn sb
      refine l_nil ?_
      exact f_owes_d (up_cons rfl hs29) rfl (List.Perm.refl _)
     ·rintro f M - ⟨i0, -⟩
      have hs2 : f 2 = .pointer (some ⟨b1, 0, none⟩) := i0
      refine ob_start (L' := M) (by rfl) (up_cons rfl hs2) ?_
      refine l_val (v := .pointer (some ⟨b1, 1, none⟩)) rfl rfl rfl (e_fieldPt (b := b1) (o := 0) rfl tf6) ?_
      refine l_nil ?_
      exact f_owes_d (up_cons rfl hs2) rfl (List.Perm.refl _)
     ·rintro f M ⟨k0, -⟩ -
      have hs31 : f 31 = .pointer (some ⟨b1, 1, none⟩) := k0
      refine ob_start (L' := M) (by rfl) (up_cons rfl hs31) ?_
      refine l_val (v := .pointer (some ⟨b1, 2, none⟩)) rfl rfl rfl (e_fieldPt (b := b1) (o := 1) rfl tf8) ?_
      refine l_nil ?_
      exact f_owes_d (up_cons rfl hs31) rfl (List.Perm.refl _)
     ·rintro f M ⟨k0, -⟩ -
      have hs32 : f 32 = .pointer (some ⟨b1, 2, none⟩) := k0
      refine ob_start (L' := pt b1 (.cells (bC a) 52) :: M) (by rfl) (up_cons rfl hs32) ?_
      refine l_val (v := Ix (a.y)) rfl rfl rfl (e_load1 tf2 (v := Ix (a.y)) rfl (k_pt 0 (cs := (bC a)) (vs := [Ix (a.y)]) rfl rfl)) ?_
      refine l_nil ?_
      exact f_owes_d (up_cons rfl hs32) rfl (perm_front 0 rfl)
     ·rintro f M - ⟨i0, -⟩
      have hs3 : f 3 = .pointer (some ⟨b2, 0, none⟩) := i0
      refine ob_start (L' := M) (by rfl) (up_cons rfl hs3) ?_
      refine l_val (v := .pointer (some ⟨b2, 1, none⟩)) rfl rfl rfl (e_fieldPt (b := b2) (o := 0) rfl tf6) ?_
      refine l_nil ?_
      exact f_owes_d (up_cons rfl hs3) rfl (List.Perm.refl _)
     ·rintro f M ⟨k0, -⟩ -
      have hs34 : f 34 = .pointer (some ⟨b2, 1, none⟩) := k0
      refine ob_start (L' := M) (by rfl) (up_cons rfl hs34) ?_
      refine l_val (v := .pointer (some ⟨b2, 2, none⟩)) rfl rfl rfl (e_fieldPt (b := b2) (o := 1) rfl tf8) ?_
      refine l_nil ?_
      exact f_owes_d (up_cons rfl hs34) rfl (List.Perm.refl _)
     ·rintro f M ⟨k0, -⟩ -
      have hs35 : f 35 = .pointer (some ⟨b2, 2, none⟩) := k0
      refine ob_start (L' := pt b2 (.cells (bC b) 52) :: M) (by rfl) (up_cons rfl hs35) ?_
      refine l_val (v := Ix (b.y)) rfl rfl rfl (e_load1 tf2 (v := Ix (b.y)) rfl (k_pt 0 (cs := (bC b)) (vs := [Ix (b.y)]) rfl rfl)) ?_
      refine l_nil ?_
      exact f_owes_d (up_cons rfl hs35) rfl (perm_front 0 rfl)
     ·rintro f M ⟨k0, k1, -⟩ -
      have hs33 : f 33 = Ix (a.y) := k0
      have hs36 : f 36 = Ix (b.y) := k1
      refine ob_start (L' := M) (by rfl) (up_cons (up_cons rfl hs33) hs36) ?_
      refine l_val (v := Ix ((a.y) - (b.y))) rfl rfl rfl (e_sub (a := (a.y)) (b := (b.y)) rfl rfl (i64w (by omega))) ?_
      refine l_nil ?_
      exact f_owes_d (up_cons (up_cons rfl hs33) hs36) rfl (List.Perm.refl _)
     ·rintro f M ⟨k0, -⟩ -
      have hs37 : f 37 = Ix ((a.y) - (b.y)) := k0
      refine ob_start (L' := M) (by rfl) (up_cons rfl hs37) ?_
      refine l_call rfl rfl rfl (cl_value (fst := []) (cap := []) (vs := [Ix ((a.y) - (b.y))]) (all := [Ix ((a.y) - (b.y))]) tf29 rfl rfl rfl) ?_
      intro w hw
      obtain ⟨β1, sb, kn, hw1, back⟩ := St.frame_all hw
      refine (abs_ok β1 w hw1 ((a.y) - (b.y)) (by omega)).mono ?_
      rintro e w' ⟨rfl, hw'⟩
      refine ⟨_, rfl, _, back _ _ hw', ?_⟩
      clear hw hw1 hw' back kn sb
      refine l_nil ?_
      exact f_owes_d (up_cons rfl hs37) rfl (List.Perm.refl _)
     ·rintro f M ⟨k0, k1, k2, k3, k4, -⟩ -
      have hs20 : f 20 = .func (.func 267) #[] #[] := k0
      have hs21 : f 21 = .agg (bC a) := k1
      have hs22 : f 22 = .agg (bC b) := k2
      have hs30 : f 30 = Ix (Stp.abs ((a.x) - (b.x))) := k3
      have hs38 : f 38 = Ix (Stp.abs ((a.y) - (b.y))) := k4
      refine ob_start (L' := M) (by rfl) (up_cons (up_cons (up_cons (up_cons (up_cons rfl hs20) hs21) hs22) hs30) hs38) ?_
      refine l_call rfl rfl rfl (cl_value (fst := []) (cap := []) (vs := [.agg (bC a), .agg (bC b), Ix (Stp.abs ((a.x) - (b.x))), Ix (Stp.abs ((a.y) - (b.y)))]) (all := [.agg (bC a), .agg (bC b), Ix (Stp.abs ((a.x) - (b.x))), Ix (Stp.abs ((a.y) - (b.y)))]) tf31 rfl rfl rfl) ?_
      intro w hw
      obtain ⟨β1, sb, kn, hw1, back⟩ := St.frame_all hw
      refine (circleBox_ok β1 w hw1 a b hoa hob (Stp.abs ((a.x) - (b.x))) (Stp.abs ((a.y) - (b.y))) dX dY).mono ?_
      rintro e w' ⟨rfl, hw'⟩
      refine ⟨_, rfl, _, back _ _ hw', ?_⟩
      clear hw hw1 hw' back kn sb
      refine l_nil ?_
      exact f_owes_d (up_cons (up_cons (up_cons (up_cons (up_cons rfl hs20) hs21) hs22) hs30) hs38) rfl (List.Perm.refl _)
     ·rintro f M ⟨k0, -⟩ -
      have hs39 : f 39 = Ix (max ((Stp.abs ((a.x) - (b.x))) - b.w) 0 * max ((Stp.abs ((a.x) - (b.x))) - b.w) 0 + max ((Stp.abs ((a.y) - (b.y))) - b.h) 0 * max ((Stp.abs ((a.y) - (b.y))) - b.h) 0 - a.w * a.w) := k0
      refine ob_start (L' := M) (by rfl) (up_cons rfl hs39) ?_
      refine l_val (v := Ix (max ((Stp.abs ((a.x) - (b.x))) - b.w) 0 * max ((Stp.abs ((a.x) - (b.x))) - b.w) 0 + max ((Stp.abs ((a.y) - (b.y))) - b.h) 0 * max ((Stp.abs ((a.y) - (b.y))) - b.h) 0 - a.w * a.w)) rfl rfl rfl (e_assign) ?_
      refine l_nil ?_
      exact f_owes_d (up_cons rfl hs39) rfl (List.Perm.refl _)
     ·rintro f M - -
      refine ob_start (L' := M) (by rfl) rfl ?_
      refine l_val (v := .bool true) rfl rfl rfl (e_assign) ?_
      refine l_nil ?_
      exact f_owes_d rfl rfl (List.Perm.refl _)
     rintro fa7 ⟨-, -, -, -, -, -, -, -, -, -, -, -, -, -, -, -, -, -, -, -, -, -, -, -, -, -, k26, k27, -⟩ -
     refine f_re (L' := [pt b2 (.cells (bC b) 52), pt b1 (.cells (bC a) 52)]) (by rfl) ?_
     refine f_rebase (d := 4) (v := Ix (max ((Stp.abs ((a.x) - (b.x))) - b.w) 0 * max ((Stp.abs ((a.x) - (b.x))) - b.w) 0 + max ((Stp.abs ((a.y) - (b.y))) - b.h) 0 * max ((Stp.abs ((a.y) - (b.y))) - b.h) 0 - a.w * a.w)) k26 ?_
     refine f_rebase (d := 5) (v := .bool true) k27 ?_
     refine f_then ?_
     refine c_ret ?_
     refine ret2 (v := Ix (max ((Stp.abs ((a.x) - (b.x))) - b.w) 0 * max ((Stp.abs ((a.x) - (b.x))) - b.w) 0 + max ((Stp.abs ((a.y) - (b.y))) - b.h) 0 * max ((Stp.abs ((a.y) - (b.y))) - b.h) 0 - a.w * a.w)) (v' := .bool true) Tryz.results202 rfl rfl ?_
     intro w hw
     exact ⟨congrArg (fun z => Ending.returned (.tuple z)) (farV_yes hoa hob (room_tf ra rb _ _)).symm, st_mask [false, false] rfl hw⟩
    ·
     refine c_any [⟨[], [], [0], [14], fun f => f 14 = .agg (bC a)⟩, ⟨[0], [0], [], [15], fun f => f 15 = .int .i64 (1)⟩, ⟨[], [], [1], [16], fun f => f 16 = .agg (bC b)⟩, ⟨[0, 1, 2], [2], [], [17], fun f => f 17 = .int .i64 (1)⟩, ⟨[0, 1], [1], [], [18], fun f => f 18 = .pointer (some ((⟨0, 0, none⟩ : Addr).add (1 * 2)))⟩, ⟨[0, 1, 2, 3, 4], [4, 3], [], [19], fun f => f 19 = .pointer (some (((⟨0, 0, none⟩ : Addr).add (1 * 2) : Addr).add (1 * 1)))⟩, ⟨[0, 1, 2, 3, 4, 5], [5], [], [20], fun f => f 20 = .func (.func 268) #[] #[]⟩, ⟨[], [], [0], [21], fun f => f 21 = .agg (bC a)⟩, ⟨[], [], [1], [22], fun f => f 22 = .agg (bC b)⟩, ⟨[], [], [0], [23], fun f => f 23 = .pointer (some ⟨b1, 1, none⟩)⟩, ⟨[9], [9], [], [24], fun f => f 24 = .pointer (some ⟨b1, 1, none⟩)⟩, ⟨[9, 10], [10], [], [25], fun f => f 25 = Ix (a.x)⟩, ⟨[], [], [1], [26], fun f => f 26 = .pointer (some ⟨b2, 1, none⟩)⟩, ⟨[12], [12], [], [27], fun f => f 27 = .pointer (some ⟨b2, 1, none⟩)⟩, ⟨[12, 13], [13], [], [28], fun f => f 28 = Ix (b.x)⟩, ⟨[9, 10, 11, 12, 13, 14], [11, 14], [], [29], fun f => f 29 = Ix ((a.x) - (b.x))⟩, ⟨[0, 1, 2, 3, 9, 10, 11, 12, 13, 14, 15], [15], [], [30], fun f => f 30 = Ix (Stp.abs ((a.x) - (b.x)))⟩, ⟨[], [], [0], [31], fun f => f 31 = .pointer (some ⟨b1, 1, none⟩)⟩, ⟨[17], [17], [], [32], fun f => f 32 = .pointer (some ⟨b1, 2, none⟩)⟩, ⟨[17, 18], [18], [], [33], fun f => f 33 = Ix (a.y)⟩, ⟨[], [], [1], [34], fun f => f 34 = .pointer (some ⟨b2, 1, none⟩)⟩, ⟨[20], [20], [], [35], fun f => f 35 = .pointer (some ⟨b2, 2, none⟩)⟩, ⟨[20, 21], [21], [], [36], fun f => f 36 = Ix (b.y)⟩, ⟨[17, 18, 19, 20, 21, 22], [19, 22], [], [37], fun f => f 37 = Ix ((a.y) - (b.y))⟩, ⟨[0, 1, 2, 3, 9, 10, 11, 12, 13, 14, 15, 16, 17, 18, 19, 20, 21, 22, 23], [23], [], [38], fun f => f 38 = Ix (Stp.abs ((a.y) - (b.y)))⟩, ⟨[0, 1, 2, 3, 4, 5, 6, 7, 8, 9, 10, 11, 12, 13, 14, 15, 16, 17, 18, 19, 20, 21, 22, 23, 24], [6, 7, 8, 16, 24], [], [39], fun f => f 39 = Ix ((Stp.abs ((a.x) - (b.x))) * (Stp.abs ((a.x) - (b.x))) + (Stp.abs ((a.y) - (b.y))) * (Stp.abs ((a.y) - (b.y))) - (a.w + b.w) * (a.w + b.w))⟩, ⟨[0, 1, 2, 3, 4, 5, 6, 7, 8, 9, 10, 11, 12, 13, 14, 15, 16, 17, 18, 19, 20, 21, 22, 23, 24, 25], [25], [], [4], fun f => f 4 = Ix ((Stp.abs ((a.x) - (b.x))) * (Stp.abs ((a.x) - (b.x))) + (Stp.abs ((a.y) - (b.y))) * (Stp.abs ((a.y) - (b.y))) - (a.w + b.w) * (a.w + b.w))⟩, ⟨[0, 1, 2, 3, 4, 5, 6, 7, 8, 9, 10, 11, 12, 13, 14, 15, 16, 17, 18, 19, 20, 21, 22, 23, 24, 25, 26], [], [], [5], fun f => f 5 = .bool true⟩] [⟨none, none, [2, 8, 14, 22], [], fun _ => pt b2 (.cells (bC b) 52)⟩, ⟨none, none, [0, 7, 11, 19], [], fun _ => pt b1 (.cells (bC a) 52)⟩] [(2, .pointer (some ⟨b1, 0, none⟩)), (3, .pointer (some ⟨b2, 0, none⟩))] [] [] (by kernel_rfl) (by kernel_rfl) (by kernel_rfl) (by kernel_rfl) rfl ⟨rfl, rfl, trivial⟩ ⟨?_, ?_, ?_, ?_, ?_, ?_, ?_, ?_, ?_, ?_, ?_, ?_, ?_, ?_, ?_, ?_, ?_, ?_, ?_, ?_, ?_, ?_, ?_, ?_, ?_, ?_, ?_, ?_, trivial⟩ ?_
     ·rintro f M - ⟨i0, -⟩
      have hs2 : f 2 = .pointer (some ⟨b1, 0, none⟩) := i0
      refine ob_start (L' := pt b1 (.cells (bC a) 52) :: M) (by rfl) (up_cons rfl hs2) ?_
      refine l_val (v := .agg (bC a)) rfl rfl rfl (e_load tf22 (cs := (bodyE a)) rfl (k_pt 0 (cs := (bC a)) (vs := (bodyE a)) rfl rfl) rfl) ?_
      refine l_nil ?_
      exact f_owes_d (up_cons rfl hs2) rfl (perm_front 0 rfl)
     ·rintro f M ⟨k0, -⟩ -
      have hs14 : f 14 = .agg (bC a) := k0
      refine ob_start (L' := M) (by rfl) (up_cons rfl hs14) ?_
      refine l_call rfl rfl rfl (cl_value (fst := []) (cap := []) (vs := [.agg (bC a)]) (all := [.agg (bC a)]) tf25 rfl rfl rfl) ?_
      intro w hw
      obtain ⟨β1, sb, kn, hw1, back⟩ := St.frame_all hw
      refine (kind1_ok β1 w hw1 a ra).mono ?_
      rintro e w' ⟨rfl, hw'⟩
      refine ⟨_, rfl, _, back _ _ hw', ?_⟩
      clear hw hw1 hw' back kn sb
      refine l_nil ?_
      exact f_owes_d (up_cons rfl hs14) rfl (List.Perm.refl _)
     ·rintro f M - ⟨i0, -⟩
      have hs3 : f 3 = .pointer (some ⟨b2, 0, none⟩) := i0
      refine ob_start (L' := pt b2 (.cells (bC b) 52) :: M) (by rfl) (up_cons rfl hs3) ?_
      refine l_val (v := .agg (bC b)) rfl rfl rfl (e_load tf22 (cs := (bodyE b)) rfl (k_pt 0 (cs := (bC b)) (vs := (bodyE b)) rfl rfl) rfl) ?_
      refine l_nil ?_
      exact f_owes_d (up_cons rfl hs3) rfl (perm_front 0 rfl)
     ·rintro f M ⟨k0, -⟩ -
      have hs16 : f 16 = .agg (bC b) := k0
      refine ob_start (L' := M) (by rfl) (up_cons rfl hs16) ?_
      refine l_call rfl rfl rfl (cl_value (fst := []) (cap := []) (vs := [.agg (bC b)]) (all := [.agg (bC b)]) tf25 rfl rfl rfl) ?_
      intro w hw
      obtain ⟨β1, sb, kn, hw1, back⟩ := St.frame_all hw
      refine (kind1_ok β1 w hw1 b rb).mono ?_
      rintro e w' ⟨rfl, hw'⟩
      refine ⟨_, rfl, _, back _ _ hw', ?_⟩
      clear hw hw1 hw' back kn sb
      refine l_nil ?_
      exact f_owes_d (up_cons rfl hs16) rfl (List.Perm.refl _)
     ·rintro f M ⟨k0, -⟩ -
      have hs15 : f 15 = .int .i64 (1) := k0
      refine ob_start (L' := M) (by rfl) (up_cons rfl hs15) ?_
      refine l_val (v := .pointer (some ((⟨0, 0, none⟩ : Addr).add (1 * 2)))) rfl rfl rfl (e_indexArr (a := ⟨0, 0, none⟩) (k := 1) rfl rfl tf26 (by decide)) ?_
      refine l_nil ?_
      exact f_owes_d (up_cons rfl hs15) rfl (List.Perm.refl _)
     ·rintro f M ⟨k0, k1, -⟩ -
      have hs18 : f 18 = .pointer (some ((⟨0, 0, none⟩ : Addr).add (1 * 2))) := k0
      have hs17 : f 17 = .int .i64 (1) := k1
      refine ob_start (L' := M) (by rfl) (up_cons (up_cons rfl hs18) hs17) ?_
      refine l_val (v := .pointer (some (((⟨0, 0, none⟩ : Addr).add (1 * 2) : Addr).add (1 * 1)))) rfl rfl rfl (e_indexArr (a := (⟨0, 0, none⟩ : Addr).add (1 * 2)) (k := 1) rfl rfl tf27 (by decide)) ?_
      refine l_nil ?_
      exact f_owes_d (up_cons (up_cons rfl hs18) hs17) rfl (List.Perm.refl _)
     ·rintro f M ⟨k0, -⟩ -
      have hs19 : f 19 = .pointer (some (((⟨0, 0, none⟩ : Addr).add (1 * 2) : Addr).add (1 * 1))) := k0
      refine ob_start (L' := M) (by rfl) (up_cons rfl hs19) ?_
      refine l_val (v := .func (.func 268) #[] #[]) rfl rfl rfl (e_load1 tf28 (v := .func (.func 268) #[] #[]) rfl (Knows.imp (Knows.imp (Knows.of_base (Cs.mono _ _) hG) (fun _ h => Cs.sub (vs := [.func (.func 267) #[] #[], .func (.func 268) #[] #[]]) (1 * 2) h rfl)) (fun _ h => Cs.sub (vs := [.func (.func 268) #[] #[]]) (1 * 1) h rfl))) ?_
      refine l_nil ?_
      exact f_owes_d (up_cons rfl hs19) rfl (List.Perm.refl _)
     ·rintro f M - ⟨i0, -⟩
      have hs2 : f 2 = .pointer (some ⟨b1, 0, none⟩) := i0
      refine ob_start (L' := pt b1 (.cells (bC a) 52) :: M) (by rfl) (up_cons rfl hs2) ?_
      refine l_val (v := .agg (bC a)) rfl rfl rfl (e_load tf22 (cs := (bodyE a)) rfl (k_pt 0 (cs := (bC a)) (vs := (bodyE a)) rfl rfl) rfl) ?_
      refine l_nil ?_
      exact f_owes_d (up_cons rfl hs2) rfl (perm_front 0 rfl)
     ·rintro f M - ⟨i0, -⟩
      have hs3 : f 3 = .pointer (some ⟨b2, 0, none⟩) := i0
      refine ob_start (L' := pt b2 (.cells (bC b) 52) :: M) (by rfl) (up_cons rfl hs3) ?_
      refine l_val (v := .agg (bC b)) rfl rfl rfl (e_load tf22 (cs := (bodyE b)) rfl (k_pt 0 (cs := (bC b)) (vs := (bodyE b)) rfl rfl) rfl) ?_
      refine l_nil ?_
      exact f_owes_d (up_cons rfl hs3) rfl (perm_front 0 rfl)
     ·rintro f M - ⟨i0, -⟩
      have hs2 : f 2 = .pointer (some ⟨b1, 0, none⟩) := i0
      refine ob_start (L' := M) (by rfl) (up_cons rfl hs2) ?_
      refine l_val (v := .pointer (some ⟨b1, 1, none⟩)) rfl rfl rfl (e_fieldPt (b := b1) (o := 0) rfl tf6) ?_
      refine l_nil ?_
      exact f_owes_d (up_cons rfl hs2) rfl (List.Perm.refl _)
     ·rintro f M ⟨k0, -⟩ -
      have hs23 : f 23 = .pointer (some ⟨b1, 1, none⟩) := k0
      refine ob_start (L' := M) (by rfl) (up_cons rfl hs23) ?_
      refine l_val (v := .pointer (some ⟨b1, 1, none⟩)) rfl rfl rfl (e_fieldPt (b := b1) (o := 1) rfl tf7) ?_
      refine l_nil ?_
      exact f_owes_d (up_cons rfl hs23) rfl (List.Perm.refl _)
     ·rintro f M ⟨k0, -⟩ -
      have hs24 : f 24 = .pointer (some ⟨b1, 1, none⟩) := k0
      refine ob_start (L' := pt b1 (.cells (bC a) 52) :: M) (by rfl) (up_cons rfl hs24) ?_
      refine l_val (v := Ix (a.x)) rfl rfl rfl (e_load1 tf2 (v := Ix (a.x)) rfl (k_pt 0 (cs := (bC a)) (vs := [Ix (a.x)]) rfl rfl)) ?_
      refine l_nil ?_
      exact f_owes_d (up_cons rfl hs24) rfl (perm_front 0 rfl)
     ·rintro f M - ⟨i0, -⟩
      have hs3 : f 3 = .pointer (some ⟨b2, 0, none⟩) := i0
      refine ob_start (L' := M) (by rfl) (up_cons rfl hs3) ?_
      refine l_val (v := .pointer (some ⟨b2, 1, none⟩)) rfl rfl rfl (e_fieldPt (b := b2) (o := 0) rfl tf6) ?_
      refine l_nil ?_
      exact f_owes_d (up_cons rfl hs3) rfl (List.Perm.refl _)
     ·rintro f M ⟨k0, -⟩ -
      have hs26 : f 26 = .pointer (some ⟨b2, 1, none⟩) := k0
      refine ob_start (L' := M) (by rfl) (up_cons rfl hs26) ?_
      refine l_val (v := .pointer (some ⟨b2, 1, none⟩)) rfl rfl rfl (e_fieldPt (b := b2) (o := 1) rfl tf7) ?_
      refine l_nil ?_
      exact f_owes_d (up_cons rfl hs26) rfl (List.Perm.refl _)
     ·rintro f M ⟨k0, -⟩ -
      have hs27 : f 27 = .pointer (some ⟨b2, 1, none⟩) := k0
      refine ob_start (L' := pt b2 (.cells (bC b) 52) :: M) (by rfl) (up_cons rfl hs27) ?_
      refine l_val (v := Ix (b.x)) rfl rfl rfl (e_load1 tf2 (v := Ix (b.x)) rfl (k_pt 0 (cs := (bC b)) (vs := [Ix (b.x)]) rfl rfl)) ?_
      refine l_nil ?_
      exact f_owes_d (up_cons rfl hs27) rfl (perm_front 0 rfl)
     ·rintro f M ⟨k0, k1, -⟩ -
      have hs25 : f 25 = Ix (a.x) := k0
      have hs28 : f 28 = Ix (b.x) := k1
      refine ob_start (L' := M) (by rfl) (up_cons (up_cons rfl hs25) hs28) ?_
      refine l_val (v := Ix ((a.x) - (b.x))) rfl rfl rfl (e_sub (a := (a.x)) (b := (b.x)) rfl rfl (i64w (by omega))) ?_
      refine l_nil ?_
      exact f_owes_d (up_cons (up_cons rfl hs25) hs28) rfl (List.Perm.refl _)
     ·rintro f M ⟨k0, -⟩ -
      have hs29 : f 29 = Ix ((a.x) - (b.x)) := k0
      refine ob_start (L' := M) (by rfl) (up_cons rfl hs29) ?_
      refine l_call rfl rfl rfl (cl_value (fst := []) (cap := []) (vs := [Ix ((a.x) - (b.x))]) (all := [Ix ((a.x) - (b.x))]) tf29 rfl rfl rfl) ?_
      intro w hw
      obtain ⟨β1, sb, kn, hw1, back⟩ := St.frame_all hw
      refine (abs_ok β1 w hw1 ((a.x) - (b.x)) (by omega)).mono ?_
      rintro e w' ⟨rfl, hw'⟩
      refine ⟨_, rfl, _, back _ _ hw', ?_⟩
      clear hw hw1 hw' back kn sb
      refine l_nil ?_
      exact f_owes_d (up_cons rfl hs29) rfl (List.Perm.refl _)
     ·rintro f M - ⟨i0, -⟩
      have hs2 : f 2 = .pointer (some ⟨b1, 0, none⟩) := i0
      refine ob_start (L' := M) (by rfl) (up_cons rfl hs2) ?_
      refine l_val (v := .pointer (some ⟨b1, 1, none⟩)) rfl rfl rfl (e_fieldPt (b := b1) (o := 0) rfl tf6) ?_
      refine l_nil ?_
      exact f_owes_d (up_cons rfl hs2) rfl (List.Perm.refl _)
     ·rintro f M ⟨k0, -⟩ -
      have hs31 : f 31 = .pointer (some ⟨b1, 1, none⟩) := k0
      refine ob_start (L' := M) (by rfl) (up_cons rfl hs31) ?_
      refine l_val (v := .pointer (some ⟨b1, 2, none⟩)) rfl rfl rfl (e_fieldPt (b := b1) (o := 1) rfl tf8) ?_
      refine l_nil ?_
      exact f_owes_d (up_cons rfl hs31) rfl (List.Perm.refl _)
     ·rintro f M ⟨k0, -⟩ -
      have hs32 : f 32 = .pointer (some ⟨b1, 2, none⟩) := k0
      refine ob_start (L' := pt b1 (.cells (bC a) 52) :: M) (by rfl) (up_cons rfl hs32) ?_
      refine l_val (v := Ix (a.y)) rfl rfl rfl (e_load1 tf2 (v := Ix (a.y)) rfl (k_pt 0 (cs := (bC a)) (vs := [Ix (a.y)]) rfl rfl)) ?_
      refine l_nil ?_
      exact f_owes_d (up_cons rfl hs32) rfl (perm_front 0 rfl)
     ·rintro f M - ⟨i0, -⟩
      have hs3 : f 3 = .pointer (some ⟨b2, 0, none⟩) := i0
      refine ob_start (L' := M) (by rfl) (up_cons rfl hs3) ?_
      refine l_val (v := .pointer (some ⟨b2, 1, none⟩)) rfl rfl rfl (e_fieldPt (b := b2) (o := 0) rfl tf6) ?_
      refine l_nil ?_
      exact f_owes_d (up_cons rfl hs3) rfl (List.Perm.refl _)
     ·rintro f M ⟨k0, -⟩ -
      have hs34 : f 34 = .pointer (some ⟨b2, 1, none⟩) := k0
      refine ob_start (L' := M) (by rfl) (up_cons rfl hs34) ?_
      refine l_val (v := .pointer (some ⟨b2, 2, none⟩)) rfl rfl rfl (e_fieldPt (b := b2) (o := 1) rfl tf8) ?_
      refine l_nil ?_
      exact f_owes_d (up_cons rfl hs34) rfl (List.Perm.refl _)
     ·rintro f M ⟨k0, -⟩ -
      have hs35 : f 35 = .pointer (some ⟨b2, 2, none⟩) := k0
      refine ob_start (L' := pt b2 (.cells (bC b) 52) :: M) (by rfl) (up_cons rfl hs35) ?_
      refine l_val (v := Ix (b.y)) rfl rfl rfl (e_load1 tf2 (v := Ix (b.y)) rfl (k_pt 0 (cs := (bC b)) (vs := [Ix (b.y)]) rfl rfl)) ?_
      refine l_nil ?_
      exact f_owes_d (up_cons rfl hs35) rfl (perm_front 0 rfl)
     ·rintro f M ⟨k0, k1, -⟩ -
      have hs33 : f 33 = Ix (a.y) := k0
      have hs36 : f 36 = Ix (b.y) := k1
      refine ob_start (L' := M) (by rfl) (up_cons (up_cons rfl hs33) hs36) ?_
      refine l_val (v := Ix ((a.y) - (b.y))) rfl rfl rfl (e_sub (a := (a.y)) (b := (b.y)) rfl rfl (i64w (by omega))) ?_
      refine l_nil ?_
      exact f_owes_d (up_cons (up_cons rfl hs33) hs36) rfl (List.Perm.refl _)
     ·rintro f M ⟨k0, -⟩ -
      have hs37 : f 37 = Ix ((a.y) - (b.y)) := k0
      refine ob_start (L' := M) (by rfl) (up_cons rfl hs37) ?_
      refine l_call rfl rfl rfl (cl_value (fst := []) (cap := []) (vs := [Ix ((a.y) - (b.y))]) (all := [Ix ((a.y) - (b.y))]) tf29 rfl rfl rfl) ?_
      intro w hw
      obtain ⟨β1, sb, kn, hw1, back⟩ := St.frame_all hw
      refine (abs_ok β1 w hw1 ((a.y) - (b.y)) (by omega)).mono ?_
      rintro e w' ⟨rfl, hw'⟩
      refine ⟨_, rfl, _, back _ _ hw', ?_⟩
      clear hw hw1 hw' back kn sb
      refine l_nil ?_
      exact f_owes_d (up_cons rfl hs37) rfl (List.Perm.refl _)
     ·rintro f M ⟨k0, k1, k2, k3, k4, -⟩ -
      have hs20 : f 20 = .func (.func 268) #[] #[] := k0
      have hs21 : f 21 = .agg (bC a) := k1
      have hs22 : f 22 = .agg (bC b) := k2
      have hs30 : f 30 = Ix (Stp.abs ((a.x) - (b.x))) := k3
      have hs38 : f 38 = Ix (Stp.abs ((a.y) - (b.y))) := k4
      refine ob_start (L' := M) (by rfl) (up_cons (up_cons (up_cons (up_cons (up_cons rfl hs20) hs21) hs22) hs30) hs38) ?_
      refine l_call rfl rfl rfl (cl_value (fst := []) (cap := []) (vs := [.agg (bC a), .agg (bC b), Ix (Stp.abs ((a.x) - (b.x))), Ix (Stp.abs ((a.y) - (b.y)))]) (all := [.agg (bC a), .agg (bC b), Ix (Stp.abs ((a.x) - (b.x))), Ix (Stp.abs ((a.y) - (b.y)))]) tf32 rfl rfl rfl) ?_
      intro w hw
      obtain ⟨β1, sb, kn, hw1, back⟩ := St.frame_all hw
      refine (circles_ok β1 w hw1 a b hoa hob (Stp.abs ((a.x) - (b.x))) (Stp.abs ((a.y) - (b.y))) dX dY).mono ?_
      rintro e w' ⟨rfl, hw'⟩
      refine ⟨_, rfl, _, back _ _ hw', ?_⟩
      clear hw hw1 hw' back kn sb
      refine l_nil ?_
      exact f_owes_d (up_cons (up_cons (up_cons (up_cons (up_cons rfl hs20) hs21) hs22) hs30) hs38) rfl (List.Perm.refl _)
     ·rintro f M ⟨k0, -⟩ -
      have hs39 : f 39 = Ix ((Stp.abs ((a.x) - (b.x))) * (Stp.abs ((a.x) - (b.x))) + (Stp.abs ((a.y) - (b.y))) * (Stp.abs ((a.y) - (b.y))) - (a.w + b.w) * (a.w + b.w)) := k0
      refine ob_start (L' := M) (by rfl) (up_cons rfl hs39) ?_
      refine l_val (v := Ix ((Stp.abs ((a.x) - (b.x))) * (Stp.abs ((a.x) - (b.x))) + (Stp.abs ((a.y) - (b.y))) * (Stp.abs ((a.y) - (b.y))) - (a.w + b.w) * (a.w + b.w))) rfl rfl rfl (e_assign) ?_
      refine l_nil ?_
      exact f_owes_d (up_cons rfl hs39) rfl (List.Perm.refl _)
     ·rintro f M - -
      refine ob_start (L' := M) (by rfl) rfl ?_
      refine l_val (v := .bool true) rfl rfl rfl (e_assign) ?_
      refine l_nil ?_
      exact f_owes_d rfl rfl (List.Perm.refl _)
     rintro fa8 ⟨-, -, -, -, -, -, -, -, -, -, -, -, -, -, -, -, -, -, -, -, -, -, -, -, -, -, k26, k27, -⟩ -
     refine f_re (L' := [pt b2 (.cells (bC b) 52), pt b1 (.cells (bC a) 52)]) (by rfl) ?_
     refine f_rebase (d := 4) (v := Ix ((Stp.abs ((a.x) - (b.x))) * (Stp.abs ((a.x) - (b.x))) + (Stp.abs ((a.y) - (b.y))) * (Stp.abs ((a.y) - (b.y))) - (a.w + b.w) * (a.w + b.w))) k26 ?_
     refine f_rebase (d := 5) (v := .bool true) k27 ?_
     refine f_then ?_
     refine c_ret ?_
     refine ret2 (v := Ix ((Stp.abs ((a.x) - (b.x))) * (Stp.abs ((a.x) - (b.x))) + (Stp.abs ((a.y) - (b.y))) * (Stp.abs ((a.y) - (b.y))) - (a.w + b.w) * (a.w + b.w))) (v' := .bool true) Tryz.results202 rfl rfl ?_
     intro w hw
     exact ⟨congrArg (fun z => Ending.returned (.tuple z)) (farV_yes hoa hob (room_tt ra rb _ _)).symm, st_mask [false, false] rfl hw⟩
theorem farY_ok (β : Base) (w : World) (hw : St β [] w) (hG : GR β) (a b : KB) (ha : okB a) (hb : okB b) : Calls Tryz.prog 202 #[.agg (bC a), .agg (bC b)] w fun r w' => r = .returned (.tuple #[Ix (far a b), .bool true]) ∧ St β [] w' := by
 refine (far_ok β w hw hG a b).mono ?_
 rintro r w' ⟨rfl, hw'⟩
 exact ⟨by rw [farV_yes ha hb rfl]; rfl, hw'⟩
theorem farN_ok (β : Base) (w : World) (hw : St β [] w) (hG : GR β) (a b : KB) (h : ¬ (okB a ∧ okB b)) : Calls Tryz.prog 202 #[.agg (bC a), .agg (bC b)] w fun r w' => r = .returned (.tuple #[.int .i64 0, .bool false]) ∧ St β [] w' := by
 refine (far_ok β w hw hG a b).mono ?_
 rintro r w' ⟨rfl, hw'⟩
 exact ⟨by unfold farV; rw [if_neg h], hw'⟩
theorem over_ok (β : Base) (w : World) (hw : St β [] w) (hG : GR β) (a b : KB) : Calls Tryz.prog 150 #[.agg (bC a), .agg (bC b)] w fun r w' => r = .returned (.bool (decide (over a b))) ∧ St β [] w' := by
 refine enter (n := 18) Tryz.func150 rfl Tryz.ntmps150 rfl ?_ hw
 refine c_seq ?_
 refine c_region ?_
 refine l_mv rfl rfl rfl (m_box (v := .agg (bC a)) rfl) ?_
 rintro _ _ ⟨b1, rfl, rfl⟩
 refine l_mv rfl rfl rfl (m_box (v := .agg (bC b)) rfl) ?_
 rintro _ _ ⟨b2, rfl, rfl⟩
 refine l_val (v := .bool false) rfl rfl rfl (e_assign) ?_
 refine l_nil ?_
 refine f_then ?_
 refine c_seq ?_
 by_cases hn : okB a ∧ okB b
 ·
  obtain ⟨ha, hb⟩ := hn
  refine c_region ?_
  refine l_val (v := .agg (bC a)) rfl rfl rfl (e_load tf22 (cs := (bodyE a)) rfl (k_pt 1 (cs := (bC a)) (vs := (bodyE a)) rfl rfl) rfl) ?_
  refine l_val (v := .agg (bC b)) rfl rfl rfl (e_load tf22 (cs := (bodyE b)) rfl (k_pt 0 (cs := (bC b)) (vs := (bodyE b)) rfl rfl) rfl) ?_
  refine l_call rfl rfl rfl (cl_value (fst := []) (cap := []) (vs := [.agg (bC a), .agg (bC b)]) (all := [.agg (bC a), .agg (bC b)]) tf33 rfl rfl rfl) ?_
  intro w hw
  obtain ⟨β1, sb, kn, hw1, back⟩ := St.frame_all hw
  have hG1 := GR.mono sb hG
  refine (farY_ok β1 w hw1 hG1 a b ha hb).mono ?_
  rintro e w' ⟨rfl, hw'⟩
  refine ⟨_, rfl, _, back _ _ hw', ?_⟩
  clear hw hw1 hw' back kn sb
  refine l_val (v := .tuple #[Ix (far a b), .bool true]) rfl rfl rfl (e_move) ?_
  refine l_val (v := Ix (far a b)) rfl rfl rfl (e_extract (vs := #[Ix (far a b), .bool true]) rfl rfl) ?_
  refine l_val (v := .bool true) rfl rfl rfl (e_extract (vs := #[Ix (far a b), .bool true]) rfl rfl) ?_
  refine l_val (v := Ix (far a b)) rfl rfl rfl (e_assign) ?_
  refine l_val (v := .bool true) rfl rfl rfl (e_assign) ?_
  refine l_nil ?_
  refine f_then ?_
  refine c_seq ?_
  refine c_region ?_
  refine l_val (v := .bool true) rfl rfl rfl (e_move) ?_
  refine l_val (v := .bool true) rfl rfl rfl (e_move) ?_
  refine g_val (v := Ix (far a b)) rfl rfl rfl rfl rfl (e_move) ?_
  refine g_val (v := .bool (decide ((far a b) < (0 : Int)))) rfl rfl rfl rfl rfl (e_lss (a := (far a b)) (b := (0 : Int)) rfl rfl) ?_
  refine l_val (v := .bool (decide ((far a b) < (0 : Int)))) rfl rfl rfl (e_pick_t rfl) ?_
  refine l_val (v := .bool (decide ((far a b) < (0 : Int)))) rfl rfl rfl (e_assign) ?_
  refine l_nil ?_
  refine f_then ?_
  refine c_ret ?_
  refine ret1 Tryz.results150 (v := .bool (decide ((far a b) < (0 : Int)))) rfl ?_
  intro w hw
  exact ⟨congrArg (fun b : Bool => Ending.returned (.bool b)) (decide_eq_decide.2 ⟨fun h => ⟨ha, hb, h⟩, fun h => h.2.2⟩), st_mask [false, false] rfl hw⟩
 ·
  skip
  refine c_region ?_
  refine l_val (v := .agg (bC a)) rfl rfl rfl (e_load tf22 (cs := (bodyE a)) rfl (k_pt 1 (cs := (bC a)) (vs := (bodyE a)) rfl rfl) rfl) ?_
  refine l_val (v := .agg (bC b)) rfl rfl rfl (e_load tf22 (cs := (bodyE b)) rfl (k_pt 0 (cs := (bC b)) (vs := (bodyE b)) rfl rfl) rfl) ?_
  refine l_call rfl rfl rfl (cl_value (fst := []) (cap := []) (vs := [.agg (bC a), .agg (bC b)]) (all := [.agg (bC a), .agg (bC b)]) tf33 rfl rfl rfl) ?_
  intro w hw
  obtain ⟨β1, sb, kn, hw1, back⟩ := St.frame_all hw
  have hG1 := GR.mono sb hG
  refine (farN_ok β1 w hw1 hG1 a b hn).mono ?_
  rintro e w' ⟨rfl, hw'⟩
  refine ⟨_, rfl, _, back _ _ hw', ?_⟩
  clear hw hw1 hw' back kn sb
  refine l_val (v := .tuple #[.int .i64 (0), .bool false]) rfl rfl rfl (e_move) ?_
  refine l_val (v := .int .i64 (0)) rfl rfl rfl (e_extract (vs := #[.int .i64 (0), .bool false]) rfl rfl) ?_
  refine l_val (v := .bool false) rfl rfl rfl (e_extract (vs := #[.int .i64 (0), .bool false]) rfl rfl) ?_
  refine l_val (v := .int .i64 (0)) rfl rfl rfl (e_assign) ?_
  refine l_val (v := .bool false) rfl rfl rfl (e_assign) ?_
  refine l_nil ?_
  refine f_then ?_
  refine c_seq ?_
  refine c_region ?_
  refine l_val (v := .bool false) rfl rfl rfl (e_move) ?_
  refine l_val (v := .bool false) rfl rfl rfl (e_move) ?_
  refine l_skip rfl rfl rfl rfl rfl rfl ?_
  refine l_skip rfl rfl rfl rfl rfl rfl ?_
  refine l_val (v := .bool false) rfl rfl rfl (e_pick_f rfl) ?_
  refine l_val (v := .bool false) rfl rfl rfl (e_assign) ?_
  refine l_nil ?_
  refine f_then ?_
  refine c_ret ?_
  refine ret1 Tryz.results150 (v := .bool false) rfl ?_
  intro w hw
  exact ⟨congrArg (fun b : Bool => Ending.returned (.bool b)) (decide_eq_false fun h => hn ⟨h.1, h.2.1⟩).symm, st_mask [false, false] rfl hw⟩
end Go.Proofs
