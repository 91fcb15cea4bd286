/-
  BroadWrong: walked. Printed by a program of my own.
-/
import Derived.Test.YtmgpmgckbcjalaaBr13
import Derived.Test.YtmgpmgckbcjalaaJnIdx
namespace Go.Brd
open Go.Sl
def badA (k : Nat) (lo hi : Int) : KA := match k with | 0 => ⟨1, 0, 0, 0⟩ | 1 => ⟨0, 1, 0, 0⟩ | 2 => ⟨lo, 0, 0, 0⟩ | 3 => ⟨0, lo, 0, 0⟩ | 4 => ⟨0, 0, hi, 0⟩ | _ => ⟨0, 0, 0, hi⟩
theorem bad_ix (k : Nat) (hk : k < 6) (lo hi : Int) : (#[Ix 1, Ix 0, Ix 0, Ix 0, Ix 0, Ix 1, Ix 0, Ix 0, Ix lo, Ix 0, Ix 0, Ix 0, Ix 0, Ix lo, Ix 0, Ix 0, Ix 0, Ix 0, Ix hi, Ix 0, Ix 0, Ix 0, Ix 0, Ix hi] : Array Value).extract (k * 4) (k * 4 + 4) = aC (badA k lo hi) := by
  rcases (show k = 0 ∨ k = 1 ∨ k = 2 ∨ k = 3 ∨ k = 4 ∨ k = 5 by omega) with rfl | rfl | rfl | rfl | rfl | rfl <;> rfl
theorem bad_not (k : Nat) {lo hi : Int} (h1 : lo ≤ -2097153) (h2 : 2097153 ≤ hi) : ¬ okA (badA k lo hi) := by
  unfold badA okA okSpan
  split <;> simp only <;> omega
theorem errP_bad {l : List KA} {B : KA} (h : ¬ okA B) : errP (l ++ [B]) = 2 := if_neg fun q => h (q B (by simp))
theorem errPut_bad {s : KSp} {id : Int} {a : KA} (h : ¬ argS id a) : errPut s id a = 2 := if_neg h
theorem putX_bad {s : KSp} {id : Int} {a : KA} (h : ¬ argS id a) : putX s id a = s := if_neg (by rw [errPut_bad h]; decide)
theorem fill_low {l : List KA} {id : Int} (h : id < 0) : ¬ hasS (fillS l 1) id := fun q => by
  obtain ⟨k, _, e⟩ := fill_ids q
  omega
theorem fill_big {l : List KA} {id : Int} (h : l.length ≤ id) : ¬ hasS (fillS l 1) id := fun q => by
  obtain ⟨k, hk, e⟩ := fill_ids q
  omega
theorem joinR_bad {a b : KA} (h : ¬ okA a) : joinR a b = zeroA := if_neg fun q => h q.1
end Go.Brd
namespace Go.Sl
theorem fill6 (a0 a1 a2 a3 b0 b1 b2 b3 c0 c1 c2 c3 d0 d1 d2 d3 e0 e1 e2 e3 f0 f1 f2 f3 : Value) :
    Instr.fill (fun i => some (i * 4, 4)) (Value.agg #[.int .i64 0, .int .i64 0, .int .i64 0, .int .i64 0, .int .i64 0, .int .i64 0, .int .i64 0, .int .i64 0, .int .i64 0, .int .i64 0, .int .i64 0, .int .i64 0, .int .i64 0, .int .i64 0, .int .i64 0, .int .i64 0, .int .i64 0, .int .i64 0, .int .i64 0, .int .i64 0, .int .i64 0, .int .i64 0, .int .i64 0, .int .i64 0]).cells [(0, .agg #[a0, a1, a2, a3]), (1, .agg #[b0, b1, b2, b3]), (2, .agg #[c0, c1, c2, c3]), (3, .agg #[d0, d1, d2, d3]), (4, .agg #[e0, e1, e2, e3]), (5, .agg #[f0, f1, f2, f3])] = some #[a0, a1, a2, a3, b0, b1, b2, b3, c0, c1, c2, c3, d0, d1, d2, d3, e0, e1, e2, e3, f0, f1, f2, f3] := by
  kernel_rfl
end Go.Sl
namespace Go.Proofs
open Go Go.Sl Go.Brd
theorem tf110 : arB Try.prog 65 6 25 4 = true := by kernel_rfl
theorem tf111 : (Try.prog.info? 65).bind (·.zero) = some (.agg #[.int .i64 (0), .int .i64 (0), .int .i64 (0), .int .i64 (0), .int .i64 (0), .int .i64 (0), .int .i64 (0), .int .i64 (0), .int .i64 (0), .int .i64 (0), .int .i64 (0), .int .i64 (0), .int .i64 (0), .int .i64 (0), .int .i64 (0), .int .i64 (0), .int .i64 (0), .int .i64 (0), .int .i64 (0), .int .i64 (0), .int .i64 (0), .int .i64 (0), .int .i64 (0), .int .i64 (0)]) := by kernel_rfl
theorem tf112 : cfB Try.prog 25 = true := by kernel_rfl
theorem tf113 : slB Try.prog 71 35 1 = true := by kernel_rfl
theorem tf114 : (Try.prog.info? 35).bind (·.zero) = some (.pointer none) := by kernel_rfl
theorem tf115 : Try.prog.underlying 71 = some (.slice 35) := by kernel_rfl
theorem tf116 : tyB Try.prog 35 false 1 = true := by kernel_rfl
theorem put_nil (β : Base) (w : World) (hw : St β [] w) (id : Int) (a : KA) : Calls Try.prog 26 #[.pointer none, Ix id, .agg (aC a)] w fun r w' => r = .returned (.int .i64 1) ∧ St β [] w' := by
  refine enter (n := 48) Try.func26 rfl Try.ntmps26 rfl ?_ hw
  refine c_seq ?_
  refine c_region ?_
  refine l_mv rfl rfl rfl (m_box (v := .agg (aC a)) rfl) ?_
  rintro _ _ ⟨b1, rfl, rfl⟩
  refine l_val (v := .int .i64 (0)) rfl rfl rfl (e_assign) ?_
  refine l_nil ?_
  refine f_then ?_
  refine c_seq ?_
  refine c_seq ?_
  refine c_region ?_
  refine l_val (v := .pointer none) rfl rfl rfl (e_move) ?_
  refine l_call rfl rfl rfl (cl_value (fst := []) (cap := []) (vs := [.pointer none]) (all := [.pointer none]) tf53 rfl rfl rfl) ?_
  intro w hw
  obtain ⟨β1, sb, kn, hw1, back⟩ := St.frame_all hw
  refine (right_nil β1 w hw1).mono ?_
  rintro e w' ⟨rfl, hw'⟩
  refine ⟨_, rfl, _, back _ _ hw', ?_⟩
  clear hw hw1 hw' back kn sb
  refine l_val (v := .bool true) rfl rfl rfl (e_not (a := false) rfl) ?_
  refine l_nil ?_
  refine f_then ?_
  refine c_yes rfl ?_
  refine c_seq ?_
  refine c_region ?_
  refine l_val (v := .int .i64 (1)) rfl rfl rfl (e_assign) ?_
  refine l_nil ?_
  refine f_then ?_
  refine c_ret ?_
  refine f_then_ret ?_
  refine ret1 Try.results26 (v := .int .i64 (1)) rfl ?_
  intro w hw
  exact ⟨rfl, st_mask [false] rfl hw⟩
theorem put_zero (β : Base) (w : World) (hw : St β [] w) (b : Nat) (hc : Cs β.heap ⟨b, 0, none⟩ [.map none, .map none]) (id : Int) (a : KA) : Calls Try.prog 26 #[.pointer (some ⟨b, 0, none⟩), Ix id, .agg (aC a)] w fun r w' => r = .returned (.int .i64 1) ∧ St β [] w' := by
  refine enter (n := 48) Try.func26 rfl Try.ntmps26 rfl ?_ hw
  refine c_seq ?_
  refine c_region ?_
  refine l_mv rfl rfl rfl (m_box (v := .agg (aC a)) rfl) ?_
  rintro _ _ ⟨b1, rfl, rfl⟩
  refine l_val (v := .int .i64 (0)) rfl rfl rfl (e_assign) ?_
  refine l_nil ?_
  refine f_then ?_
  refine c_seq ?_
  refine c_seq ?_
  refine c_region ?_
  refine l_val (v := .pointer (some (⟨b, 0, none⟩))) rfl rfl rfl (e_move) ?_
  refine l_call rfl rfl rfl (cl_value (fst := []) (cap := []) (vs := [.pointer (some (⟨b, 0, none⟩))]) (all := [.pointer (some (⟨b, 0, none⟩))]) tf53 rfl rfl rfl) ?_
  intro w hw
  obtain ⟨β1, sb, kn, hw1, back⟩ := St.frame_all hw
  refine (right_zero β1 w hw1 _ (Cs.mono _ _ _ _ sb hc)).mono ?_
  rintro e w' ⟨rfl, hw'⟩
  refine ⟨_, rfl, _, back _ _ hw', ?_⟩
  clear hw hw1 hw' back kn sb
  refine l_val (v := .bool true) rfl rfl rfl (e_not (a := false) rfl) ?_
  refine l_nil ?_
  refine f_then ?_
  refine c_yes rfl ?_
  refine c_seq ?_
  refine c_region ?_
  refine l_val (v := .int .i64 (1)) rfl rfl rfl (e_assign) ?_
  refine l_nil ?_
  refine f_then ?_
  refine c_ret ?_
  refine f_then_ret ?_
  refine ret1 Try.results26 (v := .int .i64 (1)) rfl ?_
  intro w hw
  exact ⟨rfl, st_mask [false] rfl hw⟩
theorem drop_nil (β : Base) (w : World) (hw : St β [] w) (id : Int) : Calls Try.prog 25 #[.pointer none, Ix id] w fun r w' => r = .returned (.int .i64 1) ∧ St β [] w' := by
  refine enter (n := 26) Try.func25 rfl Try.ntmps25 rfl ?_ hw
  refine c_seq ?_
  refine c_region ?_
  refine l_val (v := .int .i64 (0)) rfl rfl rfl (e_assign) ?_
  refine l_nil ?_
  refine f_then ?_
  refine c_seq ?_
  refine c_seq ?_
  refine c_region ?_
  refine l_val (v := .pointer none) rfl rfl rfl (e_move) ?_
  refine l_call rfl rfl rfl (cl_value (fst := []) (cap := []) (vs := [.pointer none]) (all := [.pointer none]) tf53 rfl rfl rfl) ?_
  intro w hw
  obtain ⟨β1, sb, kn, hw1, back⟩ := St.frame_all hw
  refine (right_nil β1 w hw1).mono ?_
  rintro e w' ⟨rfl, hw'⟩
  refine ⟨_, rfl, _, back _ _ hw', ?_⟩
  clear hw hw1 hw' back kn sb
  refine l_val (v := .bool true) rfl rfl rfl (e_not (a := false) rfl) ?_
  refine l_nil ?_
  refine f_then ?_
  refine c_yes rfl ?_
  refine c_seq ?_
  refine c_region ?_
  refine l_val (v := .int .i64 (1)) rfl rfl rfl (e_assign) ?_
  refine l_nil ?_
  refine f_then ?_
  refine c_ret ?_
  refine f_then_ret ?_
  refine ret1 Try.results25 (v := .int .i64 (1)) rfl ?_
  intro w hw
  exact ⟨rfl, st_mask [] rfl hw⟩
theorem drop_zero (β : Base) (w : World) (hw : St β [] w) (b : Nat) (hc : Cs β.heap ⟨b, 0, none⟩ [.map none, .map none]) (id : Int) : Calls Try.prog 25 #[.pointer (some ⟨b, 0, none⟩), Ix id] w fun r w' => r = .returned (.int .i64 1) ∧ St β [] w' := by
  refine enter (n := 26) Try.func25 rfl Try.ntmps25 rfl ?_ hw
  refine c_seq ?_
  refine c_region ?_
  refine l_val (v := .int .i64 (0)) rfl rfl rfl (e_assign) ?_
  refine l_nil ?_
  refine f_then ?_
  refine c_seq ?_
  refine c_seq ?_
  refine c_region ?_
  refine l_val (v := .pointer (some (⟨b, 0, none⟩))) rfl rfl rfl (e_move) ?_
  refine l_call rfl rfl rfl (cl_value (fst := []) (cap := []) (vs := [.pointer (some (⟨b, 0, none⟩))]) (all := [.pointer (some (⟨b, 0, none⟩))]) tf53 rfl rfl rfl) ?_
  intro w hw
  obtain ⟨β1, sb, kn, hw1, back⟩ := St.frame_all hw
  refine (right_zero β1 w hw1 _ (Cs.mono _ _ _ _ sb hc)).mono ?_
  rintro e w' ⟨rfl, hw'⟩
  refine ⟨_, rfl, _, back _ _ hw', ?_⟩
  clear hw hw1 hw' back kn sb
  refine l_val (v := .bool true) rfl rfl rfl (e_not (a := false) rfl) ?_
  refine l_nil ?_
  refine f_then ?_
  refine c_yes rfl ?_
  refine c_seq ?_
  refine c_region ?_
  refine l_val (v := .int .i64 (1)) rfl rfl rfl (e_assign) ?_
  refine l_nil ?_
  refine f_then ?_
  refine c_ret ?_
  refine f_then_ret ?_
  refine ret1 Try.results25 (v := .int .i64 (1)) rfl ?_
  intro w hw
  exact ⟨rfl, st_mask [] rfl hw⟩
theorem spairs_nil (β : Base) (w : World) (hw : St β [] w) : Calls Try.prog 15 #[.pointer none] w fun r w' => r = .returned (.slice none 0 0) ∧ St β [] w' := by
  refine enter (n := 9) Try.func15 rfl Try.ntmps15 rfl ?_ hw
  refine c_seq ?_
  refine c_region ?_
  refine l_val (v := .slice none 0 0) rfl rfl rfl (e_assign) ?_
  refine l_nil ?_
  refine f_then ?_
  refine c_seq ?_
  refine c_seq ?_
  refine c_region ?_
  refine l_val (v := .pointer none) rfl rfl rfl (e_move) ?_
  refine l_call rfl rfl rfl (cl_value (fst := []) (cap := []) (vs := [.pointer none]) (all := [.pointer none]) tf53 rfl rfl rfl) ?_
  intro w hw
  obtain ⟨β1, sb, kn, hw1, back⟩ := St.frame_all hw
  refine (right_nil β1 w hw1).mono ?_
  rintro e w' ⟨rfl, hw'⟩
  refine ⟨_, rfl, _, back _ _ hw', ?_⟩
  clear hw hw1 hw' back kn sb
  refine l_val (v := .bool true) rfl rfl rfl (e_not (a := false) rfl) ?_
  refine l_nil ?_
  refine f_then ?_
  refine c_yes rfl ?_
  refine c_seq ?_
  refine c_region ?_
  refine l_val (v := .slice none 0 0) rfl rfl rfl (e_assign) ?_
  refine l_nil ?_
  refine f_then ?_
  refine c_ret ?_
  refine f_then_ret ?_
  refine ret1 Try.results15 (v := .slice none 0 0) rfl ?_
  intro w hw
  exact ⟨rfl, st_mask [] rfl hw⟩
theorem spairs_zero (β : Base) (w : World) (hw : St β [] w) (b : Nat) (hc : Cs β.heap ⟨b, 0, none⟩ [.map none, .map none]) : Calls Try.prog 15 #[.pointer (some ⟨b, 0, none⟩)] w fun r w' => r = .returned (.slice none 0 0) ∧ St β [] w' := by
  refine enter (n := 9) Try.func15 rfl Try.ntmps15 rfl ?_ hw
  refine c_seq ?_
  refine c_region ?_
  refine l_val (v := .slice none 0 0) rfl rfl rfl (e_assign) ?_
  refine l_nil ?_
  refine f_then ?_
  refine c_seq ?_
  refine c_seq ?_
  refine c_region ?_
  refine l_val (v := .pointer (some (⟨b, 0, none⟩))) rfl rfl rfl (e_move) ?_
  refine l_call rfl rfl rfl (cl_value (fst := []) (cap := []) (vs := [.pointer (some (⟨b, 0, none⟩))]) (all := [.pointer (some (⟨b, 0, none⟩))]) tf53 rfl rfl rfl) ?_
  intro w hw
  obtain ⟨β1, sb, kn, hw1, back⟩ := St.frame_all hw
  refine (right_zero β1 w hw1 _ (Cs.mono _ _ _ _ sb hc)).mono ?_
  rintro e w' ⟨rfl, hw'⟩
  refine ⟨_, rfl, _, back _ _ hw', ?_⟩
  clear hw hw1 hw' back kn sb
  refine l_val (v := .bool true) rfl rfl rfl (e_not (a := false) rfl) ?_
  refine l_nil ?_
  refine f_then ?_
  refine c_yes rfl ?_
  refine c_seq ?_
  refine c_region ?_
  refine l_val (v := .slice none 0 0) rfl rfl rfl (e_assign) ?_
  refine l_nil ?_
  refine f_then ?_
  refine c_ret ?_
  refine f_then_ret ?_
  refine ret1 Try.results15 (v := .slice none 0 0) rfl ?_
  intro w hw
  exact ⟨rfl, st_mask [] rfl hw⟩
theorem changes_nil (β : Base) (w : World) (hw : St β [] w) : Calls Try.prog 27 #[.pointer none] w fun r w' => r = .returned (.tuple #[.slice none 0 0, .slice none 0 0]) ∧ St β [] w' := by
  refine enter (n := 66) Try.func27 rfl Try.ntmps27 rfl ?_ hw
  refine c_seq ?_
  refine c_region ?_
  refine l_val (v := .slice none 0 0) rfl rfl rfl (e_assign) ?_
  refine l_val (v := .slice none 0 0) rfl rfl rfl (e_assign) ?_
  refine l_nil ?_
  refine f_then ?_
  refine c_seq ?_
  refine c_seq ?_
  refine c_region ?_
  refine l_val (v := .pointer none) rfl rfl rfl (e_move) ?_
  refine l_call rfl rfl rfl (cl_value (fst := []) (cap := []) (vs := [.pointer none]) (all := [.pointer none]) tf53 rfl rfl rfl) ?_
  intro w hw
  obtain ⟨β1, sb, kn, hw1, back⟩ := St.frame_all hw
  refine (right_nil β1 w hw1).mono ?_
  rintro e w' ⟨rfl, hw'⟩
  refine ⟨_, rfl, _, back _ _ hw', ?_⟩
  clear hw hw1 hw' back kn sb
  refine l_val (v := .bool true) rfl rfl rfl (e_not (a := false) rfl) ?_
  refine l_nil ?_
  refine f_then ?_
  refine c_yes rfl ?_
  refine c_seq ?_
  refine c_region ?_
  refine l_val (v := .slice none 0 0) rfl rfl rfl (e_assign) ?_
  refine l_val (v := .slice none 0 0) rfl rfl rfl (e_assign) ?_
  refine l_nil ?_
  refine f_then ?_
  refine c_ret ?_
  refine f_then_ret ?_
  refine ret2 (v := .slice none 0 0) (v' := .slice none 0 0) Try.results27 rfl rfl ?_
  intro w hw
  exact ⟨rfl, st_mask [] rfl hw⟩
theorem changes_zero (β : Base) (w : World) (hw : St β [] w) (b : Nat) (hc : Cs β.heap ⟨b, 0, none⟩ [.map none, .map none]) : Calls Try.prog 27 #[.pointer (some ⟨b, 0, none⟩)] w fun r w' => r = .returned (.tuple #[.slice none 0 0, .slice none 0 0]) ∧ St β [] w' := by
  refine enter (n := 66) Try.func27 rfl Try.ntmps27 rfl ?_ hw
  refine c_seq ?_
  refine c_region ?_
  refine l_val (v := .slice none 0 0) rfl rfl rfl (e_assign) ?_
  refine l_val (v := .slice none 0 0) rfl rfl rfl (e_assign) ?_
  refine l_nil ?_
  refine f_then ?_
  refine c_seq ?_
  refine c_seq ?_
  refine c_region ?_
  refine l_val (v := .pointer (some (⟨b, 0, none⟩))) rfl rfl rfl (e_move) ?_
  refine l_call rfl rfl rfl (cl_value (fst := []) (cap := []) (vs := [.pointer (some (⟨b, 0, none⟩))]) (all := [.pointer (some (⟨b, 0, none⟩))]) tf53 rfl rfl rfl) ?_
  intro w hw
  obtain ⟨β1, sb, kn, hw1, back⟩ := St.frame_all hw
  refine (right_zero β1 w hw1 _ (Cs.mono _ _ _ _ sb hc)).mono ?_
  rintro e w' ⟨rfl, hw'⟩
  refine ⟨_, rfl, _, back _ _ hw', ?_⟩
  clear hw hw1 hw' back kn sb
  refine l_val (v := .bool true) rfl rfl rfl (e_not (a := false) rfl) ?_
  refine l_nil ?_
  refine f_then ?_
  refine c_yes rfl ?_
  refine c_seq ?_
  refine c_region ?_
  refine l_val (v := .slice none 0 0) rfl rfl rfl (e_assign) ?_
  refine l_val (v := .slice none 0 0) rfl rfl rfl (e_assign) ?_
  refine l_nil ?_
  refine f_then ?_
  refine c_ret ?_
  refine f_then_ret ?_
  refine ret2 (v := .slice none 0 0) (v' := .slice none 0 0) Try.results27 rfl rfl ?_
  intro w hw
  exact ⟨rfl, st_mask [] rfl hw⟩
theorem query_nil (β : Base) (w : World) (hw : St β [] w) (a : KA) : Calls Try.prog 18 #[.pointer none, .agg (aC a)] w fun r w' => r = .returned (.slice none 0 0) ∧ St β [] w' := by
  refine enter (n := 37) Try.func18 rfl Try.ntmps18 rfl ?_ hw
  refine c_seq ?_
  refine c_region ?_
  refine l_mv rfl rfl rfl (m_box (v := .agg (aC a)) rfl) ?_
  rintro _ _ ⟨b1, rfl, rfl⟩
  refine l_val (v := .slice none 0 0) rfl rfl rfl (e_assign) ?_
  refine l_nil ?_
  refine f_then ?_
  refine c_seq ?_
  refine c_seq ?_
  refine c_region ?_
  refine l_val (v := .pointer none) rfl rfl rfl (e_move) ?_
  refine l_call rfl rfl rfl (cl_value (fst := []) (cap := []) (vs := [.pointer none]) (all := [.pointer none]) tf53 rfl rfl rfl) ?_
  intro w hw
  obtain ⟨β1, sb, kn, hw1, back⟩ := St.frame_all hw
  refine (right_nil β1 w hw1).mono ?_
  rintro e w' ⟨rfl, hw'⟩
  refine ⟨_, rfl, _, back _ _ hw', ?_⟩
  clear hw hw1 hw' back kn sb
  refine l_val (v := .bool true) rfl rfl rfl (e_not (a := false) rfl) ?_
  refine l_val (v := .bool true) rfl rfl rfl (e_move) ?_
  refine l_skip rfl rfl rfl rfl rfl rfl ?_
  refine l_skip rfl rfl rfl rfl rfl rfl ?_
  refine l_skip rfl rfl rfl rfl rfl rfl ?_
  refine l_val (v := .bool true) rfl rfl rfl (e_pick_t rfl) ?_
  refine l_nil ?_
  refine f_then ?_
  refine c_yes rfl ?_
  refine c_seq ?_
  refine c_region ?_
  refine l_val (v := .slice none 0 0) rfl rfl rfl (e_assign) ?_
  refine l_nil ?_
  refine f_then ?_
  refine c_ret ?_
  refine f_then_ret ?_
  refine ret1 Try.results18 (v := .slice none 0 0) rfl ?_
  intro w hw
  exact ⟨rfl, st_mask [false] rfl hw⟩
theorem query_zero (β : Base) (w : World) (hw : St β [] w) (b : Nat) (hc : Cs β.heap ⟨b, 0, none⟩ [.map none, .map none]) (a : KA) : Calls Try.prog 18 #[.pointer (some ⟨b, 0, none⟩), .agg (aC a)] w fun r w' => r = .returned (.slice none 0 0) ∧ St β [] w' := by
  refine enter (n := 37) Try.func18 rfl Try.ntmps18 rfl ?_ hw
  refine c_seq ?_
  refine c_region ?_
  refine l_mv rfl rfl rfl (m_box (v := .agg (aC a)) rfl) ?_
  rintro _ _ ⟨b1, rfl, rfl⟩
  refine l_val (v := .slice none 0 0) rfl rfl rfl (e_assign) ?_
  refine l_nil ?_
  refine f_then ?_
  refine c_seq ?_
  refine c_seq ?_
  refine c_region ?_
  refine l_val (v := .pointer (some (⟨b, 0, none⟩))) rfl rfl rfl (e_move) ?_
  refine l_call rfl rfl rfl (cl_value (fst := []) (cap := []) (vs := [.pointer (some (⟨b, 0, none⟩))]) (all := [.pointer (some (⟨b, 0, none⟩))]) tf53 rfl rfl rfl) ?_
  intro w hw
  obtain ⟨β1, sb, kn, hw1, back⟩ := St.frame_all hw
  refine (right_zero β1 w hw1 _ (Cs.mono _ _ _ _ sb hc)).mono ?_
  rintro e w' ⟨rfl, hw'⟩
  refine ⟨_, rfl, _, back _ _ hw', ?_⟩
  clear hw hw1 hw' back kn sb
  refine l_val (v := .bool true) rfl rfl rfl (e_not (a := false) rfl) ?_
  refine l_val (v := .bool true) rfl rfl rfl (e_move) ?_
  refine l_skip rfl rfl rfl rfl rfl rfl ?_
  refine l_skip rfl rfl rfl rfl rfl rfl ?_
  refine l_skip rfl rfl rfl rfl rfl rfl ?_
  refine l_val (v := .bool true) rfl rfl rfl (e_pick_t rfl) ?_
  refine l_nil ?_
  refine f_then ?_
  refine c_yes rfl ?_
  refine c_seq ?_
  refine c_region ?_
  refine l_val (v := .slice none 0 0) rfl rfl rfl (e_assign) ?_
  refine l_nil ?_
  refine f_then ?_
  refine c_ret ?_
  refine f_then_ret ?_
  refine ret1 Try.results18 (v := .slice none 0 0) rfl ?_
  intro w hw
  exact ⟨rfl, st_mask [false] rfl hw⟩
set_option maxHeartbeats 4000000 in
theorem wrong_ok (β : Base) (w : World) (hw : St β [] w) (v : Value) (fs : List KF) (way : UInt8) (low high : Int) (hs : Sl FormF.R β.heap v fs) : Calls Try.prog 9 #[v, Bx way, Ix low, Ix high] w fun r w' => r = .returned (.bool true) ∧ St β [] w' := by
  obtain ⟨va, vc, rfl, vl, vm, ve⟩ := hs.get
  refine enter (n := 172) Try.func9 rfl Try.ntmps9 rfl ?_ hw
  refine c_seq ?_
  refine c_region ?_
  refine l_val (v := .bool false) rfl rfl rfl (e_assign) ?_
  refine l_nil ?_
  refine f_then ?_
  refine c_seq ?_
  refine c_seq ?_
  refine c_region ?_
  refine l_call rfl rfl rfl (cl_value (fst := []) (cap := []) (vs := []) (all := []) tf98 rfl rfl rfl) ?_
  intro w hw
  obtain ⟨β1, sb, kn, hw1, back⟩ := St.frame_all hw
  refine (awake_ok β1 w hw1).mono ?_
  rintro e w' ⟨rfl, hw'⟩
  refine ⟨_, rfl, _, back _ _ hw', ?_⟩
  clear hw hw1 hw' back kn sb
  refine l_val (v := .bool false) rfl rfl rfl (e_not (a := true) rfl) ?_
  refine l_nil ?_
  refine f_then ?_
  refine c_no rfl ?_
  refine c_skip ?_
  refine f_then ?_
  refine c_seq ?_
  refine c_region ?_
  refine l_val (v := .slice va (fs.length) (vc)) rfl rfl rfl (e_move) ?_
  refine l_call rfl rfl rfl (cl_value (fst := []) (cap := []) (vs := [.slice va (fs.length) (vc)]) (all := [.slice va (fs.length) (vc)]) tf102 rfl rfl rfl) ?_
  intro w hw
  obtain ⟨β1, sb, kn, hw1, back⟩ := St.frame_all hw
  refine (list_ok β1 w hw1 _ fs (Sl.mono _ _ _ _ _ sb (⟨⟨_, _, rfl, vl, vm, ve⟩⟩ : Sl FormF.R _ _ fs))).mono ?_
  rintro e w' ⟨p1, c2, rfl, hw'⟩
  refine ⟨_, rfl, _, back _ _ hw', ?_⟩
  clear hw hw1 hw' back kn sb
  refine l_val (v := .slice p1 ((listA fs).length) c2) rfl rfl rfl (e_assign) ?_
  refine l_nil ?_
  refine f_then ?_
  refine c_seq ?_
  generalize hlE : listA fs = l
  have hl40 : l.length ≤ 40 := hlE ▸ listA_len fs
  have hok : ∀ z ∈ l, okA z := fun z hz => listA_ok (l := fs) (hlE ▸ hz)
  refine c_region ?_
  refine l_val (v := .slice p1 (l.length) c2) rfl rfl rfl (e_move) ?_
  refine l_call rfl rfl rfl (cl_value (fst := []) (cap := []) (vs := [.slice p1 (l.length) c2, .int .i64 (1)]) (all := [.slice p1 (l.length) c2, .int .i64 (1)]) tf103 rfl rfl rfl) ?_
  intro w hw
  obtain ⟨β1, sb, kn, hw1, back⟩ := St.frame_all hw
  refine (filled_ok β1 w hw1 _ l 1 (kn _ (k_flN 0 (F := AreaF) (m := l.length) rfl rfl)) (by decide) (by decide) hl40 hok).mono ?_
  rintro e w' ⟨b3, rfl, hw'⟩
  refine ⟨_, rfl, _, back _ _ hw', ?_⟩
  clear hw hw1 hw' back kn sb
  refine l_val (v := .tuple #[.pointer (some ⟨b3, 0, none⟩), .bool true]) rfl rfl rfl (e_move) ?_
  refine l_val (v := .pointer (some ⟨b3, 0, none⟩)) rfl rfl rfl (e_extract (vs := #[.pointer (some ⟨b3, 0, none⟩), .bool true]) rfl rfl) ?_
  refine l_val (v := .bool true) rfl rfl rfl (e_extract (vs := #[.pointer (some ⟨b3, 0, none⟩), .bool true]) rfl rfl) ?_
  refine l_val (v := .pointer (some ⟨b3, 0, none⟩)) rfl rfl rfl (e_assign) ?_
  refine l_val (v := .bool true) rfl rfl rfl (e_assign) ?_
  refine l_nil ?_
  refine f_then ?_
  refine c_seq ?_
  refine c_region ?_
  refine l_val (v := Ix (low)) rfl rfl rfl (e_move) ?_
  refine l_val (v := Ix (min (low) (-2097153 : Int))) rfl rfl rfl (e_min (a := (low)) (b := (-2097153 : Int)) rfl rfl) ?_
  refine l_val (v := Ix (high)) rfl rfl rfl (e_move) ?_
  refine l_val (v := Ix (max (high) (2097153 : Int))) rfl rfl rfl (e_max (a := (high)) (b := (2097153 : Int)) rfl rfl) ?_
  refine l_val (v := Ix (min (low) (-2097153 : Int))) rfl rfl rfl (e_assign) ?_
  refine l_val (v := Ix (max (high) (2097153 : Int))) rfl rfl rfl (e_assign) ?_
  refine l_nil ?_
  refine f_then ?_
  refine c_seq ?_
  obtain ⟨lo, hlo⟩ : ∃ z, z = min (low) (-2097153 : Int) := ⟨_, rfl⟩
  obtain ⟨hi, hhi⟩ : ∃ z, z = max (high) (2097153 : Int) := ⟨_, rfl⟩
  rw [← hlo, ← hhi]
  have hlo2 : lo ≤ -2097153 := by omega
  have hhi2 : 2097153 ≤ hi := by omega
  refine c_region ?_
  refine l_call rfl rfl rfl (cl_value (fst := []) (cap := []) (vs := [.int .i64 (1), .int .i64 (0), .int .i64 (0), .int .i64 (0)]) (all := [.int .i64 (1), .int .i64 (0), .int .i64 (0), .int .i64 (0)]) tf71 rfl rfl rfl) ?_
  intro w hw
  obtain ⟨β1, sb, kn, hw1, back⟩ := St.frame_all hw
  refine (area_ok β1 w hw1 1 0 0 0).mono ?_
  rintro e w' ⟨rfl, hw'⟩
  refine ⟨_, rfl, _, back _ _ hw', ?_⟩
  clear hw hw1 hw' back kn sb
  refine l_call rfl rfl rfl (cl_value (fst := []) (cap := []) (vs := [.int .i64 (0), .int .i64 (1), .int .i64 (0), .int .i64 (0)]) (all := [.int .i64 (0), .int .i64 (1), .int .i64 (0), .int .i64 (0)]) tf71 rfl rfl rfl) ?_
  intro w hw
  obtain ⟨β1, sb, kn, hw1, back⟩ := St.frame_all hw
  refine (area_ok β1 w hw1 0 1 0 0).mono ?_
  rintro e w' ⟨rfl, hw'⟩
  refine ⟨_, rfl, _, back _ _ hw', ?_⟩
  clear hw hw1 hw' back kn sb
  refine l_val (v := Ix (lo)) rfl rfl rfl (e_move) ?_
  refine l_call rfl rfl rfl (cl_value (fst := []) (cap := []) (vs := [Ix (lo), .int .i64 (0), .int .i64 (0), .int .i64 (0)]) (all := [Ix (lo), .int .i64 (0), .int .i64 (0), .int .i64 (0)]) tf71 rfl rfl rfl) ?_
  intro w hw
  obtain ⟨β1, sb, kn, hw1, back⟩ := St.frame_all hw
  refine (area_ok β1 w hw1 lo 0 0 0).mono ?_
  rintro e w' ⟨rfl, hw'⟩
  refine ⟨_, rfl, _, back _ _ hw', ?_⟩
  clear hw hw1 hw' back kn sb
  refine l_val (v := Ix (lo)) rfl rfl rfl (e_move) ?_
  refine l_call rfl rfl rfl (cl_value (fst := []) (cap := []) (vs := [.int .i64 (0), Ix (lo), .int .i64 (0), .int .i64 (0)]) (all := [.int .i64 (0), Ix (lo), .int .i64 (0), .int .i64 (0)]) tf71 rfl rfl rfl) ?_
  intro w hw
  obtain ⟨β1, sb, kn, hw1, back⟩ := St.frame_all hw
  refine (area_ok β1 w hw1 0 lo 0 0).mono ?_
  rintro e w' ⟨rfl, hw'⟩
  refine ⟨_, rfl, _, back _ _ hw', ?_⟩
  clear hw hw1 hw' back kn sb
  refine l_val (v := Ix (hi)) rfl rfl rfl (e_move) ?_
  refine l_call rfl rfl rfl (cl_value (fst := []) (cap := []) (vs := [.int .i64 (0), .int .i64 (0), Ix (hi), .int .i64 (0)]) (all := [.int .i64 (0), .int .i64 (0), Ix (hi), .int .i64 (0)]) tf71 rfl rfl rfl) ?_
  intro w hw
  obtain ⟨β1, sb, kn, hw1, back⟩ := St.frame_all hw
  refine (area_ok β1 w hw1 0 0 hi 0).mono ?_
  rintro e w' ⟨rfl, hw'⟩
  refine ⟨_, rfl, _, back _ _ hw', ?_⟩
  clear hw hw1 hw' back kn sb
  refine l_val (v := Ix (hi)) rfl rfl rfl (e_move) ?_
  refine l_call rfl rfl rfl (cl_value (fst := []) (cap := []) (vs := [.int .i64 (0), .int .i64 (0), .int .i64 (0), Ix (hi)]) (all := [.int .i64 (0), .int .i64 (0), .int .i64 (0), Ix (hi)]) tf71 rfl rfl rfl) ?_
  intro w hw
  obtain ⟨β1, sb, kn, hw1, back⟩ := St.frame_all hw
  refine (area_ok β1 w hw1 0 0 0 hi).mono ?_
  rintro e w' ⟨rfl, hw'⟩
  refine ⟨_, rfl, _, back _ _ hw', ?_⟩
  clear hw hw1 hw' back kn sb
  refine l_val (v := .agg #[.int .i64 (1), .int .i64 (0), .int .i64 (0), .int .i64 (0), .int .i64 (0), .int .i64 (1), .int .i64 (0), .int .i64 (0), Ix (lo), .int .i64 (0), .int .i64 (0), .int .i64 (0), .int .i64 (0), Ix (lo), .int .i64 (0), .int .i64 (0), .int .i64 (0), .int .i64 (0), Ix (hi), .int .i64 (0), .int .i64 (0), .int .i64 (0), .int .i64 (0), Ix (hi)]) rfl rfl rfl (e_build_a tf111 tf110 (vs := [(0, .agg #[.int .i64 (1), .int .i64 (0), .int .i64 (0), .int .i64 (0)]), (1, .agg #[.int .i64 (0), .int .i64 (1), .int .i64 (0), .int .i64 (0)]), (2, .agg #[Ix (lo), .int .i64 (0), .int .i64 (0), .int .i64 (0)]), (3, .agg #[.int .i64 (0), Ix (lo), .int .i64 (0), .int .i64 (0)]), (4, .agg #[.int .i64 (0), .int .i64 (0), Ix (hi), .int .i64 (0)]), (5, .agg #[.int .i64 (0), .int .i64 (0), .int .i64 (0), Ix (hi)])]) (cells := #[.int .i64 (1), .int .i64 (0), .int .i64 (0), .int .i64 (0), .int .i64 (0), .int .i64 (1), .int .i64 (0), .int .i64 (0), Ix (lo), .int .i64 (0), .int .i64 (0), .int .i64 (0), .int .i64 (0), Ix (lo), .int .i64 (0), .int .i64 (0), .int .i64 (0), .int .i64 (0), Ix (hi), .int .i64 (0), .int .i64 (0), .int .i64 (0), .int .i64 (0), Ix (hi)]) rfl (fill6 _ _ _ _ _ _ _ _ _ _ _ _ _ _ _ _ _ _ _ _ _ _ _ _)) ?_
  refine l_val (v := .int .u8 (((way.toNat : Nat)) : Int)) rfl rfl rfl (e_move) ?_
  refine l_val (v := .int .u8 (((way.toNat % 6 : Nat)) : Int)) rfl rfl rfl (e_rem (a := ((way.toNat : Nat) : Int)) (b := ((6 : Nat) : Int)) rfl rfl (by decide) (nat_tmod _ 6)) ?_
  refine l_val (v := .agg (aC (badA (way.toNat % 6) lo hi))) rfl rfl rfl (e_index_n (k := way.toNat % 6) (m := 4) (r := aC (badA (way.toNat % 6) lo hi)) rfl rfl tf110 (by omega) tf10 (bad_ix _ (by omega) lo hi)) ?_
  refine l_mv rfl rfl rfl (m_alloc tf6) ?_
  rintro _ _ ⟨b4, rfl, rfl⟩
  refine l_mu rfl rfl (m_store 0 tf10 (b := b4) (o := 0) (T := 25) (cs := #[.int .i64 (0), .int .i64 (0), .int .i64 (0), .int .i64 (0)]) (cs' := (aC (badA (way.toNat % 6) lo hi))) (v := .agg (aC (badA (way.toNat % 6) lo hi))) rfl rfl rfl rfl rfl rfl rfl) ?_
  refine l_nil ?_
  refine f_then ?_
  refine c_seq ?_
  generalize hBE : badA (way.toNat % 6) lo hi = B
  have hB : ¬ okA B := hBE ▸ bad_not _ hlo2 hhi2
  have hBB : ¬ meetA B B := fun q => hB q.1
  refine c_region ?_
  refine l_val (v := .pointer (some ⟨b3, 0, none⟩)) rfl rfl rfl (e_move) ?_
  refine l_call rfl rfl rfl (cl_value (fst := []) (cap := []) (vs := [.pointer (some ⟨b3, 0, none⟩)]) (all := [.pointer (some ⟨b3, 0, none⟩)]) tf76 rfl rfl rfl) ?_
  intro w hw
  replace hw := hw.perm (L' := _ :: _ :: _ :: []) (by exact (((perm_front 2 rfl).trans (perm_front 1 rfl)).trans (perm_front 2 rfl)))
  obtain ⟨β1, sb, kn, hw1, back⟩ := St.frame (L := [_]) (M := _ :: _ :: []) hw
  refine (spairsx_ok β1 w b3 (fillS l 1) hw1 (fill_okS (by decide) (by omega) hok)).mono ?_
  rintro e w' ⟨p5, c6, rfl, hw'⟩
  refine ⟨_, rfl, _, back _ _ hw', ?_⟩
  clear hw hw1 hw' back kn sb
  refine l_val (v := .slice p5 ((pairsS (fillS l 1)).length) c6) rfl rfl rfl (e_assign) ?_
  refine l_nil ?_
  refine f_then ?_
  refine c_seq ?_
  refine c_any [⟨[], [], [], [52], fun f => f 52 = .slice (some ⟨(blk (f 52)), 0, none⟩) 0 0⟩, ⟨[], [], [0], [53], fun f => f 53 = .slice p1 (l.length) c2⟩, ⟨[0, 1], [0, 1], [], [54], fun f => f 54 = .slice (sla (f 54)) (l.length) (slc (f 54))⟩, ⟨[], [], [1], [55], fun f => f 55 = .agg (aC B)⟩, ⟨[3], [3], [], [56], fun f => f 56 = .slice (some ⟨(blk (f 56)), 0, none⟩) 1 1⟩, ⟨[0, 1, 2, 3, 4], [2, 4], [], [57], fun f => f 57 = .slice (sla (f 57)) ((l ++ [B]).length) (slc (f 57))⟩, ⟨[0, 1, 2, 3, 4, 5], [5], [], [58], fun f => f 58 = .tuple #[.slice (sla (prt 0 (f 58))) ((pairsX (l ++ [B])).length) (slc (prt 0 (f 58))), Ix (errP (l ++ [B]))]⟩, ⟨[0, 1, 2, 3, 4, 5, 6], [6], [], [51, 58], fun f => f 51 = .tuple #[.slice (sla (prt 0 (f 58))) ((pairsX (l ++ [B])).length) (slc (prt 0 (f 58))), Ix (errP (l ++ [B]))]⟩, ⟨[0, 1, 2, 3, 4, 5, 6, 7], [7], [], [58, 59], fun f => f 59 = .slice (sla (prt 0 (f 58))) ((pairsX (l ++ [B])).length) (slc (prt 0 (f 58)))⟩, ⟨[0, 1, 2, 3, 4, 5, 6, 7], [7], [], [60], fun f => f 60 = Ix (errP (l ++ [B]))⟩, ⟨[0, 1, 2, 3, 4, 5, 6, 7, 8], [8], [], [14, 58], fun f => f 14 = .slice (sla (prt 0 (f 58))) ((pairsX (l ++ [B])).length) (slc (prt 0 (f 58)))⟩, ⟨[0, 1, 2, 3, 4, 5, 6, 7, 8, 9, 10], [9], [], [15], fun f => f 15 = Ix (errP (l ++ [B]))⟩] [⟨none, none, [], [], fun _ => rowF PairF 40 p5 c6 (pairsS (fillS l 1))⟩, ⟨none, none, [], [], fun _ => spcR b3 (fillS l 1)⟩, ⟨none, none, [3], [], fun _ => pt b4 (.cells (aC B) 25)⟩, ⟨none, none, [2], [], fun _ => rowF AreaF 25 p1 c2 l⟩, ⟨(some 0), (some 2), [2], [52], fun f => pt (blk (f 52)) (.cells #[] 25)⟩, ⟨(some 2), (some 5), [5], [54], fun f => rowF AreaF 25 (sla (f 54)) (slc (f 54)) l⟩, ⟨(some 4), none, [5], [56], fun f => pt (blk (f 56)) (.cells (aC B) 25)⟩, ⟨(some 5), none, [6], [57], fun f => rowF AreaF 25 (sla (f 57)) (slc (f 57)) (l ++ [B])⟩, ⟨(some 6), none, [], [58], fun f => rowF PairF 40 (sla (prt 0 (f 58))) (slc (prt 0 (f 58))) (pairsX (l ++ [B]))⟩] [(9, .slice p1 (l.length) c2), (12, .pointer (some ⟨b4, 0, none⟩)), (2, Ix (lo)), (3, Ix (hi)), (10, .pointer (some ⟨b3, 0, none⟩)), (11, .bool true), (13, .slice p5 ((pairsS (fillS l 1)).length) c6)] [2, 3, 0, 4, 5, 1, 6] [] (by kernel_rfl) (by kernel_rfl) (by kernel_rfl) (by kernel_rfl) rfl ⟨rfl, rfl, rfl, rfl, rfl, rfl, rfl, trivial⟩ ⟨?_, ?_, ?_, ?_, ?_, ?_, ?_, ?_, ?_, ?_, ?_, ?_, trivial⟩ ?_
  · rintro f M - -
    refine ob_start (L' := M) (by rfl) rfl ?_
    refine l_mv rfl rfl rfl (m_slice0 tf43) ?_
    rintro _ _ ⟨b8, rfl, rfl⟩
    refine l_nil ?_
    exact f_owes_d rfl rfl (perm_front 0 rfl)
  · rintro f M - ⟨i0, -⟩
    have hs9 : f 9 = .slice p1 (l.length) c2 := i0
    refine ob_start (L' := M) (by rfl) (up_cons rfl hs9) ?_
    refine l_val (v := .slice p1 (l.length) c2) rfl rfl rfl (e_move) ?_
    refine l_nil ?_
    exact f_owes_d (up_cons rfl hs9) rfl (List.Perm.refl _)
  · rintro f M ⟨k0, k1, -⟩ -
    have hs52 : f 52 = .slice (some ⟨(blk (f 52)), 0, none⟩) 0 0 := k0
    have hs53 : f 53 = .slice p1 (l.length) c2 := k1
    refine ob_start (L' := rowF AreaF 25 p1 c2 l :: pt (blk (f 52)) (.cells #[] 25) :: M) (by rfl) (up_cons (up_cons rfl hs52) hs53) ?_
    refine l_conseq 1 (r' := rowF AreaF 25 (some ⟨(blk (f 52)), 0, none⟩) 0 []) rfl (fun a h => pt_row (m := 0) (by decide) rfl a h) ?_
    refine l_mv rfl rfl rfl (m_appendFlN (F := AreaF) 1 tf43 tf97 (p := (some ⟨(blk (f 52)), 0, none⟩)) (m := 0) (xs := []) (ys := l) (ao := p1) (k := l.length) (c := c2) rfl rfl rfl rfl rfl (Knows.imp (k_flN 0 (F := AreaF) (m := l.length) rfl rfl) fun _ h => (Sl.parts h).2.2.2) (by first | omega | simp only [List.length_nil, List.length_cons, List.length_append, List.length_set]; omega) (by first | omega | simp only [List.length_nil, List.length_cons, List.length_append, List.length_set]; omega)) ?_
    rintro _ _ ⟨rp11, rc12, rfl, rfl⟩
    refine l_nil ?_
    exact f_owes_d (up_cons (up_cons rfl hs52) hs53) rfl ((perm_front 1 rfl).trans (perm_front 1 rfl))
  · rintro f M - ⟨i0, -⟩
    have hs12 : f 12 = .pointer (some ⟨b4, 0, none⟩) := i0
    refine ob_start (L' := pt b4 (.cells (aC B) 25) :: M) (by rfl) (up_cons rfl hs12) ?_
    refine l_val (v := .agg (aC B)) rfl rfl rfl (e_load tf10 (cs := (areaE B)) rfl (k_pt 0 (cs := (aC B)) (vs := (areaE B)) rfl rfl) rfl) ?_
    refine l_nil ?_
    exact f_owes_d (up_cons rfl hs12) rfl (perm_front 0 rfl)
  · rintro f M ⟨k0, -⟩ -
    have hs55 : f 55 = .agg (aC B) := k0
    refine ob_start (L' := M) (by rfl) (up_cons rfl hs55) ?_
    refine l_mv rfl rfl rfl (m_slices tf43 tf6 (vs := [(0, .agg (aC B))]) (cells := (aC B)) rfl rfl rfl rfl) ?_
    rintro _ _ ⟨b14, rfl, rfl⟩
    refine l_nil ?_
    exact f_owes_d (up_cons rfl hs55) rfl (perm_front 0 rfl)
  · rintro f M ⟨k0, k1, -⟩ -
    have hs54 : f 54 = .slice (sla (f 54)) (l.length) (slc (f 54)) := k0
    have hs56 : f 56 = .slice (some ⟨(blk (f 56)), 0, none⟩) 1 1 := k1
    refine ob_start (L' := rowF AreaF 25 (sla (f 54)) (slc (f 54)) l :: pt (blk (f 56)) (.cells (aC B) 25) :: M) (by rfl) (up_cons (up_cons rfl hs54) hs56) ?_
    refine l_mv rfl rfl rfl (m_appendFlN (F := AreaF) 0 tf43 tf97 (p := (sla (f 54))) (m := l.length) (xs := l) (ys := [B]) (ao := (some ⟨(blk (f 56)), 0, none⟩)) (k := 1) (c := 1) rfl rfl rfl rfl rfl (k_ptFl (z := B) 1 rfl rfl) (by first | omega | simp only [List.length_nil, List.length_cons, List.length_append, List.length_set]; omega) (by first | omega | simp only [List.length_nil, List.length_cons, List.length_append, List.length_set]; omega)) ?_
    rintro _ _ ⟨rp17, rc18, rfl, rfl⟩
    refine l_nil ?_
    exact f_owes_d (up_cons (up_cons rfl hs54) hs56) rfl ((perm_front 0 rfl).trans (perm_front 1 rfl))
  · rintro f M ⟨k0, -⟩ -
    have hs57 : f 57 = .slice (sla (f 57)) ((l ++ [B]).length) (slc (f 57)) := k0
    refine ob_start (L' := rowF AreaF 25 (sla (f 57)) (slc (f 57)) (l ++ [B]) :: M) (by rfl) (up_cons rfl hs57) ?_
    refine l_call rfl rfl rfl (cl_value (fst := []) (cap := []) (vs := [.slice (sla (f 57)) ((l ++ [B]).length) (slc (f 57))]) (all := [.slice (sla (f 57)) ((l ++ [B]).length) (slc (f 57))]) tf73 rfl rfl rfl) ?_
    intro w hw
    obtain ⟨β1, sb, kn, hw1, back⟩ := St.frame_all hw
    refine (pairs_ok β1 w hw1 _ (l ++ [B]) (kn _ (k_flN 0 (F := AreaF) (m := (l ++ [B]).length) rfl rfl)) (by rw [List.length_append]; show l.length + 1 ≤ _; omega)).mono ?_
    rintro e w' ⟨p21, c22, rfl, hw'⟩
    refine ⟨_, rfl, _, back _ _ hw', ?_⟩
    clear hw hw1 hw' back kn sb
    refine l_nil ?_
    exact f_owes_d (up_cons rfl hs57) rfl ((perm_front 0 rfl).trans (perm_front 1 rfl))
  · rintro f M ⟨k0, -⟩ -
    have hs58 : f 58 = .tuple #[.slice (sla (prt 0 (f 58))) ((pairsX (l ++ [B])).length) (slc (prt 0 (f 58))), Ix (errP (l ++ [B]))] := k0
    refine ob_start (L' := M) (by rfl) (up_cons rfl hs58) ?_
    refine l_val (v := .tuple #[.slice (sla (prt 0 (f 58))) ((pairsX (l ++ [B])).length) (slc (prt 0 (f 58))), Ix (errP (l ++ [B]))]) rfl rfl rfl (e_move) ?_
    refine l_nil ?_
    exact f_owes_d (up_cons rfl hs58) rfl (List.Perm.refl _)
  · rintro f M ⟨k0, -⟩ -
    have hs51 : f 51 = .tuple #[.slice (sla (prt 0 (f 58))) ((pairsX (l ++ [B])).length) (slc (prt 0 (f 58))), Ix (errP (l ++ [B]))] := k0
    refine ob_start (L' := M) (by rfl) (up_cons rfl hs51) ?_
    refine l_val (v := .slice (sla (prt 0 (f 58))) ((pairsX (l ++ [B])).length) (slc (prt 0 (f 58)))) rfl rfl rfl (e_extract (vs := #[.slice (sla (prt 0 (f 58))) ((pairsX (l ++ [B])).length) (slc (prt 0 (f 58))), Ix (errP (l ++ [B]))]) rfl rfl) ?_
    refine l_nil ?_
    exact f_owes_d (up_cons rfl hs51) rfl (List.Perm.refl _)
  · rintro f M ⟨k0, -⟩ -
    have hs51 : f 51 = .tuple #[.slice (sla (prt 0 (f 58))) ((pairsX (l ++ [B])).length) (slc (prt 0 (f 58))), Ix (errP (l ++ [B]))] := k0
    refine ob_start (L' := M) (by rfl) (up_cons rfl hs51) ?_
    refine l_val (v := Ix (errP (l ++ [B]))) rfl rfl rfl (e_extract (vs := #[.slice (sla (prt 0 (f 58))) ((pairsX (l ++ [B])).length) (slc (prt 0 (f 58))), Ix (errP (l ++ [B]))]) rfl rfl) ?_
    refine l_nil ?_
    exact f_owes_d (up_cons rfl hs51) rfl (List.Perm.refl _)
  · rintro f M ⟨k0, -⟩ -
    have hs59 : f 59 = .slice (sla (prt 0 (f 58))) ((pairsX (l ++ [B])).length) (slc (prt 0 (f 58))) := k0
    refine ob_start (L' := M) (by rfl) (up_cons rfl hs59) ?_
    refine l_val (v := .slice (sla (prt 0 (f 58))) ((pairsX (l ++ [B])).length) (slc (prt 0 (f 58)))) rfl rfl rfl (e_assign) ?_
    refine l_nil ?_
    exact f_owes_d (up_cons rfl hs59) rfl (List.Perm.refl _)
  · rintro f M ⟨k0, -⟩ -
    have hs60 : f 60 = Ix (errP (l ++ [B])) := k0
    refine ob_start (L' := M) (by rfl) (up_cons rfl hs60) ?_
    refine l_val (v := Ix (errP (l ++ [B]))) rfl rfl rfl (e_assign) ?_
    refine l_nil ?_
    exact f_owes_d (up_cons rfl hs60) rfl (List.Perm.refl _)
  rintro fa23 ⟨-, -, -, -, -, -, -, -, -, -, -, k11, -⟩ ⟨j0, j1, j2, j3, j4, j5, j6, -⟩
  refine f_re (L' := [rowF PairF 40 p5 c6 (pairsS (fillS l 1)), spcR b3 (fillS l 1), pt b4 (.cells (aC B) 25), rowF AreaF 25 p1 c2 l, pt (blk (fa23 56)) (.cells (aC B) 25), rowF AreaF 25 (sla (fa23 57)) (slc (fa23 57)) (l ++ [B]), rowF PairF 40 (sla (prt 0 (fa23 58))) (slc (prt 0 (fa23 58))) (pairsX (l ++ [B]))]) (by rfl) ?_
  refine f_rebase (d := 2) (v := Ix (lo)) j0 ?_
  refine f_rebase (d := 3) (v := Ix (hi)) j1 ?_
  refine f_rebase (d := 9) (v := .slice p1 (l.length) c2) j2 ?_
  refine f_rebase (d := 10) (v := .pointer (some ⟨b3, 0, none⟩)) j3 ?_
  refine f_rebase (d := 11) (v := .bool true) j4 ?_
  refine f_rebase (d := 12) (v := .pointer (some ⟨b4, 0, none⟩)) j5 ?_
  refine f_rebase (d := 13) (v := .slice p5 ((pairsS (fillS l 1)).length) c6) j6 ?_
  refine f_rebase (d := 15) (v := Ix (errP (l ++ [B]))) k11 ?_
  refine f_then ?_
  refine c_seq ?_
  refine c_region ?_
  refine l_val (v := .agg (aC B)) rfl rfl rfl (e_load tf10 (cs := (areaE B)) rfl (k_pt 2 (cs := (aC B)) (vs := (areaE B)) rfl rfl) rfl) ?_
  refine l_val (v := .agg (aC B)) rfl rfl rfl (e_load tf10 (cs := (areaE B)) rfl (k_pt 2 (cs := (aC B)) (vs := (areaE B)) rfl rfl) rfl) ?_
  refine l_call rfl rfl rfl (cl_value (fst := []) (cap := []) (vs := [.agg (aC B), .agg (aC B)]) (all := [.agg (aC B), .agg (aC B)]) tf78 rfl rfl rfl) ?_
  intro w hw
  obtain ⟨β1, sb, kn, hw1, back⟩ := St.frame_all hw
  refine (commonR_ok β1 w hw1 B B).mono ?_
  rintro e w' ⟨rfl, hw'⟩
  refine ⟨_, rfl, _, back _ _ hw', ?_⟩
  clear hw hw1 hw' back kn sb
  refine l_val (v := .tuple #[.agg (aC (comR B B)), .bool (decide (meetA B B))]) rfl rfl rfl (e_move) ?_
  refine l_val (v := .agg (aC (comR B B))) rfl rfl rfl (e_extract (vs := #[.agg (aC (comR B B)), .bool (decide (meetA B B))]) rfl rfl) ?_
  refine l_val (v := .bool (decide (meetA B B))) rfl rfl rfl (e_extract (vs := #[.agg (aC (comR B B)), .bool (decide (meetA B B))]) rfl rfl) ?_
  refine l_mv rfl rfl rfl (m_alloc tf6) ?_
  rintro _ _ ⟨b24, rfl, rfl⟩
  refine l_mu rfl rfl (m_store 0 tf10 (b := b24) (o := 0) (T := 25) (cs := #[.int .i64 (0), .int .i64 (0), .int .i64 (0), .int .i64 (0)]) (cs' := (aC (comR B B))) (v := .agg (aC (comR B B))) rfl rfl rfl rfl rfl rfl rfl) ?_
  refine l_val (v := .bool (decide (meetA B B))) rfl rfl rfl (e_assign) ?_
  refine l_nil ?_
  refine f_then ?_
  refine c_seq ?_
  refine c_seq ?_
  refine c_region ?_
  refine l_val (v := .bool true) rfl rfl rfl (e_move) ?_
  refine l_val (v := .bool false) rfl rfl rfl (e_not (a := true) rfl) ?_
  refine l_val (v := .bool false) rfl rfl rfl (e_move) ?_
  refine g_val (v := Ix (errP (l ++ [B]))) rfl rfl rfl rfl rfl (e_move) ?_
  refine g_val (v := .bool (decide ((errP (l ++ [B])) ≠ (2 : Int)))) rfl rfl rfl rfl rfl (e_neq (a := (errP (l ++ [B]))) (b := (2 : Int)) rfl rfl) ?_
  refine l_val (v := .bool (decide ((errP (l ++ [B])) ≠ (2 : Int)))) rfl rfl rfl (e_pick_f rfl) ?_
  refine l_val (v := .bool (decide ((errP (l ++ [B])) ≠ (2 : Int)))) rfl rfl rfl (e_move) ?_
  refine l_split (s := 73) (p := (errP (l ++ [B])) ≠ (2 : Int)) rfl (fun h => ?_) (fun h => ?_)
  exact absurd h (fun q => q (errP_bad hB))
  refine g_val (v := .pointer (some ⟨b3, 0, none⟩)) rfl rfl rfl rfl rfl (e_move) ?_
  refine g_val (v := .agg (aC B)) rfl rfl rfl rfl rfl (e_load tf10 (cs := (areaE B)) rfl (k_pt 3 (cs := (aC B)) (vs := (areaE B)) rfl rfl) rfl) ?_
  refine g_call rfl rfl rfl rfl rfl (cl_value (fst := []) (cap := []) (vs := [.pointer (some ⟨b3, 0, none⟩), .int .i64 (3), .agg (aC B)]) (all := [.pointer (some ⟨b3, 0, none⟩), .int .i64 (3), .agg (aC B)]) tf75 rfl rfl rfl) ?_
  intro w hw
  replace hw := hw.perm (L' := _ :: _ :: _ :: _ :: _ :: _ :: _ :: _ :: []) (by exact ((((((((perm_front 7 rfl).trans (perm_front 7 rfl)).trans (perm_front 7 rfl)).trans (perm_front 7 rfl)).trans (perm_front 7 rfl)).trans (perm_front 6 rfl)).trans (perm_front 6 rfl)).trans (perm_front 7 rfl)))
  obtain ⟨β1, sb, kn, hw1, back⟩ := St.frame (L := [_]) (M := _ :: _ :: _ :: _ :: _ :: _ :: _ :: []) hw
  refine (put_ok' β1 w b3 (fillS l 1) hw1 (fill_okS (by decide) (by omega) hok) 3 B).mono ?_
  rintro e w' ⟨rfl, hw'⟩
  refine ⟨_, rfl, _, back _ _ hw', ?_⟩
  clear hw hw1 hw' back kn sb
  have hpb : putX (fillS l 1) 3 B = fillS l 1 := putX_bad (by unfold argS; first | exact fun q => hB q.2.2 | (intro q; omega))
  rw [hpb]
  refine g_val (v := .bool (decide ((errPut (fillS l 1) 3 B) ≠ (2 : Int)))) rfl rfl rfl rfl rfl (e_neq (a := (errPut (fillS l 1) 3 B)) (b := (2 : Int)) rfl rfl) ?_
  refine l_val (v := .bool (decide ((errPut (fillS l 1) 3 B) ≠ (2 : Int)))) rfl rfl rfl (e_pick_f rfl) ?_
  refine l_val (v := .bool (decide ((errPut (fillS l 1) 3 B) ≠ (2 : Int)))) rfl rfl rfl (e_move) ?_
  refine l_split (s := 79) (p := (errPut (fillS l 1) 3 B) ≠ (2 : Int)) rfl (fun h => ?_) (fun h => ?_)
  exact absurd h (fun q => q (errPut_bad (fun q => hB q.2.2)))
  refine g_val (v := .pointer (some ⟨b3, 0, none⟩)) rfl rfl rfl rfl rfl (e_move) ?_
  refine g_val (v := Ix (lo)) rfl rfl rfl rfl rfl (e_move) ?_
  refine g_call rfl rfl rfl rfl rfl (cl_value (fst := []) (cap := []) (vs := [.int .i64 (0), .int .i64 (0), .int .i64 (1), .int .i64 (1)]) (all := [.int .i64 (0), .int .i64 (0), .int .i64 (1), .int .i64 (1)]) tf71 rfl rfl rfl) ?_
  intro w hw
  obtain ⟨β1, sb, kn, hw1, back⟩ := St.frame_all hw
  refine (area_ok β1 w hw1 0 0 1 1).mono ?_
  rintro e w' ⟨rfl, hw'⟩
  refine ⟨_, rfl, _, back _ _ hw', ?_⟩
  clear hw hw1 hw' back kn sb
  refine g_call rfl rfl rfl rfl rfl (cl_value (fst := []) (cap := []) (vs := [.pointer (some ⟨b3, 0, none⟩), Ix (lo), .agg #[.int .i64 (0), .int .i64 (0), .int .i64 (1), .int .i64 (1)]]) (all := [.pointer (some ⟨b3, 0, none⟩), Ix (lo), .agg #[.int .i64 (0), .int .i64 (0), .int .i64 (1), .int .i64 (1)]]) tf75 rfl rfl rfl) ?_
  intro w hw
  replace hw := hw.perm (L' := _ :: _ :: _ :: _ :: _ :: _ :: _ :: _ :: []) (by exact ((((((((perm_front 7 rfl).trans (perm_front 7 rfl)).trans (perm_front 7 rfl)).trans (perm_front 7 rfl)).trans (perm_front 7 rfl)).trans (perm_front 7 rfl)).trans (perm_front 7 rfl)).trans (perm_front 7 rfl)))
  obtain ⟨β1, sb, kn, hw1, back⟩ := St.frame (L := [_]) (M := _ :: _ :: _ :: _ :: _ :: _ :: _ :: []) hw
  refine (put_ok' β1 w b3 (fillS l 1) hw1 (fill_okS (by decide) (by omega) hok) lo (⟨0, 0, 1, 1⟩ : KA)).mono ?_
  rintro e w' ⟨rfl, hw'⟩
  refine ⟨_, rfl, _, back _ _ hw', ?_⟩
  clear hw hw1 hw' back kn sb
  have hpb : putX (fillS l 1) lo (⟨0, 0, 1, 1⟩ : KA) = fillS l 1 := putX_bad (by unfold argS; first | exact fun q => hB q.2.2 | (intro q; omega))
  rw [hpb]
  refine g_val (v := .bool (decide ((errPut (fillS l 1) lo (⟨0, 0, 1, 1⟩ : KA)) ≠ (2 : Int)))) rfl rfl rfl rfl rfl (e_neq (a := (errPut (fillS l 1) lo (⟨0, 0, 1, 1⟩ : KA))) (b := (2 : Int)) rfl rfl) ?_
  refine l_val (v := .bool (decide ((errPut (fillS l 1) lo (⟨0, 0, 1, 1⟩ : KA)) ≠ (2 : Int)))) rfl rfl rfl (e_pick_f rfl) ?_
  refine l_val (v := .bool (decide ((errPut (fillS l 1) lo (⟨0, 0, 1, 1⟩ : KA)) ≠ (2 : Int)))) rfl rfl rfl (e_move) ?_
  refine l_split (s := 86) (p := (errPut (fillS l 1) lo (⟨0, 0, 1, 1⟩ : KA)) ≠ (2 : Int)) rfl (fun h => ?_) (fun h => ?_)
  exact absurd h (fun q => q (errPut_bad (by unfold argS; intro q; omega)))
  refine g_val (v := .pointer (some ⟨b3, 0, none⟩)) rfl rfl rfl rfl rfl (e_move) ?_
  refine g_val (v := Ix (hi)) rfl rfl rfl rfl rfl (e_move) ?_
  refine g_call rfl rfl rfl rfl rfl (cl_value (fst := []) (cap := []) (vs := [.int .i64 (0), .int .i64 (0), .int .i64 (1), .int .i64 (1)]) (all := [.int .i64 (0), .int .i64 (0), .int .i64 (1), .int .i64 (1)]) tf71 rfl rfl rfl) ?_
  intro w hw
  obtain ⟨β1, sb, kn, hw1, back⟩ := St.frame_all hw
  refine (area_ok β1 w hw1 0 0 1 1).mono ?_
  rintro e w' ⟨rfl, hw'⟩
  refine ⟨_, rfl, _, back _ _ hw', ?_⟩
  clear hw hw1 hw' back kn sb
  refine g_call rfl rfl rfl rfl rfl (cl_value (fst := []) (cap := []) (vs := [.pointer (some ⟨b3, 0, none⟩), Ix (hi), .agg #[.int .i64 (0), .int .i64 (0), .int .i64 (1), .int .i64 (1)]]) (all := [.pointer (some ⟨b3, 0, none⟩), Ix (hi), .agg #[.int .i64 (0), .int .i64 (0), .int .i64 (1), .int .i64 (1)]]) tf75 rfl rfl rfl) ?_
  intro w hw
  replace hw := hw.perm (L' := _ :: _ :: _ :: _ :: _ :: _ :: _ :: _ :: []) (by exact ((((((((perm_front 7 rfl).trans (perm_front 7 rfl)).trans (perm_front 7 rfl)).trans (perm_front 7 rfl)).trans (perm_front 7 rfl)).trans (perm_front 7 rfl)).trans (perm_front 7 rfl)).trans (perm_front 7 rfl)))
  obtain ⟨β1, sb, kn, hw1, back⟩ := St.frame (L := [_]) (M := _ :: _ :: _ :: _ :: _ :: _ :: _ :: []) hw
  refine (put_ok' β1 w b3 (fillS l 1) hw1 (fill_okS (by decide) (by omega) hok) hi (⟨0, 0, 1, 1⟩ : KA)).mono ?_
  rintro e w' ⟨rfl, hw'⟩
  refine ⟨_, rfl, _, back _ _ hw', ?_⟩
  clear hw hw1 hw' back kn sb
  have hpb : putX (fillS l 1) hi (⟨0, 0, 1, 1⟩ : KA) = fillS l 1 := putX_bad (by unfold argS; first | exact fun q => hB q.2.2 | (intro q; omega))
  rw [hpb]
  refine g_val (v := .bool (decide ((errPut (fillS l 1) hi (⟨0, 0, 1, 1⟩ : KA)) ≠ (2 : Int)))) rfl rfl rfl rfl rfl (e_neq (a := (errPut (fillS l 1) hi (⟨0, 0, 1, 1⟩ : KA))) (b := (2 : Int)) rfl rfl) ?_
  refine l_val (v := .bool (decide ((errPut (fillS l 1) hi (⟨0, 0, 1, 1⟩ : KA)) ≠ (2 : Int)))) rfl rfl rfl (e_pick_f rfl) ?_
  refine l_val (v := .bool (decide ((errPut (fillS l 1) hi (⟨0, 0, 1, 1⟩ : KA)) ≠ (2 : Int)))) rfl rfl rfl (e_move) ?_
  refine l_split (s := 93) (p := (errPut (fillS l 1) hi (⟨0, 0, 1, 1⟩ : KA)) ≠ (2 : Int)) rfl (fun h => ?_) (fun h => ?_)
  exact absurd h (fun q => q (errPut_bad (by unfold argS; intro q; omega)))
  refine g_val (v := .pointer (some ⟨b3, 0, none⟩)) rfl rfl rfl rfl rfl (e_move) ?_
  refine g_val (v := Ix (lo)) rfl rfl rfl rfl rfl (e_move) ?_
  refine g_call rfl rfl rfl rfl rfl (cl_value (fst := []) (cap := []) (vs := [.pointer (some ⟨b3, 0, none⟩), Ix (lo)]) (all := [.pointer (some ⟨b3, 0, none⟩), Ix (lo)]) tf112 rfl rfl rfl) ?_
  intro w hw
  replace hw := hw.perm (L' := _ :: _ :: _ :: _ :: _ :: _ :: _ :: _ :: []) (by exact ((((((((perm_front 7 rfl).trans (perm_front 7 rfl)).trans (perm_front 7 rfl)).trans (perm_front 7 rfl)).trans (perm_front 7 rfl)).trans (perm_front 7 rfl)).trans (perm_front 7 rfl)).trans (perm_front 7 rfl)))
  obtain ⟨β1, sb, kn, hw1, back⟩ := St.frame (L := [_]) (M := _ :: _ :: _ :: _ :: _ :: _ :: _ :: []) hw
  refine (drop_ok β1 w b3 (fillS l 1) hw1 (fill_okS (by decide) (by omega) hok) lo).mono ?_
  rintro e w' ⟨rfl, hw'⟩
  refine ⟨_, rfl, _, back _ _ hw', ?_⟩
  clear hw hw1 hw' back kn sb
  have hpb : delS (fillS l 1) lo = fillS l 1 := del_no (by first | exact fill_big (by omega) | exact fill_low (by omega))
  rw [hpb]
  refine g_val (v := .bool (decide ((errDrop (fillS l 1) lo) ≠ (6 : Int)))) rfl rfl rfl rfl rfl (e_neq (a := (errDrop (fillS l 1) lo)) (b := (6 : Int)) rfl rfl) ?_
  refine l_val (v := .bool (decide ((errDrop (fillS l 1) lo) ≠ (6 : Int)))) rfl rfl rfl (e_pick_f rfl) ?_
  refine l_val (v := .bool (decide ((errDrop (fillS l 1) lo) ≠ (6 : Int)))) rfl rfl rfl (e_move) ?_
  refine l_split (s := 99) (p := (errDrop (fillS l 1) lo) ≠ (6 : Int)) rfl (fun h => ?_) (fun h => ?_)
  exact absurd h (fun q => q (if_neg (fill_low (by omega))))
  refine g_val (v := .pointer (some ⟨b3, 0, none⟩)) rfl rfl rfl rfl rfl (e_move) ?_
  refine g_val (v := .slice p1 (l.length) c2) rfl rfl rfl rfl rfl (e_move) ?_
  refine g_val (v := Nx (l.length)) rfl rfl rfl rfl rfl (e_len (a := p1) (n := l.length) (c := c2) rfl tf42) ?_
  refine g_call rfl rfl rfl rfl rfl (cl_value (fst := []) (cap := []) (vs := [.pointer (some ⟨b3, 0, none⟩), Nx (l.length)]) (all := [.pointer (some ⟨b3, 0, none⟩), Nx (l.length)]) tf112 rfl rfl rfl) ?_
  intro w hw
  replace hw := hw.perm (L' := _ :: _ :: _ :: _ :: _ :: _ :: _ :: _ :: []) (by exact ((((((((perm_front 7 rfl).trans (perm_front 7 rfl)).trans (perm_front 7 rfl)).trans (perm_front 7 rfl)).trans (perm_front 7 rfl)).trans (perm_front 7 rfl)).trans (perm_front 7 rfl)).trans (perm_front 7 rfl)))
  obtain ⟨β1, sb, kn, hw1, back⟩ := St.frame (L := [_]) (M := _ :: _ :: _ :: _ :: _ :: _ :: _ :: []) hw
  refine (drop_ok β1 w b3 (fillS l 1) hw1 (fill_okS (by decide) (by omega) hok) ((l.length : Nat) : Int)).mono ?_
  rintro e w' ⟨rfl, hw'⟩
  refine ⟨_, rfl, _, back _ _ hw', ?_⟩
  clear hw hw1 hw' back kn sb
  have hpb : delS (fillS l 1) ((l.length : Nat) : Int) = fillS l 1 := del_no (by first | exact fill_big (by omega) | exact fill_low (by omega))
  rw [hpb]
  refine g_val (v := .bool (decide ((errDrop (fillS l 1) ((l.length : Nat) : Int)) ≠ (6 : Int)))) rfl rfl rfl rfl rfl (e_neq (a := (errDrop (fillS l 1) ((l.length : Nat) : Int))) (b := (6 : Int)) rfl rfl) ?_
  refine l_val (v := .bool (decide ((errDrop (fillS l 1) ((l.length : Nat) : Int)) ≠ (6 : Int)))) rfl rfl rfl (e_pick_f rfl) ?_
  refine l_nil ?_
  refine f_then ?_
  refine c_if ((errDrop (fillS l 1) ((l.length : Nat) : Int)) ≠ (6 : Int)) rfl (fun hc25 => ?_) (fun hc25 => ?_)
  ·
    exact absurd hc25 (fun q => q (if_neg (fill_big (by omega))))
  ·
    refine c_skip ?_
    refine f_then ?_
    refine c_seq ?_
    refine c_seq ?_
    refine c_any [⟨[], [], [0], [106], fun f => f 106 = .pointer (some ⟨b3, 0, none⟩)⟩, ⟨[], [], [1], [107], fun f => f 107 = .agg (aC B)⟩, ⟨[0, 1], [0, 1], [], [108], fun f => f 108 = .slice (sla (f 108)) ((queryX (fillS l 1) B).length) (slc (f 108))⟩, ⟨[0, 1, 2], [2], [], [109], fun f => f 109 = Nx ((queryX (fillS l 1) B).length)⟩, ⟨[0, 1, 2, 3], [3], [], [110], fun f => f 110 = .bool false⟩, ⟨[0, 1, 2, 3, 4], [4], [], [111], fun f => f 111 = .bool false⟩, ⟨[0, 1, 2, 3, 4, 5], [5], [2], [112], fun f => f 112 = .slice p5 ((pairsS (fillS l 1)).length) c6⟩, ⟨[0, 1, 2, 3, 4, 5], [5], [0], [113], fun f => f 113 = .pointer (some ⟨b3, 0, none⟩)⟩, ⟨[0, 1, 2, 3, 4, 5, 7], [7, 5], [], [114], fun f => f 114 = .slice (sla (f 114)) ((pairsS (fillS l 1)).length) (slc (f 114))⟩, ⟨[0, 1, 2, 3, 4, 5, 6, 7, 8], [6, 8, 5], [], [115], fun f => f 115 = .bool true⟩, ⟨[0, 1, 2, 3, 4, 5, 6, 7, 8, 9], [9, 5], [], [116], fun f => f 116 = .bool false⟩, ⟨[0, 1, 2, 3, 4, 5, 6, 7, 8, 9, 10], [5, 10], [], [117], fun f => f 117 = .bool false⟩, ⟨[0, 1, 2, 3, 4, 5, 6, 7, 8, 9, 10, 11], [11], [], [118], fun f => f 118 = .bool false⟩, ⟨[0, 1, 2, 3, 4, 5, 6, 7, 8, 9, 10, 11, 12], [12], [3], [119], fun f => f 119 = .bool false⟩, ⟨[0, 1, 2, 3, 4, 5, 6, 7, 8, 9, 10, 11, 12, 13], [12, 13], [], [120], fun f => f 120 = .bool false⟩, ⟨[0, 1, 2, 3, 4, 5, 6, 7, 8, 9, 10, 11, 12, 13, 14], [14], [], [121], fun f => f 121 = .bool false⟩, ⟨[0, 1, 2, 3, 4, 5, 6, 7, 8, 9, 10, 11, 12, 13, 14, 15], [15], [1], [122], fun f => f 122 = .agg (aC B)⟩, ⟨[0, 1, 2, 3, 4, 5, 6, 7, 8, 9, 10, 11, 12, 13, 14, 15, 16], [16, 15], [], [123], fun f => f 123 = .bool false⟩, ⟨[0, 1, 2, 3, 4, 5, 6, 7, 8, 9, 10, 11, 12, 13, 14, 15, 16, 17], [15, 17], [], [124], fun f => f 124 = .bool false⟩, ⟨[0, 1, 2, 3, 4, 5, 6, 7, 8, 9, 10, 11, 12, 13, 14, 15, 16, 17, 18], [18], [], [125], fun f => f 125 = .bool false⟩, ⟨[0, 1, 2, 3, 4, 5, 6, 7, 8, 9, 10, 11, 12, 13, 14, 15, 16, 17, 18, 19], [19], [1], [126], fun f => f 126 = .agg (aC B)⟩, ⟨[0, 1, 2, 3, 4, 5, 6, 7, 8, 9, 10, 11, 12, 13, 14, 15, 16, 17, 18, 19], [19], [], [127], fun f => f 127 = .agg #[.int .i64 (0), .int .i64 (0), .int .i64 (1), .int .i64 (1)]⟩, ⟨[0, 1, 2, 3, 4, 5, 6, 7, 8, 9, 10, 11, 12, 13, 14, 15, 16, 17, 18, 19, 20, 21], [20, 21, 19], [], [128], fun f => f 128 = .agg (aC (joinR B (⟨0, 0, 1, 1⟩ : KA)))⟩, ⟨[0, 1, 2, 3, 4, 5, 6, 7, 8, 9, 10, 11, 12, 13, 14, 15, 16, 17, 18, 19], [19], [], [129], fun f => f 129 = .agg #[.int .i64 (0), .int .i64 (0), .int .i64 (0), .int .i64 (0)]⟩, ⟨[0, 1, 2, 3, 4, 5, 6, 7, 8, 9, 10, 11, 12, 13, 14, 15, 16, 17, 18, 19, 20, 21, 22, 23], [22, 23, 19], [], [130], fun f => f 130 = .bool false⟩, ⟨[0, 1, 2, 3, 4, 5, 6, 7, 8, 9, 10, 11, 12, 13, 14, 15, 16, 17, 18, 19, 20, 21, 22, 23, 24], [19, 24], [], [131], fun f => f 131 = .bool false⟩] [⟨none, (some 2), [2], [], fun _ => spcR b3 (fillS l 1)⟩, ⟨none, none, [], [], fun _ => pt b24 (.cells (aC (comR B B)) 25)⟩, ⟨none, none, [9], [], fun _ => rowF PairF 40 p5 c6 (pairsS (fillS l 1))⟩, ⟨none, none, [1, 16, 20], [], fun _ => pt b4 (.cells (aC B) 25)⟩, ⟨none, none, [], [], fun _ => rowF AreaF 25 p1 c2 l⟩, ⟨none, none, [], [], fun _ => pt (blk (fa23 56)) (.cells (aC B) 25)⟩, ⟨none, none, [], [], fun _ => rowF AreaF 25 (sla (fa23 57)) (slc (fa23 57)) (l ++ [B])⟩, ⟨none, none, [], [], fun _ => rowF PairF 40 (sla (prt 0 (fa23 58))) (slc (prt 0 (fa23 58))) (pairsX (l ++ [B]))⟩, ⟨(some 2), none, [], [108], fun f => rowF IntF 3 (sla (f 108)) (slc (f 108)) (queryX (fillS l 1) B)⟩, ⟨(some 2), (some 8), [8], [], fun _ => spcR b3 (fillS l 1)⟩, ⟨(some 8), none, [9], [114], fun f => rowF PairF 40 (sla (f 114)) (slc (f 114)) (pairsS (fillS l 1))⟩, ⟨(some 8), none, [], [], fun _ => spcR b3 (fillS l 1)⟩] [(10, .pointer (some ⟨b3, 0, none⟩)), (12, .pointer (some ⟨b4, 0, none⟩)), (13, .slice p5 ((pairsS (fillS l 1)).length) c6), (17, .bool (decide (meetA B B)))] [] [] (by kernel_rfl) (by kernel_rfl) (by kernel_rfl) (by kernel_rfl) rfl ⟨rfl, rfl, rfl, rfl, trivial⟩ ⟨?_, ?_, ?_, ?_, ?_, ?_, ?_, ?_, ?_, ?_, ?_, ?_, ?_, ?_, ?_, ?_, ?_, ?_, ?_, ?_, ?_, ?_, ?_, ?_, ?_, ?_, trivial⟩ ?_
    · rintro f M - ⟨i0, -⟩
      have hs10 : f 10 = .pointer (some ⟨b3, 0, none⟩) := i0
      refine ob_start (L' := M) (by rfl) (up_cons rfl hs10) ?_
      refine l_val (v := .pointer (some ⟨b3, 0, none⟩)) rfl rfl rfl (e_move) ?_
      refine l_nil ?_
      exact f_owes_d (up_cons rfl hs10) rfl (List.Perm.refl _)
    · rintro f M - ⟨i0, -⟩
      have hs12 : f 12 = .pointer (some ⟨b4, 0, none⟩) := i0
      refine ob_start (L' := pt b4 (.cells (aC B) 25) :: M) (by rfl) (up_cons rfl hs12) ?_
      refine l_val (v := .agg (aC B)) rfl rfl rfl (e_load tf10 (cs := (areaE B)) rfl (k_pt 0 (cs := (aC B)) (vs := (areaE B)) rfl rfl) rfl) ?_
      refine l_nil ?_
      exact f_owes_d (up_cons rfl hs12) rfl (perm_front 0 rfl)
    · rintro f M ⟨k0, k1, -⟩ -
      have hs106 : f 106 = .pointer (some ⟨b3, 0, none⟩) := k0
      have hs107 : f 107 = .agg (aC B) := k1
      refine ob_start (L' := spcR b3 (fillS l 1) :: M) (by rfl) (up_cons (up_cons rfl hs106) hs107) ?_
      refine l_call rfl rfl rfl (cl_value (fst := []) (cap := []) (vs := [.pointer (some ⟨b3, 0, none⟩), .agg (aC B)]) (all := [.pointer (some ⟨b3, 0, none⟩), .agg (aC B)]) tf84 rfl rfl rfl) ?_
      intro w hw
      replace hw := hw.perm (L' := _ :: M) (by exact (perm_front 0 rfl))
      obtain ⟨β1, sb, kn, hw1, back⟩ := St.frame (L := [_]) (M := M) hw
      refine (query_ok β1 w b3 (fillS l 1) hw1 (fill_okS (by decide) (by omega) hok) B).mono ?_
      rintro e w' ⟨p28, c29, rfl, hw'⟩
      refine ⟨_, rfl, _, back _ _ hw', ?_⟩
      clear hw hw1 hw' back kn sb
      refine l_nil ?_
      exact f_owes_d (up_cons (up_cons rfl hs106) hs107) rfl ((perm_front 1 rfl).trans (perm_front 1 rfl))
    · rintro f M ⟨k0, -⟩ -
      have hs108 : f 108 = .slice (sla (f 108)) ((queryX (fillS l 1) B).length) (slc (f 108)) := k0
      refine ob_start (L' := M) (by rfl) (up_cons rfl hs108) ?_
      refine l_val (v := Nx ((queryX (fillS l 1) B).length)) rfl rfl rfl (e_len (a := (sla (f 108))) (n := (queryX (fillS l 1) B).length) (c := (slc (f 108))) rfl tf15) ?_
      refine l_nil ?_
      exact f_owes_d (up_cons rfl hs108) rfl (List.Perm.refl _)
    · rintro f M ⟨k0, -⟩ -
      have hs109 : f 109 = Nx ((queryX (fillS l 1) B).length) := k0
      refine ob_start (L' := M) (by rfl) (up_cons rfl hs109) ?_
      refine l_val (v := .bool false) rfl rfl rfl ((ev_f (fun q => q (by rw [queryX, if_neg hB]; rfl)) (e_neq (a := (((queryX (fillS l 1) B).length : Nat) : Int)) (b := (0 : Int)) rfl rfl))) ?_
      refine l_nil ?_
      exact f_owes_d (up_cons rfl hs109) rfl (List.Perm.refl _)
    · rintro f M ⟨k0, -⟩ -
      have hs110 : f 110 = .bool false := k0
      refine ob_start (L' := M) (by rfl) (up_cons rfl hs110) ?_
      refine l_val (v := .bool false) rfl rfl rfl (e_move) ?_
      refine l_nil ?_
      exact f_owes_d (up_cons rfl hs110) rfl (List.Perm.refl _)
    · rintro f M ⟨k0, -⟩ ⟨i0, -⟩
      have hs13 : f 13 = .slice p5 ((pairsS (fillS l 1)).length) c6 := i0
      have hs111 : f 111 = .bool false := k0
      refine ob_start (L' := M) (by rfl) (up_cons (up_cons rfl hs13) hs111) ?_
      refine g_val (v := .slice p5 ((pairsS (fillS l 1)).length) c6) rfl rfl rfl rfl rfl (e_move) ?_
      refine l_nil ?_
      exact f_owes_d (up_cons (up_cons rfl hs13) hs111) rfl (List.Perm.refl _)
    · rintro f M ⟨k0, -⟩ ⟨i0, -⟩
      have hs10 : f 10 = .pointer (some ⟨b3, 0, none⟩) := i0
      have hs111 : f 111 = .bool false := k0
      refine ob_start (L' := M) (by rfl) (up_cons (up_cons rfl hs10) hs111) ?_
      refine g_val (v := .pointer (some ⟨b3, 0, none⟩)) rfl rfl rfl rfl rfl (e_move) ?_
      refine l_nil ?_
      exact f_owes_d (up_cons (up_cons rfl hs10) hs111) rfl (List.Perm.refl _)
    · rintro f M ⟨k0, k1, -⟩ -
      have hs113 : f 113 = .pointer (some ⟨b3, 0, none⟩) := k0
      have hs111 : f 111 = .bool false := k1
      refine ob_start (L' := spcR b3 (fillS l 1) :: M) (by rfl) (up_cons (up_cons rfl hs113) hs111) ?_
      refine g_call rfl rfl rfl rfl rfl (cl_value (fst := []) (cap := []) (vs := [.pointer (some ⟨b3, 0, none⟩)]) (all := [.pointer (some ⟨b3, 0, none⟩)]) tf76 rfl rfl rfl) ?_
      intro w hw
      replace hw := hw.perm (L' := _ :: M) (by exact (perm_front 0 rfl))
      obtain ⟨β1, sb, kn, hw1, back⟩ := St.frame (L := [_]) (M := M) hw
      refine (spairsx_ok β1 w b3 (fillS l 1) hw1 (fill_okS (by decide) (by omega) hok)).mono ?_
      rintro e w' ⟨p32, c33, rfl, hw'⟩
      refine ⟨_, rfl, _, back _ _ hw', ?_⟩
      clear hw hw1 hw' back kn sb
      refine l_nil ?_
      exact f_owes_d (up_cons (up_cons rfl hs113) hs111) rfl ((perm_front 1 rfl).trans (perm_front 1 rfl))
    · rintro f M ⟨k0, k1, k2, -⟩ -
      have hs112 : f 112 = .slice p5 ((pairsS (fillS l 1)).length) c6 := k0
      have hs114 : f 114 = .slice (sla (f 114)) ((pairsS (fillS l 1)).length) (slc (f 114)) := k1
      have hs111 : f 111 = .bool false := k2
      refine ob_start (L' := rowF PairF 40 p5 c6 (pairsS (fillS l 1)) :: rowF PairF 40 (sla (f 114)) (slc (f 114)) (pairsS (fillS l 1)) :: M) (by rfl) (up_cons (up_cons (up_cons rfl hs112) hs114) hs111) ?_
      refine g_call rfl rfl rfl rfl rfl (cl_value (fst := []) (cap := []) (vs := [.slice p5 ((pairsS (fillS l 1)).length) c6, .slice (sla (f 114)) ((pairsS (fillS l 1)).length) (slc (f 114))]) (all := [.slice p5 ((pairsS (fillS l 1)).length) c6, .slice (sla (f 114)) ((pairsS (fillS l 1)).length) (slc (f 114))]) tf83 rfl rfl rfl) ?_
      intro w hw
      obtain ⟨β1, sb, kn, hw1, back⟩ := St.frame_all hw
      refine (same_ok β1 w hw1 _ _ (pairsS (fillS l 1)) (pairsS (fillS l 1)) (kn _ (k_flN 0 (F := PairF) (m := (pairsS (fillS l 1)).length) rfl rfl)) (kn _ (k_flN 1 (F := PairF) (m := (pairsS (fillS l 1)).length) rfl rfl))).mono ?_
      rintro e w' ⟨rfl, hw'⟩
      refine ⟨_, rfl, _, back _ _ hw', ?_⟩
      clear hw hw1 hw' back kn sb
      refine l_nil ?_
      exact f_owes_d (up_cons (up_cons (up_cons rfl hs112) hs114) hs111) (congrArg Value.bool (decide_eq_true rfl)) ((perm_front 1 rfl).trans (perm_front 1 rfl))
    · rintro f M ⟨k0, k1, -⟩ -
      have hs115 : f 115 = .bool true := k0
      have hs111 : f 111 = .bool false := k1
      refine ob_start (L' := M) (by rfl) (up_cons (up_cons rfl hs115) hs111) ?_
      refine g_val (v := .bool false) rfl rfl rfl rfl rfl (e_not (a := true) rfl) ?_
      refine l_nil ?_
      exact f_owes_d (up_cons (up_cons rfl hs115) hs111) rfl (List.Perm.refl _)
    · rintro f M ⟨k0, k1, -⟩ -
      have hs111 : f 111 = .bool false := k0
      have hs116 : f 116 = .bool false := k1
      refine ob_start (L' := M) (by rfl) (up_cons (up_cons rfl hs111) hs116) ?_
      refine l_val (v := .bool false) rfl rfl rfl (e_pick_f rfl) ?_
      refine l_nil ?_
      exact f_owes_d (up_cons (up_cons rfl hs111) hs116) rfl (List.Perm.refl _)
    · rintro f M ⟨k0, -⟩ -
      have hs117 : f 117 = .bool false := k0
      refine ob_start (L' := M) (by rfl) (up_cons rfl hs117) ?_
      refine l_val (v := .bool false) rfl rfl rfl (e_move) ?_
      refine l_nil ?_
      exact f_owes_d (up_cons rfl hs117) rfl (List.Perm.refl _)
    · rintro f M ⟨k0, -⟩ ⟨i0, -⟩
      have hs17 : f 17 = .bool (decide (meetA B B)) := i0
      have hs118 : f 118 = .bool false := k0
      refine ob_start (L' := M) (by rfl) (up_cons (up_cons rfl hs17) hs118) ?_
      refine g_val (v := .bool false) rfl rfl rfl rfl rfl ((ev_f hBB (e_move))) ?_
      refine l_nil ?_
      exact f_owes_d (up_cons (up_cons rfl hs17) hs118) rfl (List.Perm.refl _)
    · rintro f M ⟨k0, k1, -⟩ -
      have hs118 : f 118 = .bool false := k0
      have hs119 : f 119 = .bool false := k1
      refine ob_start (L' := M) (by rfl) (up_cons (up_cons rfl hs118) hs119) ?_
      refine l_val (v := .bool false) rfl rfl rfl (e_pick_f rfl) ?_
      refine l_nil ?_
      exact f_owes_d (up_cons (up_cons rfl hs118) hs119) rfl (List.Perm.refl _)
    · rintro f M ⟨k0, -⟩ -
      have hs120 : f 120 = .bool false := k0
      refine ob_start (L' := M) (by rfl) (up_cons rfl hs120) ?_
      refine l_val (v := .bool false) rfl rfl rfl (e_move) ?_
      refine l_nil ?_
      exact f_owes_d (up_cons rfl hs120) rfl (List.Perm.refl _)
    · rintro f M ⟨k0, -⟩ ⟨i0, -⟩
      have hs12 : f 12 = .pointer (some ⟨b4, 0, none⟩) := i0
      have hs121 : f 121 = .bool false := k0
      refine ob_start (L' := pt b4 (.cells (aC B) 25) :: M) (by rfl) (up_cons (up_cons rfl hs12) hs121) ?_
      refine g_val (v := .agg (aC B)) rfl rfl rfl rfl rfl (e_load tf10 (cs := (areaE B)) rfl (k_pt 0 (cs := (aC B)) (vs := (areaE B)) rfl rfl) rfl) ?_
      refine l_nil ?_
      exact f_owes_d (up_cons (up_cons rfl hs12) hs121) rfl (perm_front 0 rfl)
    · rintro f M ⟨k0, k1, -⟩ -
      have hs122 : f 122 = .agg (aC B) := k0
      have hs121 : f 121 = .bool false := k1
      refine ob_start (L' := M) (by rfl) (up_cons (up_cons rfl hs122) hs121) ?_
      refine g_call rfl rfl rfl rfl rfl (cl_value (fst := []) (cap := []) (vs := [.agg (aC B)]) (all := [.agg (aC B)]) tf11 rfl rfl rfl) ?_
      intro w hw
      obtain ⟨β1, sb, kn, hw1, back⟩ := St.frame_all hw
      refine (avalid_ok β1 w hw1 B).mono ?_
      rintro e w' ⟨rfl, hw'⟩
      refine ⟨_, rfl, _, back _ _ hw', ?_⟩
      clear hw hw1 hw' back kn sb
      refine l_nil ?_
      exact f_owes_d (up_cons (up_cons rfl hs122) hs121) (congrArg Value.bool (decide_eq_false hB)) (List.Perm.refl _)
    · rintro f M ⟨k0, k1, -⟩ -
      have hs121 : f 121 = .bool false := k0
      have hs123 : f 123 = .bool false := k1
      refine ob_start (L' := M) (by rfl) (up_cons (up_cons rfl hs121) hs123) ?_
      refine l_val (v := .bool false) rfl rfl rfl (e_pick_f rfl) ?_
      refine l_nil ?_
      exact f_owes_d (up_cons (up_cons rfl hs121) hs123) rfl (List.Perm.refl _)
    · rintro f M ⟨k0, -⟩ -
      have hs124 : f 124 = .bool false := k0
      refine ob_start (L' := M) (by rfl) (up_cons rfl hs124) ?_
      refine l_val (v := .bool false) rfl rfl rfl (e_move) ?_
      refine l_nil ?_
      exact f_owes_d (up_cons rfl hs124) rfl (List.Perm.refl _)
    · rintro f M ⟨k0, -⟩ ⟨i0, -⟩
      have hs12 : f 12 = .pointer (some ⟨b4, 0, none⟩) := i0
      have hs125 : f 125 = .bool false := k0
      refine ob_start (L' := pt b4 (.cells (aC B) 25) :: M) (by rfl) (up_cons (up_cons rfl hs12) hs125) ?_
      refine g_val (v := .agg (aC B)) rfl rfl rfl rfl rfl (e_load tf10 (cs := (areaE B)) rfl (k_pt 0 (cs := (aC B)) (vs := (areaE B)) rfl rfl) rfl) ?_
      refine l_nil ?_
      exact f_owes_d (up_cons (up_cons rfl hs12) hs125) rfl (perm_front 0 rfl)
    · rintro f M ⟨k0, -⟩ -
      have hs125 : f 125 = .bool false := k0
      refine ob_start (L' := M) (by rfl) (up_cons rfl hs125) ?_
      refine g_call rfl rfl rfl rfl rfl (cl_value (fst := []) (cap := []) (vs := [.int .i64 (0), .int .i64 (0), .int .i64 (1), .int .i64 (1)]) (all := [.int .i64 (0), .int .i64 (0), .int .i64 (1), .int .i64 (1)]) tf71 rfl rfl rfl) ?_
      intro w hw
      obtain ⟨β1, sb, kn, hw1, back⟩ := St.frame_all hw
      refine (area_ok β1 w hw1 0 0 1 1).mono ?_
      rintro e w' ⟨rfl, hw'⟩
      refine ⟨_, rfl, _, back _ _ hw', ?_⟩
      clear hw hw1 hw' back kn sb
      refine l_nil ?_
      exact f_owes_d (up_cons rfl hs125) rfl (List.Perm.refl _)
    · rintro f M ⟨k0, k1, k2, -⟩ -
      have hs126 : f 126 = .agg (aC B) := k0
      have hs127 : f 127 = .agg #[.int .i64 (0), .int .i64 (0), .int .i64 (1), .int .i64 (1)] := k1
      have hs125 : f 125 = .bool false := k2
      refine ob_start (L' := M) (by rfl) (up_cons (up_cons (up_cons rfl hs126) hs127) hs125) ?_
      refine g_call rfl rfl rfl rfl rfl (cl_value (fst := []) (cap := []) (vs := [.agg (aC B), .agg #[.int .i64 (0), .int .i64 (0), .int .i64 (1), .int .i64 (1)]]) (all := [.agg (aC B), .agg #[.int .i64 (0), .int .i64 (0), .int .i64 (1), .int .i64 (1)]]) tf82 rfl rfl rfl) ?_
      intro w hw
      obtain ⟨β1, sb, kn, hw1, back⟩ := St.frame_all hw
      refine (join_ok β1 w hw1 B (⟨0, 0, 1, 1⟩ : KA)).mono ?_
      rintro e w' ⟨rfl, hw'⟩
      refine ⟨_, rfl, _, back _ _ hw', ?_⟩
      clear hw hw1 hw' back kn sb
      refine l_nil ?_
      exact f_owes_d (up_cons (up_cons (up_cons rfl hs126) hs127) hs125) rfl (List.Perm.refl _)
    · rintro f M ⟨k0, -⟩ -
      have hs125 : f 125 = .bool false := k0
      refine ob_start (L' := M) (by rfl) (up_cons rfl hs125) ?_
      refine g_val (v := .agg #[.int .i64 (0), .int .i64 (0), .int .i64 (0), .int .i64 (0)]) rfl rfl rfl rfl rfl (e_build tf6 tf9 (vs := []) (cells := #[.int .i64 (0), .int .i64 (0), .int .i64 (0), .int .i64 (0)]) rfl rfl) ?_
      refine l_nil ?_
      exact f_owes_d (up_cons rfl hs125) rfl (List.Perm.refl _)
    · rintro f M ⟨k0, k1, k2, -⟩ -
      have hs128 : f 128 = .agg (aC (joinR B (⟨0, 0, 1, 1⟩ : KA))) := k0
      have hs129 : f 129 = .agg #[.int .i64 (0), .int .i64 (0), .int .i64 (0), .int .i64 (0)] := k1
      have hs125 : f 125 = .bool false := k2
      refine ob_start (L' := M) (by rfl) (up_cons (up_cons (up_cons rfl hs128) hs129) hs125) ?_
      refine g_val (v := .bool false) rfl rfl rfl rfl rfl ((ev_f (fun q => q (joinR_bad hB)) (e_neq_t (xs := areaE (joinR B (⟨0, 0, 1, 1⟩ : KA))) (ys := areaE (⟨0, 0, 0, 0⟩ : KA)) tf79 tf80 tf81 rfl rfl rfl rfl (not_congr (area_eq (x := (joinR B (⟨0, 0, 1, 1⟩ : KA))) (y := (⟨0, 0, 0, 0⟩ : KA))))))) ?_
      refine l_nil ?_
      exact f_owes_d (up_cons (up_cons (up_cons rfl hs128) hs129) hs125) rfl (List.Perm.refl _)
    · rintro f M ⟨k0, k1, -⟩ -
      have hs125 : f 125 = .bool false := k0
      have hs130 : f 130 = .bool false := k1
      refine ob_start (L' := M) (by rfl) (up_cons (up_cons rfl hs125) hs130) ?_
      refine l_val (v := .bool false) rfl rfl rfl (e_pick_f rfl) ?_
      refine l_nil ?_
      exact f_owes_d (up_cons (up_cons rfl hs125) hs130) rfl (List.Perm.refl _)
    rintro fa34 ⟨-, -, -, -, -, -, -, -, -, -, -, -, -, -, -, -, -, -, -, -, -, -, -, -, -, k25, -⟩ -
    refine f_re (L' := [pt b24 (.cells (aC (comR B B)) 25), rowF PairF 40 p5 c6 (pairsS (fillS l 1)), pt b4 (.cells (aC B) 25), rowF AreaF 25 p1 c2 l, pt (blk (fa23 56)) (.cells (aC B) 25), rowF AreaF 25 (sla (fa23 57)) (slc (fa23 57)) (l ++ [B]), rowF PairF 40 (sla (prt 0 (fa23 58))) (slc (prt 0 (fa23 58))) (pairsX (l ++ [B])), rowF IntF 3 (sla (fa34 108)) (slc (fa34 108)) (queryX (fillS l 1) B), rowF PairF 40 (sla (fa34 114)) (slc (fa34 114)) (pairsS (fillS l 1)), spcR b3 (fillS l 1)]) (by rfl) ?_
    refine f_rebase (d := 131) (v := .bool false) k25 ?_
    refine f_then ?_
    refine c_no rfl ?_
    refine c_skip ?_
    refine f_then ?_
    refine c_seq ?_
    refine c_seq ?_
    refine c_mask [false, false, false, false, false, false, false, false, false, false] rfl ?_
    refine c_region ?_
    refine l_val (v := .agg #[.map none, .map none]) rfl rfl rfl (e_build tf48 tf47 (vs := []) (cells := #[.map none, .map none]) rfl rfl) ?_
    refine l_mv rfl rfl rfl (m_box (v := .agg #[.map none, .map none]) rfl) ?_
    rintro _ _ ⟨b35, rfl, rfl⟩
    refine l_mv rfl rfl rfl (m_slices tf113 tf114 (vs := [(0, .pointer none), (1, .pointer (some ⟨b35, 0, none⟩))]) (cells := #[.pointer none, .pointer (some ⟨b35, 0, none⟩)]) rfl rfl rfl rfl) ?_
    rintro _ _ ⟨b36, rfl, rfl⟩
    refine l_val (v := .int .i64 (2)) rfl rfl rfl (e_len (n := 2) rfl tf115) ?_
    refine l_val (v := .int .i64 (0)) rfl rfl rfl (e_move) ?_
    refine l_nil ?_
    refine f_then ?_
    refine c_block ?_
    refine c_unroll 3 ?_
    refine un_succ 2 ?_
    refine c_seq ?_
    refine c_region ?_
    refine l_val (v := .bool true) rfl rfl rfl (e_lss (a := (0 : Int)) (b := (2 : Int)) rfl rfl) ?_
    refine l_nil ?_
    refine f_then ?_
    refine c_seq ?_
    refine c_yes rfl ?_
    refine c_skip ?_
    refine f_then ?_
    refine c_seq ?_
    refine c_block ?_
    refine c_seq ?_
    refine c_region ?_
    refine l_val (v := .pointer (some ⟨b36, 0, none⟩)) rfl rfl rfl (e_indexPt (b := b36) (o := 0) (k := 0) (len := 2) (cap := 2) rfl rfl tf113 (by decide)) ?_
    refine l_val (v := .pointer none) rfl rfl rfl (e_load1 tf116 (v := .pointer none) rfl (k_pt 0 (cs := #[.pointer none, .pointer (some ⟨b35, 0, none⟩)]) (vs := [.pointer none]) rfl rfl)) ?_
    refine l_val (v := .pointer none) rfl rfl rfl (e_assign) ?_
    refine l_nil ?_
    refine f_then ?_
    refine c_seq ?_
    refine c_region ?_
    refine l_val (v := .pointer none) rfl rfl rfl (e_move) ?_
    refine l_call rfl rfl rfl (cl_value (fst := []) (cap := []) (vs := [.pointer none]) (all := [.pointer none]) tf77 rfl rfl rfl) ?_
    intro w hw
    obtain ⟨β1, sb, kn, hw1, back⟩ := St.frame_all hw
    refine (changes_nil β1 w hw1).mono ?_
    rintro e w' ⟨rfl, hw'⟩
    refine ⟨_, rfl, _, back _ _ hw', ?_⟩
    clear hw hw1 hw' back kn sb
    refine l_val (v := .tuple #[.slice none 0 0, .slice none 0 0]) rfl rfl rfl (e_move) ?_
    refine l_val (v := .slice none 0 0) rfl rfl rfl (e_extract (vs := #[.slice none 0 0, .slice none 0 0]) rfl rfl) ?_
    refine l_val (v := .slice none 0 0) rfl rfl rfl (e_extract (vs := #[.slice none 0 0, .slice none 0 0]) rfl rfl) ?_
    refine l_val (v := .slice none 0 0) rfl rfl rfl (e_assign) ?_
    refine l_val (v := .slice none 0 0) rfl rfl rfl (e_assign) ?_
    refine l_nil ?_
    refine f_then ?_
    refine c_seq ?_
    refine c_region ?_
    refine l_val (v := .pointer none) rfl rfl rfl (e_move) ?_
    refine l_call rfl rfl rfl (cl_value (fst := []) (cap := []) (vs := [.int .i64 (0), .int .i64 (0), .int .i64 (1), .int .i64 (1)]) (all := [.int .i64 (0), .int .i64 (0), .int .i64 (1), .int .i64 (1)]) tf71 rfl rfl rfl) ?_
    intro w hw
    obtain ⟨β1, sb, kn, hw1, back⟩ := St.frame_all hw
    refine (area_ok β1 w hw1 0 0 1 1).mono ?_
    rintro e w' ⟨rfl, hw'⟩
    refine ⟨_, rfl, _, back _ _ hw', ?_⟩
    clear hw hw1 hw' back kn sb
    refine l_call rfl rfl rfl (cl_value (fst := []) (cap := []) (vs := [.pointer none, .int .i64 (1), .agg #[.int .i64 (0), .int .i64 (0), .int .i64 (1), .int .i64 (1)]]) (all := [.pointer none, .int .i64 (1), .agg #[.int .i64 (0), .int .i64 (0), .int .i64 (1), .int .i64 (1)]]) tf75 rfl rfl rfl) ?_
    intro w hw
    obtain ⟨β1, sb, kn, hw1, back⟩ := St.frame_all hw
    refine (put_nil β1 w hw1 1 (⟨0, 0, 1, 1⟩ : KA)).mono ?_
    rintro e w' ⟨rfl, hw'⟩
    refine ⟨_, rfl, _, back _ _ hw', ?_⟩
    clear hw hw1 hw' back kn sb
    refine l_val (v := .bool false) rfl rfl rfl (e_neq (a := (1 : Int)) (b := (1 : Int)) rfl rfl) ?_
    refine l_val (v := .bool false) rfl rfl rfl (e_move) ?_
    refine g_val (v := .pointer none) rfl rfl rfl rfl rfl (e_move) ?_
    refine g_call rfl rfl rfl rfl rfl (cl_value (fst := []) (cap := []) (vs := [.pointer none, .int .i64 (1)]) (all := [.pointer none, .int .i64 (1)]) tf112 rfl rfl rfl) ?_
    intro w hw
    obtain ⟨β1, sb, kn, hw1, back⟩ := St.frame_all hw
    refine (drop_nil β1 w hw1 1).mono ?_
    rintro e w' ⟨rfl, hw'⟩
    refine ⟨_, rfl, _, back _ _ hw', ?_⟩
    clear hw hw1 hw' back kn sb
    refine g_val (v := .bool false) rfl rfl rfl rfl rfl (e_neq (a := (1 : Int)) (b := (1 : Int)) rfl rfl) ?_
    refine l_val (v := .bool false) rfl rfl rfl (e_pick_f rfl) ?_
    refine l_val (v := .bool false) rfl rfl rfl (e_move) ?_
    refine g_val (v := .pointer none) rfl rfl rfl rfl rfl (e_move) ?_
    refine g_call rfl rfl rfl rfl rfl (cl_value (fst := []) (cap := []) (vs := [.pointer none]) (all := [.pointer none]) tf76 rfl rfl rfl) ?_
    intro w hw
    obtain ⟨β1, sb, kn, hw1, back⟩ := St.frame_all hw
    refine (spairs_nil β1 w hw1).mono ?_
    rintro e w' ⟨rfl, hw'⟩
    refine ⟨_, rfl, _, back _ _ hw', ?_⟩
    clear hw hw1 hw' back kn sb
    refine g_val (v := .int .i64 (0)) rfl rfl rfl rfl rfl (e_len (n := 0) rfl tf65) ?_
    refine g_val (v := .slice none 0 0) rfl rfl rfl rfl rfl (e_move) ?_
    refine g_val (v := .int .i64 (0)) rfl rfl rfl rfl rfl (e_len (n := 0) rfl tf65) ?_
    refine g_val (v := .int .i64 (0)) rfl rfl rfl rfl rfl (e_add (a := (0 : Int)) (b := (0 : Int)) rfl rfl (by decide)) ?_
    refine g_val (v := .slice none 0 0) rfl rfl rfl rfl rfl (e_move) ?_
    refine g_val (v := .int .i64 (0)) rfl rfl rfl rfl rfl (e_len (n := 0) rfl tf65) ?_
    refine g_val (v := .int .i64 (0)) rfl rfl rfl rfl rfl (e_add (a := (0 : Int)) (b := (0 : Int)) rfl rfl (by decide)) ?_
    refine g_val (v := .pointer none) rfl rfl rfl rfl rfl (e_move) ?_
    refine g_call rfl rfl rfl rfl rfl (cl_value (fst := []) (cap := []) (vs := [.int .i64 (0), .int .i64 (0), .int .i64 (1), .int .i64 (1)]) (all := [.int .i64 (0), .int .i64 (0), .int .i64 (1), .int .i64 (1)]) tf71 rfl rfl rfl) ?_
    intro w hw
    obtain ⟨β1, sb, kn, hw1, back⟩ := St.frame_all hw
    refine (area_ok β1 w hw1 0 0 1 1).mono ?_
    rintro e w' ⟨rfl, hw'⟩
    refine ⟨_, rfl, _, back _ _ hw', ?_⟩
    clear hw hw1 hw' back kn sb
    refine g_call rfl rfl rfl rfl rfl (cl_value (fst := []) (cap := []) (vs := [.pointer none, .agg #[.int .i64 (0), .int .i64 (0), .int .i64 (1), .int .i64 (1)]]) (all := [.pointer none, .agg #[.int .i64 (0), .int .i64 (0), .int .i64 (1), .int .i64 (1)]]) tf84 rfl rfl rfl) ?_
    intro w hw
    obtain ⟨β1, sb, kn, hw1, back⟩ := St.frame_all hw
    refine (query_nil β1 w hw1 (⟨0, 0, 1, 1⟩ : KA)).mono ?_
    rintro e w' ⟨rfl, hw'⟩
    refine ⟨_, rfl, _, back _ _ hw', ?_⟩
    clear hw hw1 hw' back kn sb
    refine g_val (v := .int .i64 (0)) rfl rfl rfl rfl rfl (e_len (n := 0) rfl tf15) ?_
    refine g_val (v := .int .i64 (0)) rfl rfl rfl rfl rfl (e_add (a := (0 : Int)) (b := (0 : Int)) rfl rfl (by decide)) ?_
    refine g_val (v := .bool false) rfl rfl rfl rfl rfl (e_neq (a := (0 : Int)) (b := (0 : Int)) rfl rfl) ?_
    refine l_val (v := .bool false) rfl rfl rfl (e_pick_f rfl) ?_
    refine l_nil ?_
    refine f_then ?_
    refine c_no rfl ?_
    refine c_skip ?_
    refine f_block ?_
    refine f_then ?_
    refine c_region ?_
    refine l_val (v := .int .i64 (1)) rfl rfl rfl (e_add (a := (0 : Int)) (b := (1 : Int)) rfl rfl (by decide)) ?_
    refine l_val (v := .int .i64 (1)) rfl rfl rfl (e_move) ?_
    refine l_nil ?_
    refine f_cut ?_
    refine un_succ 1 ?_
    refine c_seq ?_
    refine c_region ?_
    refine l_val (v := .bool true) rfl rfl rfl (e_lss (a := (1 : Int)) (b := (2 : Int)) rfl rfl) ?_
    refine l_nil ?_
    refine f_then ?_
    refine c_seq ?_
    refine c_yes rfl ?_
    refine c_skip ?_
    refine f_then ?_
    refine c_seq ?_
    refine c_block ?_
    refine c_seq ?_
    refine c_region ?_
    refine l_val (v := .pointer (some ⟨b36, 1, none⟩)) rfl rfl rfl (e_indexPt (b := b36) (o := 0) (k := 1) (len := 2) (cap := 2) rfl rfl tf113 (by decide)) ?_
    refine l_val (v := .pointer (some ⟨b35, 0, none⟩)) rfl rfl rfl (e_load1 tf116 (v := .pointer (some ⟨b35, 0, none⟩)) rfl (k_pt 0 (cs := #[.pointer none, .pointer (some ⟨b35, 0, none⟩)]) (vs := [.pointer (some ⟨b35, 0, none⟩)]) rfl rfl)) ?_
    refine l_val (v := .pointer (some ⟨b35, 0, none⟩)) rfl rfl rfl (e_assign) ?_
    refine l_nil ?_
    refine f_then ?_
    refine c_seq ?_
    refine c_region ?_
    refine l_val (v := .pointer (some ⟨b35, 0, none⟩)) rfl rfl rfl (e_move) ?_
    refine l_call rfl rfl rfl (cl_value (fst := []) (cap := []) (vs := [.pointer (some ⟨b35, 0, none⟩)]) (all := [.pointer (some ⟨b35, 0, none⟩)]) tf77 rfl rfl rfl) ?_
    intro w hw
    obtain ⟨β1, sb, kn, hw1, back⟩ := St.frame_all hw
    refine (changes_zero β1 w hw1 _ (kn _ (k_pt 1 (o := 0) (cs := #[.map none, .map none]) (vs := [.map none, .map none]) rfl rfl))).mono ?_
    rintro e w' ⟨rfl, hw'⟩
    refine ⟨_, rfl, _, back _ _ hw', ?_⟩
    clear hw hw1 hw' back kn sb
    refine l_val (v := .tuple #[.slice none 0 0, .slice none 0 0]) rfl rfl rfl (e_move) ?_
    refine l_val (v := .slice none 0 0) rfl rfl rfl (e_extract (vs := #[.slice none 0 0, .slice none 0 0]) rfl rfl) ?_
    refine l_val (v := .slice none 0 0) rfl rfl rfl (e_extract (vs := #[.slice none 0 0, .slice none 0 0]) rfl rfl) ?_
    refine l_val (v := .slice none 0 0) rfl rfl rfl (e_assign) ?_
    refine l_val (v := .slice none 0 0) rfl rfl rfl (e_assign) ?_
    refine l_nil ?_
    refine f_then ?_
    refine c_seq ?_
    refine c_region ?_
    refine l_val (v := .pointer (some ⟨b35, 0, none⟩)) rfl rfl rfl (e_move) ?_
    refine l_call rfl rfl rfl (cl_value (fst := []) (cap := []) (vs := [.int .i64 (0), .int .i64 (0), .int .i64 (1), .int .i64 (1)]) (all := [.int .i64 (0), .int .i64 (0), .int .i64 (1), .int .i64 (1)]) tf71 rfl rfl rfl) ?_
    intro w hw
    obtain ⟨β1, sb, kn, hw1, back⟩ := St.frame_all hw
    refine (area_ok β1 w hw1 0 0 1 1).mono ?_
    rintro e w' ⟨rfl, hw'⟩
    refine ⟨_, rfl, _, back _ _ hw', ?_⟩
    clear hw hw1 hw' back kn sb
    refine l_call rfl rfl rfl (cl_value (fst := []) (cap := []) (vs := [.pointer (some ⟨b35, 0, none⟩), .int .i64 (1), .agg #[.int .i64 (0), .int .i64 (0), .int .i64 (1), .int .i64 (1)]]) (all := [.pointer (some ⟨b35, 0, none⟩), .int .i64 (1), .agg #[.int .i64 (0), .int .i64 (0), .int .i64 (1), .int .i64 (1)]]) tf75 rfl rfl rfl) ?_
    intro w hw
    obtain ⟨β1, sb, kn, hw1, back⟩ := St.frame_all hw
    refine (put_zero β1 w hw1 _ (kn _ (k_pt 1 (o := 0) (cs := #[.map none, .map none]) (vs := [.map none, .map none]) rfl rfl)) 1 (⟨0, 0, 1, 1⟩ : KA)).mono ?_
    rintro e w' ⟨rfl, hw'⟩
    refine ⟨_, rfl, _, back _ _ hw', ?_⟩
    clear hw hw1 hw' back kn sb
    refine l_val (v := .bool false) rfl rfl rfl (e_neq (a := (1 : Int)) (b := (1 : Int)) rfl rfl) ?_
    refine l_val (v := .bool false) rfl rfl rfl (e_move) ?_
    refine g_val (v := .pointer (some ⟨b35, 0, none⟩)) rfl rfl rfl rfl rfl (e_move) ?_
    refine g_call rfl rfl rfl rfl rfl (cl_value (fst := []) (cap := []) (vs := [.pointer (some ⟨b35, 0, none⟩), .int .i64 (1)]) (all := [.pointer (some ⟨b35, 0, none⟩), .int .i64 (1)]) tf112 rfl rfl rfl) ?_
    intro w hw
    obtain ⟨β1, sb, kn, hw1, back⟩ := St.frame_all hw
    refine (drop_zero β1 w hw1 _ (kn _ (k_pt 1 (o := 0) (cs := #[.map none, .map none]) (vs := [.map none, .map none]) rfl rfl)) 1).mono ?_
    rintro e w' ⟨rfl, hw'⟩
    refine ⟨_, rfl, _, back _ _ hw', ?_⟩
    clear hw hw1 hw' back kn sb
    refine g_val (v := .bool false) rfl rfl rfl rfl rfl (e_neq (a := (1 : Int)) (b := (1 : Int)) rfl rfl) ?_
    refine l_val (v := .bool false) rfl rfl rfl (e_pick_f rfl) ?_
    refine l_val (v := .bool false) rfl rfl rfl (e_move) ?_
    refine g_val (v := .pointer (some ⟨b35, 0, none⟩)) rfl rfl rfl rfl rfl (e_move) ?_
    refine g_call rfl rfl rfl rfl rfl (cl_value (fst := []) (cap := []) (vs := [.pointer (some ⟨b35, 0, none⟩)]) (all := [.pointer (some ⟨b35, 0, none⟩)]) tf76 rfl rfl rfl) ?_
    intro w hw
    obtain ⟨β1, sb, kn, hw1, back⟩ := St.frame_all hw
    refine (spairs_zero β1 w hw1 _ (kn _ (k_pt 1 (o := 0) (cs := #[.map none, .map none]) (vs := [.map none, .map none]) rfl rfl))).mono ?_
    rintro e w' ⟨rfl, hw'⟩
    refine ⟨_, rfl, _, back _ _ hw', ?_⟩
    clear hw hw1 hw' back kn sb
    refine g_val (v := .int .i64 (0)) rfl rfl rfl rfl rfl (e_len (n := 0) rfl tf65) ?_
    refine g_val (v := .slice none 0 0) rfl rfl rfl rfl rfl (e_move) ?_
    refine g_val (v := .int .i64 (0)) rfl rfl rfl rfl rfl (e_len (n := 0) rfl tf65) ?_
    refine g_val (v := .int .i64 (0)) rfl rfl rfl rfl rfl (e_add (a := (0 : Int)) (b := (0 : Int)) rfl rfl (by decide)) ?_
    refine g_val (v := .slice none 0 0) rfl rfl rfl rfl rfl (e_move) ?_
    refine g_val (v := .int .i64 (0)) rfl rfl rfl rfl rfl (e_len (n := 0) rfl tf65) ?_
    refine g_val (v := .int .i64 (0)) rfl rfl rfl rfl rfl (e_add (a := (0 : Int)) (b := (0 : Int)) rfl rfl (by decide)) ?_
    refine g_val (v := .pointer (some ⟨b35, 0, none⟩)) rfl rfl rfl rfl rfl (e_move) ?_
    refine g_call rfl rfl rfl rfl rfl (cl_value (fst := []) (cap := []) (vs := [.int .i64 (0), .int .i64 (0), .int .i64 (1), .int .i64 (1)]) (all := [.int .i64 (0), .int .i64 (0), .int .i64 (1), .int .i64 (1)]) tf71 rfl rfl rfl) ?_
    intro w hw
    obtain ⟨β1, sb, kn, hw1, back⟩ := St.frame_all hw
    refine (area_ok β1 w hw1 0 0 1 1).mono ?_
    rintro e w' ⟨rfl, hw'⟩
    refine ⟨_, rfl, _, back _ _ hw', ?_⟩
    clear hw hw1 hw' back kn sb
    refine g_call rfl rfl rfl rfl rfl (cl_value (fst := []) (cap := []) (vs := [.pointer (some ⟨b35, 0, none⟩), .agg #[.int .i64 (0), .int .i64 (0), .int .i64 (1), .int .i64 (1)]]) (all := [.pointer (some ⟨b35, 0, none⟩), .agg #[.int .i64 (0), .int .i64 (0), .int .i64 (1), .int .i64 (1)]]) tf84 rfl rfl rfl) ?_
    intro w hw
    obtain ⟨β1, sb, kn, hw1, back⟩ := St.frame_all hw
    refine (query_zero β1 w hw1 _ (kn _ (k_pt 1 (o := 0) (cs := #[.map none, .map none]) (vs := [.map none, .map none]) rfl rfl)) (⟨0, 0, 1, 1⟩ : KA)).mono ?_
    rintro e w' ⟨rfl, hw'⟩
    refine ⟨_, rfl, _, back _ _ hw', ?_⟩
    clear hw hw1 hw' back kn sb
    refine g_val (v := .int .i64 (0)) rfl rfl rfl rfl rfl (e_len (n := 0) rfl tf15) ?_
    refine g_val (v := .int .i64 (0)) rfl rfl rfl rfl rfl (e_add (a := (0 : Int)) (b := (0 : Int)) rfl rfl (by decide)) ?_
    refine g_val (v := .bool false) rfl rfl rfl rfl rfl (e_neq (a := (0 : Int)) (b := (0 : Int)) rfl rfl) ?_
    refine l_val (v := .bool false) rfl rfl rfl (e_pick_f rfl) ?_
    refine l_nil ?_
    refine f_then ?_
    refine c_no rfl ?_
    refine c_skip ?_
    refine f_block ?_
    refine f_then ?_
    refine c_region ?_
    refine l_val (v := .int .i64 (2)) rfl rfl rfl (e_add (a := (1 : Int)) (b := (1 : Int)) rfl rfl (by decide)) ?_
    refine l_val (v := .int .i64 (2)) rfl rfl rfl (e_move) ?_
    refine l_nil ?_
    refine f_cut ?_
    refine un_succ 0 ?_
    refine c_seq ?_
    refine c_region ?_
    refine l_val (v := .bool false) rfl rfl rfl (e_lss (a := (2 : Int)) (b := (2 : Int)) rfl rfl) ?_
    refine l_nil ?_
    refine f_then ?_
    refine c_seq ?_
    refine c_no rfl ?_
    refine c_exit ?_
    refine f_then_exit ?_
    refine f_then_exit ?_
    refine f_exit ?_
    refine f_then ?_
    refine c_seq ?_
    refine c_region ?_
    refine l_val (v := .bool true) rfl rfl rfl (e_assign) ?_
    refine l_nil ?_
    refine f_then ?_
    refine c_ret ?_
    refine ret1 Try.results9 (v := .bool true) rfl ?_
    intro w hw
    exact ⟨rfl, st_mask [false, false] rfl hw⟩
end Go.Proofs
