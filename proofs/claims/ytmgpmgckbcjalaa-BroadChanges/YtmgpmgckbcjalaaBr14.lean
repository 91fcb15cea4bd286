/-
  BroadWrong: walked. Printed by a program of my own.
-/
import Derived.Test.YtmgpmgckbcjalaaBr13
import Derived.Test.YtmgpmgckbcjalaaJnIdx
namespace Go.Brd
open Go.Sl
end Go.Brd
namespace Go.Sl
end Go.Sl
namespace Go.Proofs
open Go Go.Sl Go.Brd
theorem tf112 : cfB Try.prog 25 = true := by kernel_rfl
theorem drop_zero (β : Base) (w : World) (hw : St β [] w) (b : Nat) (hc : Cs β.heap ⟨b, 0, none⟩ [.map none, .map none]) (id : Int) : Calls Try.prog 25 #[.pointer (some ⟨b, 0, none⟩), Ix id] w fun r w' => r = .returned (.int .i64 1) ∧ St β [] w' := by
  refine enter (n := 26) Try.func25 rfl Try.ntmps25 rfl ?_ hw
  refine c_seq ?_
  refine c_region ?_
  refine l_val (v := .int .i64 (0)) rfl rfl rfl (e_assign) ?_
  refine l_nil ?_
  refine f_then ?_
  refine c_seq ?_
  refine c_seq ?_
  refine c_region ?_
  refine l_val (v := .pointer (some (⟨b, 0, none⟩))) rfl rfl rfl (e_move) ?_
  refine l_call rfl rfl rfl (cl_value (fst := []) (cap := []) (vs := [.pointer (some (⟨b, 0, none⟩))]) (all := [.pointer (some (⟨b, 0, none⟩))]) tf53 rfl rfl rfl) ?_
  intro w hw
  obtain ⟨β1, sb, kn, hw1, back⟩ := St.frame_all hw
  refine (right_zero β1 w hw1 _ (Cs.mono _ _ _ _ sb hc)).mono ?_
  rintro e w' ⟨rfl, hw'⟩
  refine ⟨_, rfl, _, back _ _ hw', ?_⟩
  clear hw hw1 hw' back kn sb
  refine l_val (v := .bool true) rfl rfl rfl (e_not (a := false) rfl) ?_
  refine l_nil ?_
  refine f_then ?_
  refine c_yes rfl ?_
  refine c_seq ?_
  refine c_region ?_
  refine l_val (v := .int .i64 (1)) rfl rfl rfl (e_assign) ?_
  refine l_nil ?_
  refine f_then ?_
  refine c_ret ?_
  refine f_then_ret ?_
  refine ret1 Try.results25 (v := .int .i64 (1)) rfl ?_
  intro w hw
  exact ⟨rfl, st_mask [] rfl hw⟩
end Go.Proofs
