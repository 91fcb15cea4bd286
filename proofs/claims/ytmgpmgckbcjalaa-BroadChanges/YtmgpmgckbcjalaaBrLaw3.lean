/-
  Areas that are put in another order, in plain terms. Own work; plain Lean.
-/
import Derived.Test.YtmgpmgckbcjalaaBrLaw2
namespace Go.Sl
end Go.Sl
namespace Go.Brd
open Go.Sl Go.Proofs
theorem errPut_zero {s : KSp} {id : Int} {a : KA} (h : argS id a) (hl : s.ar.length < 128) : errPut s id a = 0 := by
  unfold errPut; rw [if_pos h, if_neg (fun q => by have := q.2; omega)]
/-! pairs under other numbers -/
theorem perm_none {l m : List KP} (h : m.Perm l) : beganL m l = [] ∧ inL l m = (m.length : Int) := by
  refine ⟨List.filter_eq_nil_iff.2 fun p hp => by simp [h.mem_iff.2 hp], ?_⟩
  unfold inL
  rw [List.filter_eq_self.2 fun p hp => by simp [h.mem_iff.2 hp], h.length_eq]
end Go.Brd
