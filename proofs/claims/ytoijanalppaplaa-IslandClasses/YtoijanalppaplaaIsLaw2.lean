/-
  Law IslandFixed in plain terms. Own work; plain Lean.
-/
import Derived.Test.YtoijanalppaplaaIs7
namespace Go.Isl
open Go.Sl Go.Brd Go.Stp Go.Proofs
theorem freeB_yes {bs : List KB} {k : Nat} {z : KB} (hz : bs[k]? = some z) (h : z.fixed = false) : freeB (bs.take k) ++ [z] = freeB (bs.take (k + 1)) := by
  unfold freeB
  rw [List.take_add_one, hz, List.filter_append]
  simp [h]
theorem freeB_no {bs : List KB} {k : Nat} {z : KB} (hz : bs[k]? = some z) (h : z.fixed = true) : freeB (bs.take k) = freeB (bs.take (k + 1)) := by
  unfold freeB
  rw [List.take_add_one, hz, List.filter_append]
  simp [h]
end Go.Isl
