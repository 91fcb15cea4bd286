/-
  Arguments that came in: bytes, words. Own work; plain Lean.
-/
import Derived.Test.YthncdmfogeemcaaSlOpen
import Derived.Test.YthncdmfogeemcaaDgBase
import Derived.Test.YthncdmfogeemcaaProg
import Derived.SizedLaws
namespace Go.Proofs
open Go Go.Sl
open Go.ChangeShapes Go.ChangeAt Go.RowKit
theorem i64_bd {n : Int} (h : (Lit.int .i64 n).wf = true) : -9223372036854775808 ≤ n ∧ n ≤ 9223372036854775807 := by
  have hb : IntKind.i64.min ≤ n ∧ n ≤ IntKind.i64.max := by simpa only [Lit.wf, Bool.and_eq_true, decide_eq_true_eq] using h
  exact hb
theorem c3 : Try.prog.cellsOf 3 = 1 := by kernel_rfl
theorem c5 : Try.prog.cellsOf 5 = 1 := by kernel_rfl
end Go.Proofs
