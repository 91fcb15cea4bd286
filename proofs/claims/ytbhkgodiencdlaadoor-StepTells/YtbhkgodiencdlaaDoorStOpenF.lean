/-
  Arguments that came in: rows of forms. Own work; plain Lean.
-/
import Derived.Test.YtbhkgodiencdlaaDoorStOpen
import Derived.Test.YtbhkgodiencdlaaDoorStMade
namespace Go.Proofs
open Go Go.Sl Go.Stp
open Go.ChangeShapes Go.ChangeAt Go.RowKit
theorem c4 : Tryd.prog.cellsOf 4 = 1 := by kernel_rfl
end Go.Proofs
