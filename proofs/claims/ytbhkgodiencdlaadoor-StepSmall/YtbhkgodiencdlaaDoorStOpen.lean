/-
  Arguments that came in: rows of bytes. Own work; plain Lean.
-/
import Derived.Test.YtbhkgodiencdlaaDoorSlOpen
import Derived.Test.YtbhkgodiencdlaaDoorStBase
import Derived.Test.YtbhkgodiencdlaaDoorProg
import Derived.SizedLaws
namespace Go.Proofs
open Go Go.Sl Go.Stp
open Go.ChangeShapes Go.ChangeAt Go.RowKit
theorem c5 : Tryd.prog.cellsOf 5 = 1 := by kernel_rfl
end Go.Proofs
