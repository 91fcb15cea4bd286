/-
 Arguments that came in: bodies, vectors. Own work; plain Lean.
-/
import Derived.Test.YtoijanalppaplaaGreatSlOpen
import Derived.Test.YtoijanalppaplaaGreatIsSt
import Derived.Test.YtoijanalppaplaaGreatBr2
import Derived.Test.YtoijanalppaplaaGreatProg
import Derived.SizedLaws
namespace Go.Proofs
open Go Go.Sl Go.Stp
open Go.ChangeShapes Go.ChangeAt Go.RowKit
theorem c3 : Tryz.prog.cellsOf 3 = 1 := by kernel_rfl
theorem c4 : Tryz.prog.cellsOf 4 = 1 := by kernel_rfl
theorem c25 : Tryz.prog.cellsOf 25 = 2 := by kernel_rfl
theorem c42 : Tryz.prog.cellsOf 42 = 3 := by kernel_rfl
theorem c22 : Tryz.prog.cellsOf 22 = 1 := by kernel_rfl
theorem c23 : Tryz.prog.cellsOf 23 = 1 := by kernel_rfl
theorem c27 : Tryz.prog.cellsOf 27 = 4 := by kernel_rfl
end Go.Proofs
