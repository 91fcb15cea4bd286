/-
 Steps that came in as arguments. Own work; plain Lean.
-/
import Derived.Test.YtjejfkajcbdgjaaGreatSlOpen
import Derived.Test.YtjejfkajcbdgjaaGreatTdHouE
import Derived.Test.YtjejfkajcbdgjaaGreatProg
import Derived.Laws.IdiomArrays
import Derived.SizedLaws
namespace Go.Proofs
open Go Go.Sl Go.Td
open Go.ChangeShapes Go.ChangeAt Go.RowKit
theorem c3 : Tryz.prog.cellsOf 3 = 1 := by kernel_rfl
theorem c5 : Tryz.prog.cellsOf 5 = 1 := by kernel_rfl
end Go.Proofs
