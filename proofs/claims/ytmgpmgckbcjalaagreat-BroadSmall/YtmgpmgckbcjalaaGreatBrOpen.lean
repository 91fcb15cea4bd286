/-
 Arguments that came in: bytes, forms, areas. Own work; plain Lean.
-/
import Derived.Test.YtmgpmgckbcjalaaGreatSlOpen
import Derived.Test.YtmgpmgckbcjalaaGreatBrLaw
import Derived.Test.YtmgpmgckbcjalaaGreatProg
import Derived.SizedLaws
namespace Go.Proofs
open Go Go.Sl Go.Brd
open Go.ChangeShapes Go.ChangeAt Go.RowKit
theorem c3:Tryz.prog.cellsOf 3=1:=by kernel_rfl
end Go.Proofs
