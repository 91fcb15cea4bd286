/-
 Facts of the program. Own work.
-/
import Derived.Test.YtmgpmgckbcjalaaGreatBr9
namespace Go.Proofs
open Go Go.Sl Go.Brd
theorem tf98:cfB Tryz.prog 7=true:=by kernel_rfl
theorem tf99:Tryz.prog.underlying 4=some .bool:=by kernel_rfl
theorem tf112:cfB Tryz.prog 14=true:=by kernel_rfl
end Go.Proofs
