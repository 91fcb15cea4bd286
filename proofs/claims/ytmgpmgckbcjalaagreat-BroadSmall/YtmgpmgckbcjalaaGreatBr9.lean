/-
 Forms, lists, filled spaces, differences of lists: walked. Printed by a program of my own.
-/
import Derived.Test.YtmgpmgckbcjalaaGreatBr8
import Derived.Test.YtmgpmgckbcjalaaGreatBrLaw
namespace Go.Brd
end Go.Brd
namespace Go.Proofs
open Go Go.Sl Go.Brd
theorem tf87:tyB Tryz.prog 5 false 1=true:=by kernel_rfl
theorem tf97:elB Tryz.prog 32 4 32=true:=by kernel_rfl
end Go.Proofs
