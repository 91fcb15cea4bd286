/-
  BroadPairs: walked. Printed by a program of my own.
-/
import Derived.Test.YtmgpmgckbcjalaaGreatBr18
namespace Go.Brd
open Go.Sl Go.Proofs
end Go.Brd
namespace Go.Proofs
open Go Go.Sl Go.Brd
theorem tf248 : cfB Tryz.prog 18 = true := by kernel_rfl
theorem tf250 : cfB Tryz.prog 21 = true := by kernel_rfl
end Go.Proofs
