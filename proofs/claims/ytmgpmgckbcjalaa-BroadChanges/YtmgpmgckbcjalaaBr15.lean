/-
  BroadOrder: walked. Printed by a program of my own.
-/
import Derived.Test.YtmgpmgckbcjalaaBr14
import Derived.Test.YtmgpmgckbcjalaaBrLaw3
namespace Go.Proofs
open Go Go.Sl Go.Brd
theorem tf117 : cfB Try.prog 28 = true := by kernel_rfl
end Go.Proofs
