/-
  BroadQuery: walked. Printed by a program of my own.
-/
import Derived.Test.YtmgpmgckbcjalaaBr10
import Derived.Test.YtmgpmgckbcjalaaBrLaw2
namespace Go.Proofs
open Go Go.Sl Go.Brd
theorem tf102 : cfB Try.prog 12 = true := by kernel_rfl
theorem tf103 : cfB Try.prog 14 = true := by kernel_rfl
end Go.Proofs
