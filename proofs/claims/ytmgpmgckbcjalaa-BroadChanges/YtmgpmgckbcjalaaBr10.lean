/-
  BroadJoins: walked. Printed by a program of my own.
-/
import Derived.Test.YtmgpmgckbcjalaaBr9
namespace Go.Proofs
open Go Go.Sl Go.Brd
theorem tf98 : cfB Try.prog 11 = true := by kernel_rfl
end Go.Proofs
