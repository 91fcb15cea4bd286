/-
 StepRopes, walked. Printed by a program of my own.
-/
import Derived.Test.YtbhkgodiencdlaaDoorSt11
namespace Go.Proofs
open Go Go.Sl Go.Stp
theorem tf132 : cfB Tryd.prog 14 = true := by kernel_rfl
theorem tf133 : cfB Tryd.prog 21 = true := by kernel_rfl
end Go.Proofs
