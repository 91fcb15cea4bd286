/-
  PathLength: walked. Printed by a program of my own.
-/
import Derived.Test.YthncdmfogeemcaaGreatPt7
namespace Go.Pth
open Go.Sl Go.Brd Go.Proofs
end Go.Pth
namespace Go.Proofs
open Go Go.Sl Go.Brd Go.Pth
theorem tz108 : cfB Tryz.prog 4 = true := by kernel_rfl
end Go.Proofs
