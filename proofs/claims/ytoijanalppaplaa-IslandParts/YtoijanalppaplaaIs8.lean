/-
  IslandFixed: walked. Printed by a program of my own.
-/
import Derived.Test.YtoijanalppaplaaIsLaw2
namespace Go.Proofs
open Go Go.Sl Go.Brd Go.Stp Go.Isl
theorem tf81 : cfB Try.prog 9 = true := by kernel_rfl
theorem tf82 : cfB Try.prog 10 = true := by kernel_rfl
end Go.Proofs
