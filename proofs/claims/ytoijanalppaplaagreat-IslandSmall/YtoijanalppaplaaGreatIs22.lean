/-
 IslandTells: walked. Printed by a program of my own.
-/
import Derived.Test.YtoijanalppaplaaGreatIs21
import Derived.Test.YtoijanalppaplaaGreatSlC
namespace Go.Proofs
open Go Go.Sl Go.Brd Go.Stp Go.Isl
theorem tf240 : cfB Tryz.prog 7 = true := by kernel_rfl
end Go.Proofs
