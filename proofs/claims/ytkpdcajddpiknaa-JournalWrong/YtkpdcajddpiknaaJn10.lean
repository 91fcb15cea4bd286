/-
 JournalNumbers, walked. Printed by a program of my own.
-/
import Derived.Test.YtkpdcajddpiknaaJn9
import Derived.Test.YtkpdcajddpiknaaJnLaw4
namespace Go.Proofs
open Go Go.Sl Go.Jn
theorem tf107 : cfB Try.prog 16 = true := by kernel_rfl
theorem tf111 : cfB Try.prog 12 = true := by kernel_rfl
end Go.Proofs
