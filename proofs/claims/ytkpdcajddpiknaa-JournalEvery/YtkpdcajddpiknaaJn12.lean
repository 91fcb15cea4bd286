/-
 grown, walked. Printed by a program of my own.
-/
import Derived.Test.YtkpdcajddpiknaaJn11
import Derived.Test.YtkpdcajddpiknaaJnLaw5
namespace Go.Proofs
open Go Go.Sl Go.Jn
theorem short_lt (o : KOp) : (shortO o).kind.toNat % 5 < 3 := by
 unfold shortO
 simp
 omega
theorem tf116 : cfB Try.prog 39 = true := by kernel_rfl
end Go.Proofs
