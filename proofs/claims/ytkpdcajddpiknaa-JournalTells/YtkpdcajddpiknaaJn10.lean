/-
 JournalNumbers, walked. Printed by a program of my own.
-/
import Derived.Test.YtkpdcajddpiknaaJn9
import Derived.Test.YtkpdcajddpiknaaJnLaw4
import Derived.Test.YtkpdcajddpiknaaSlC
namespace Go.Proofs
open Go Go.Sl Go.Jn
theorem powerF_ge (o : KOp) : -1 ≤ powerF o := by unfold powerF; split <;> omega
theorem powerF_le (o : KOp) : powerF o ≤ 255 := by unfold powerF; split <;> omega
theorem aw_invz : Inv aK0 aI0 0 true := inv_empty (p := -1) (by decide)
theorem aw_inv0 : Inv (cutS (powS aK0) aI0.epoch aI0.size) aI0 0 true := (aw_invz.pow (p := -1) (by decide) (by decide)).cut (by decide)
theorem tf108 : Try.prog.underlying 22 = some (.slice 47) := by kernel_rfl
theorem tf109 : slB Try.prog 22 47 3 = true := by kernel_rfl
theorem tf110 : cfB Try.prog 21 = true := by kernel_rfl
theorem tf111 : cfB Try.prog 12 = true := by kernel_rfl
end Go.Proofs
