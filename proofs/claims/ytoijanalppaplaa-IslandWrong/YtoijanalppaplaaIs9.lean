/-
  IslandReaches: walked. Printed by a program of my own.
-/
import Derived.Test.YtoijanalppaplaaIsLaw3
namespace Go.Proofs
open Go Go.Sl Go.Brd Go.Stp Go.Isl
theorem tf87 : fldB Try.prog 39 2 3 2 true = true := by kernel_rfl
theorem tf92 : lay Try.prog 10000 30 = some [.int .i64, .int .i64] := by kernel_rfl
theorem tf93 : isAggT Try.prog 30 = true := by kernel_rfl
theorem tf94 : Try.prog.eqGuardType Try.prog.depth 30 = false := by kernel_rfl
end Go.Proofs
