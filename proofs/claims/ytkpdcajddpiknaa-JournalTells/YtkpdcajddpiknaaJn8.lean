/-
 Steps of a script, and what a Journal is held against, walked. Printed by a program of my own.
-/
import Derived.Test.YtkpdcajddpiknaaJn7
import Derived.Test.YtkpdcajddpiknaaSlC
namespace Go.Proofs
open Go Go.Sl Go.Jn
theorem tf88 : cfB Try.prog 41 = true := by kernel_rfl
theorem tf90 : cfB Try.prog 19 = true := by kernel_rfl
theorem tf92 : cfB Try.prog 42 = true := by kernel_rfl
theorem tf94 : cfB Try.prog 43 = true := by kernel_rfl
theorem tf95 : cfB Try.prog 15 = true := by kernel_rfl
theorem tf98 : cfB Try.prog 14 = true := by kernel_rfl
theorem tf100 : cfB Try.prog 18 = true := by kernel_rfl
theorem tf102 : cfB Try.prog 17 = true := by kernel_rfl
theorem tf103 : cfB Try.prog 20 = true := by kernel_rfl
theorem tf104 : cfB Try.prog 40 = true := by kernel_rfl
end Go.Proofs
