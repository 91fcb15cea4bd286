/-
  IslandClasses: walked. Printed by a program of my own.
-/
import Derived.Test.YtoijanalppaplaaIs13
import Derived.Test.YtoijanalppaplaaIsLaw5
namespace Go.Isl
open Go.Sl Go.Brd Go.Stp Go.Proofs
theorem u16_shr (a k : Nat) : (a : Int).fdiv (2 ^ (min ((k : Nat) : Int).toNat IntKind.u16.bits)) = ((a / 2 ^ min k 16 : Nat) : Int) := by
  show (a : Int).fdiv (2 ^ (min k 16)) = _
  rw [Int.fdiv_eq_ediv_of_nonneg _ (by exact_mod_cast Nat.zero_le _)]
  simp
theorem u16_le {bits : Nat} (h : bits < 65536) (n : Nat) : bits / n < 65536 := Nat.lt_of_le_of_lt (Nat.div_le_self _ _) h
theorem u16_one {a : Nat} (h : a < 65536) : IntKind.u16.wrap ((BitVec.ofInt IntKind.u16.bits (a : Int) &&& BitVec.ofInt IntKind.u16.bits 1).toNat : Int) = ((a % 2 : Nat) : Int) := by
  have e : (BitVec.ofInt IntKind.u16.bits (a : Int) &&& BitVec.ofInt IntKind.u16.bits 1).toNat = a % 2 := by
    show (BitVec.ofInt 16 (a : Int) &&& BitVec.ofInt 16 1).toNat = a % 2
    rw [BitVec.toNat_and, BitVec.ofInt_natCast, BitVec.toNat_ofNat, show (BitVec.ofInt 16 1).toNat = 1 from rfl, Nat.and_one_is_mod, Nat.mod_eq_of_lt (a := a) h]
  rw [e]
  have := Nat.mod_lt a (show 0 < 2 by decide)
  rcases (show a % 2 = 0 ∨ a % 2 = 1 by omega) with q | q <;> rw [q] <;> rfl
end Go.Isl
namespace Go.Proofs
open Go Go.Sl Go.Brd Go.Stp Go.Isl
theorem tf87 : cfB Try.prog 12 = true := by kernel_rfl
end Go.Proofs
