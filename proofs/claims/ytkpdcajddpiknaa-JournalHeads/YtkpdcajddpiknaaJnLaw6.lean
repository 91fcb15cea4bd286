/-
  An area of which one byte was changed. Own work; plain Lean.
-/
import Derived.Test.YtkpdcajddpiknaaJnLaw5
namespace Go.Jn
open Go.Sl

theorem bx_max (x y : UInt8) : max (x.toNat : Int) (y.toNat : Int) = ((max x y).toNat : Int) := by
  rw [Int.max_def]
  show _ = (((if x ≤ y then y else x : UInt8)).toNat : Int)
  by_cases h : x ≤ y
  · have h' : x.toNat ≤ y.toNat := UInt8.le_iff_toNat_le.1 h
    rw [if_pos h, if_pos (by omega)]
  · have h' : ¬ x.toNat ≤ y.toNat := fun e => h (UInt8.le_iff_toNat_le.2 e)
    rw [if_neg h, if_neg (by omega)]
theorem max8_ne (b : UInt8) : max b 1 ≠ 0 := by
  intro h
  have h1 : (max b 1).toNat = 0 := by rw [h]; rfl
  have h2 := bx_max b 1
  rw [h1] at h2
  have h3 : ((1 : UInt8).toNat : Int) = 1 := rfl
  omega
theorem bx_xor (x y : UInt8) : IntKind.u8.wrap ((BitVec.ofInt IntKind.u8.bits (x.toNat : Int) ^^^ BitVec.ofInt IntKind.u8.bits (y.toNat : Int)).toNat : Int) = ((x ^^^ y).toNat : Int) := by
  have e : ∀ z : UInt8, BitVec.ofInt IntKind.u8.bits (z.toNat : Int) = z.toBitVec := fun z => by
    apply BitVec.eq_of_toNat_eq; simp [IntKind.bits]
  rw [e, e, u8w]
  have h := (x ^^^ y).toNat_lt
  show (((x ^^^ y).toNat : Nat) : Int) % 256 = _
  omega
theorem xor8_ne {x c : UInt8} (hc : c ≠ 0) : x ≠ x ^^^ c := fun h => hc (by
  have := congrArg (fun z => x ^^^ z) h
  simp only [← UInt8.xor_assoc, UInt8.xor_self, UInt8.zero_xor] at this
  exact this.symm)
end Go.Jn
