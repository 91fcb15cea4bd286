/-
 The journal's law in plain Lean: what is read of what was written. Own work; no program in sight.
-/
import Derived.Test.YtjejfkajcbdgjaaGreatJnOp
namespace Go.Jn
open Go.Sl

/-! Bytes of numbers. -/
def natB (bs : Bs) : Nat := bs.foldl (fun n x => n * 256 + x.toNat) 0
theorem natB_go (h : Nat) : ∀ bs : Bs, bs.foldl (fun n x => n * 256 + x.toNat) h = h * 256 ^ bs.length + natB bs
 | [] => by simp [natB]
 | x :: bs => by
  have h1 := natB_go (h * 256 + x.toNat) bs
  have h2 := natB_go (0 * 256 + x.toNat) bs
  simp only [List.foldl_cons, natB, List.length_cons] at *
  rw [h1, h2, Nat.pow_succ, Nat.add_mul]
  simp only [Nat.zero_mul, Nat.zero_add]
  rw [Nat.mul_assoc h, Nat.mul_comm 256]
  omega
theorem natB_cons (x : UInt8) (bs : Bs) : natB (x :: bs) = x.toNat * 256 ^ bs.length + natB bs := by
 have := natB_go (0 * 256 + x.toNat) bs
 simpa [natB] using this
theorem natB_lt : ∀ bs : Bs, natB bs < 256 ^ bs.length
 | [] => by simp [natB]
 | x :: bs => by
  rw [natB_cons, List.length_cons, Nat.pow_succ]
  have h1 := natB_lt bs
  have h2 := x.toNat_lt
  have h3 : x.toNat * 256 ^ bs.length ≤ 255 * 256 ^ bs.length := Nat.mul_le_mul_right _ (by omega)
  omega
theorem word_step {h : UInt64} {x : UInt8} (hh : h.toNat < 72057594037927936) : ((h <<< 8) ||| x.toUInt64).toNat = h.toNat * 256 + x.toNat := by
 have h2 := x.toNat_lt
 have e1 : (h <<< (8 : UInt64)).toNat = h.toNat <<< 8 := by
  rw [UInt64.toNat_shiftLeft]
  simp only [UInt64.reduceToNat, Nat.reduceMod, Nat.shiftLeft_eq]
  omega
 rw [UInt64.toNat_or, e1]
 have e2 : x.toUInt64.toNat = x.toNat := by simp
 rw [e2, ← Nat.shiftLeft_add_eq_or_of_lt (by omega), Nat.shiftLeft_eq]
theorem wordF_nat : ∀ (bs : Bs) (h : UInt64), h.toNat * 256 ^ bs.length + natB bs < 18446744073709551616 → (wordF h bs).toNat = h.toNat * 256 ^ bs.length + natB bs
 | [], h, _ => by simp [wordF, natB]
 | x :: bs, h, hlt => by
  rw [natB_cons, List.length_cons, Nat.pow_succ] at hlt
  have hp : 0 < 256 ^ bs.length := Nat.pow_pos (by decide)
  have h1 : h.toNat < 72057594037927936 := by
   have : h.toNat * (256 ^ bs.length * 256) = h.toNat * 256 * 256 ^ bs.length := by rw [Nat.mul_comm (256 ^ bs.length), Nat.mul_assoc]
   have h3 : h.toNat * 256 * 1 ≤ h.toNat * 256 * 256 ^ bs.length := Nat.mul_le_mul_left _ hp
   omega
  have e := word_step (x := x) h1
  have ih := wordF_nat bs ((h <<< 8) ||| x.toUInt64) (by
   rw [e, Nat.add_mul, Nat.mul_assoc, Nat.mul_comm 256]; omega)
  show (wordF ((h <<< 8) ||| x.toUInt64) bs).toNat = _
  rw [ih, e, natB_cons, List.length_cons, Nat.pow_succ, Nat.add_mul, Nat.mul_assoc, Nat.mul_comm 256]
  omega
theorem wordU_nat {bs : Bs} (h : bs.length ≤ 8) : (wordU bs).toNat = natB bs := by
 have h1 := natB_lt bs
 have h2 : 256 ^ bs.length ≤ 256 ^ 8 := Nat.pow_le_pow_right (by decide) h
 have := wordF_nat bs 0 (by simp only [UInt64.reduceToNat, Nat.zero_mul, Nat.zero_add]; omega)
 simpa [wordU] using this
theorem natB_be : ∀ (k : Nat) (n : UInt64), k ≤ 8 → natB (be k n) = n.toNat % 256 ^ k
 | 0, n, _ => by simp [be, natB, Nat.mod_one]
 | k + 1, n, hk => by
  have ih := natB_be k n (by omega)
  have h8 : (UInt64.ofNat (8 * k)).toNat % 64 = 8 * k := by simp; omega
  have hs : ((n >>> UInt64.ofNat (8 * k)).toUInt8).toNat = (n.toNat / 256 ^ k) % 256 := by
   rw [UInt64.toNat_toUInt8, UInt64.toNat_shiftRight, h8, Nat.shiftRight_eq_div_pow, Nat.pow_mul]
  rw [be, natB_cons, ih, be_length, hs, Nat.pow_succ, Nat.mod_mul]
  rw [Nat.mul_comm]
  omega
theorem wordU_be8 (n : UInt64) : wordU (be 8 n) = n := by
 apply UInt64.toNat_inj.1
 rw [wordU_nat (by simp [be_length]), natB_be 8 n (by omega)]
 exact Nat.mod_eq_of_lt (by have := n.toNat_lt; simpa using this)
theorem wordU_be4 (n : UInt64) : (wordU (be 4 n)).toNat = n.toNat % 4294967296 := by
 rw [wordU_nat (by simp [be_length]), natB_be 4 n (by omega)]
theorem xor_comp {x : UInt64} (h : x.toNat < 4294967296) : (x ^^^ wordU (be 4 (~~~x))) = 4294967295 := by
 have e1 : wordU (be 4 (~~~x)) = ~~~x % 4294967296 := by
  apply UInt64.toNat_inj.1
  rw [wordU_be4, UInt64.toNat_mod]
  rfl
 rw [e1]
 have e2 : ~~~x % 4294967296 = ~~~x &&& 4294967295 := by
  apply UInt64.toNat_inj.1
  rw [UInt64.toNat_mod, UInt64.toNat_and]
  show _ % 2 ^ 32 = _ &&& (2 ^ 32 - 1)
  rw [Nat.and_two_pow_sub_one_eq_mod]
 rw [e2]
 have e3 : x &&& 4294967295 = x := by
  apply UInt64.toNat_inj.1
  rw [UInt64.toNat_and]
  show _ &&& (2 ^ 32 - 1) = _
  rw [Nat.and_two_pow_sub_one_eq_mod]
  exact Nat.mod_eq_of_lt h
 conv => lhs; lhs; rw [← e3]
 apply UInt64.toBitVec_inj.1
 simp only [UInt64.toBitVec_xor, UInt64.toBitVec_and, UInt64.toBitVec_not]
 ext i hi
 simp only [BitVec.getElem_xor, BitVec.getElem_and, BitVec.getElem_not]
 cases x.toBitVec[i] <;> simp
end Go.Jn
