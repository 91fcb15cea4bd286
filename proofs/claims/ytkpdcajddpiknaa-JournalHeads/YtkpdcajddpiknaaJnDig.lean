/-
  The digests are one-to-one in each part. Own work; plain Lean.
-/
import Derived.Test.YtkpdcajddpiknaaJnDef
namespace Go.Jn
open Go.Sl
theorem shr_zero {d : UInt64} {k : UInt64} (hk : 1 ≤ (k % 64).toNat) (h : d = d >>> k) : d = 0 := by
  have h1 : d.toNat = d.toNat >>> (k.toNat % 64) := by
    conv => lhs; rw [h]
    simp
  rw [Nat.shiftRight_eq_div_pow] at h1
  have hk' : 1 ≤ k.toNat % 64 := by simpa using hk
  have h2 : 2 ≤ 2 ^ (k.toNat % 64) := by
    calc 2 = 2 ^ 1 := rfl
      _ ≤ _ := Nat.pow_le_pow_right (by omega) hk'
  have h3 : d.toNat = 0 := by
    rcases Nat.eq_zero_or_pos d.toNat with h0 | h0
    · exact h0
    · have := Nat.div_lt_self h0 h2
      omega
  exact UInt64.toNat_inj.1 (by simpa using h3)
theorem xs_inj {x y k : UInt64} (hk : 1 ≤ (k % 64).toNat) (h : x ^^^ x >>> k = y ^^^ y >>> k) : x = y := by
  have h1 : x ^^^ y = (x ^^^ y) >>> k := by
    have e : (x ^^^ y) >>> k = x >>> k ^^^ y >>> k := by
      apply UInt64.toBitVec_inj.1
      simp [BitVec.ushiftRight_xor_distrib]
    rw [e]
    have h2 : x ^^^ (x ^^^ x >>> k) ^^^ y = x ^^^ (y ^^^ y >>> k) ^^^ y := by rw [h]
    have h3 : x ^^^ (x ^^^ x >>> k) ^^^ y = x >>> k ^^^ y := by rw [← UInt64.xor_assoc, UInt64.xor_self, UInt64.zero_xor]
    have h4 : x ^^^ (y ^^^ y >>> k) ^^^ y = x ^^^ y >>> k := by
      rw [UInt64.xor_comm y (y >>> k), ← UInt64.xor_assoc, UInt64.xor_assoc, UInt64.xor_self, UInt64.xor_zero]
    rw [h3, h4] at h2
    have h5 : x ^^^ (x >>> k ^^^ y) ^^^ y >>> k = x ^^^ (x ^^^ y >>> k) ^^^ y >>> k := by rw [h2]
    have h6 : x ^^^ (x ^^^ y >>> k) ^^^ y >>> k = 0 := by rw [← UInt64.xor_assoc, UInt64.xor_self, UInt64.zero_xor, UInt64.xor_self]
    rw [h6] at h5
    have h7 : x ^^^ (x >>> k ^^^ y) ^^^ y >>> k = (x ^^^ y) ^^^ (x >>> k ^^^ y >>> k) := by
      rw [UInt64.xor_comm (x >>> k) y, ← UInt64.xor_assoc, UInt64.xor_assoc]
    rw [h7] at h5
    have h8 := congrArg (fun z => z ^^^ (x >>> k ^^^ y >>> k)) h5
    simpa [UInt64.xor_assoc, UInt64.xor_self] using h8
  have h2 := shr_zero hk h1
  have h3 := congrArg (fun z => z ^^^ y) h2
  simpa [UInt64.xor_assoc, UInt64.xor_self] using h3
theorem mul_inj {x y c c' : UInt64} (hc : c * c' = 1) (h : x * c = y * c) : x = y := by
  have h2 := congrArg (fun z => z * c') h
  simpa [UInt64.mul_assoc, hc] using h2
theorem mix_inj {x y : UInt64} (h : mixU x = mixU y) : x = y := by
  unfold mixU at h
  simp only at h
  have h1 := xs_inj (by decide) h
  have h2 := mul_inj (c' := 0x319642b2d24d8ec3) (by decide) h1
  have h3 := xs_inj (by decide) h2
  have h4 := mul_inj (c' := 0x96de1b173f119089) (by decide) h3
  exact xs_inj (by decide) h4
theorem chain_inj_w {d w w' : UInt64} (h : chainU d w = chainU d w') : w = w' := by
  have h1 := mix_inj h
  rw [UInt64.add_left_inj, UInt64.add_right_inj] at h1
  exact h1
theorem U_nat {n : UInt64} : U ((n.toNat : Nat) : Int) = n := by
  apply UInt64.toNat_inj.1
  have h := ux_of ((n.toNat : Nat) : Int)
  rw [u64w] at h
  have := n.toNat_lt
  omega
theorem U_toNat {n : Nat} (h : n < 18446744073709551616) : (U (n : Int)).toNat = n := by
  have h1 := ux_of (n : Int)
  rw [u64w] at h1
  omega
theorem tick_inj {m n : UInt64} (h : tickU ((m.toNat : Nat) : Int) = tickU ((n.toNat : Nat) : Int)) : m = n := by
  have := chain_inj_w h
  rwa [U_nat, U_nat] at this
end Go.Jn
