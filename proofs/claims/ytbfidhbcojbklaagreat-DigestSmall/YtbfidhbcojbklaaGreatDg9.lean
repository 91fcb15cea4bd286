/-
  Own work; plain Lean (Dg9).
-/
import Derived.Test.YtbfidhbcojbklaaGreatDg8
import Derived.Test.YtbfidhbcojbklaaGreatSlSlice
namespace Go.Proofs
open Go Go.Sl
theorem max_ne (b : UInt64) : max b 1 ≠ 0 := by
  intro h
  have h1 : (max b 1).toNat = 0 := by rw [h]; rfl
  have h2 := ux_max b 1
  rw [h1] at h2
  have h3 : ((1 : UInt64).toNat : Int) = 1 := rfl
  omega
theorem shr_zero {d : UInt64} {k : UInt64} (hk : 1 ≤ (k % 64).toNat) (h : d = d >>> k) : d = 0 := by
  have h1 : d.toNat = d.toNat >>> (k.toNat % 64) := by
    conv => lhs; rw [h]
    simp
  rw [Nat.shiftRight_eq_div_pow] at h1
  have hk' : 1 ≤ k.toNat % 64 := by simpa using hk
  have h2 : 2 ≤ 2 ^ (k.toNat % 64) := by
    calc 2 = 2 ^ 1 := rfl
      _ ≤ _ := Nat.pow_le_pow_right (by omega) hk'
  have h3 : d.toNat = 0 := by
    rcases Nat.eq_zero_or_pos d.toNat with h0 | h0
    · exact h0
    · have := Nat.div_lt_self h0 h2
      omega
  exact UInt64.toNat_inj.1 (by simpa using h3)
theorem xs_inj {x y k : UInt64} (hk : 1 ≤ (k % 64).toNat) (h : x ^^^ x >>> k = y ^^^ y >>> k) : x = y := by
  have h1 : x ^^^ y = (x ^^^ y) >>> k := by
    have e : (x ^^^ y) >>> k = x >>> k ^^^ y >>> k := by
      apply UInt64.toBitVec_inj.1
      simp [BitVec.ushiftRight_xor_distrib]
    rw [e]
    have h2 : x ^^^ (x ^^^ x >>> k) ^^^ y = x ^^^ (y ^^^ y >>> k) ^^^ y := by rw [h]
    have h3 : x ^^^ (x ^^^ x >>> k) ^^^ y = x >>> k ^^^ y := by rw [← UInt64.xor_assoc, UInt64.xor_self, UInt64.zero_xor]
    have h4 : x ^^^ (y ^^^ y >>> k) ^^^ y = x ^^^ y >>> k := by
      rw [UInt64.xor_comm y (y >>> k), ← UInt64.xor_assoc, UInt64.xor_assoc, UInt64.xor_self, UInt64.xor_zero]
    rw [h3, h4] at h2
    have h5 : x ^^^ (x >>> k ^^^ y) ^^^ y >>> k = x ^^^ (x ^^^ y >>> k) ^^^ y >>> k := by rw [h2]
    have h6 : x ^^^ (x ^^^ y >>> k) ^^^ y >>> k = 0 := by rw [← UInt64.xor_assoc, UInt64.xor_self, UInt64.zero_xor, UInt64.xor_self]
    rw [h6] at h5
    have h7 : x ^^^ (x >>> k ^^^ y) ^^^ y >>> k = (x ^^^ y) ^^^ (x >>> k ^^^ y >>> k) := by
      rw [UInt64.xor_comm (x >>> k) y, ← UInt64.xor_assoc, UInt64.xor_assoc]
    rw [h7] at h5
    have h8 := congrArg (fun z => z ^^^ (x >>> k ^^^ y >>> k)) h5
    simpa [UInt64.xor_assoc, UInt64.xor_self] using h8
  have h2 := shr_zero hk h1
  have h3 := congrArg (fun z => z ^^^ y) h2
  simpa [UInt64.xor_assoc, UInt64.xor_self] using h3
theorem mul_inj {x y c c' : UInt64} (hc : c * c' = 1) (h : x * c = y * c) : x = y := by
  have h2 := congrArg (fun z => z * c') h
  simpa [UInt64.mul_assoc, hc] using h2
theorem mix_inj {x y : UInt64} (h : mixU x = mixU y) : x = y := by
  unfold mixU at h
  simp only at h
  have h1 := xs_inj (by decide) h
  have h2 := mul_inj (c' := 0x319642b2d24d8ec3) (by decide) h1
  have h3 := xs_inj (by decide) h2
  have h4 := mul_inj (c' := 0x96de1b173f119089) (by decide) h3
  exact xs_inj (by decide) h4
theorem chain_inj_d {d d' w : UInt64} (h : chainU d w = chainU d' w) : d = d' := by
  have h1 := mix_inj h
  rw [UInt64.add_left_inj, UInt64.add_left_inj] at h1
  exact mul_inj (c' := 0xf1de83e19937733d) (by decide) h1
theorem chain_inj_w {d w w' : UInt64} (h : chainU d w = chainU d w') : w = w' := by
  have h1 := mix_inj h
  rw [UInt64.add_left_inj, UInt64.add_right_inj] at h1
  exact h1
theorem add_ne {w c : UInt64} (hc : c ≠ 0) : w ≠ w + c := fun h => hc (by
  have : w + 0 = w + c := by simpa using h
  rw [UInt64.add_right_inj] at this; exact this.symm)
theorem chn_begin (d c : UInt64) {w : UInt64} (hc : c ≠ 0) : ((chainU d w).toNat : Int) ≠ ((chainU (d + c) w).toNat : Int) := fun e =>
  add_ne hc (chain_inj_d (UInt64.toNat_inj.1 (Int.ofNat_inj.1 e)))
theorem bne_ff {p q : Prop} [Decidable p] [Decidable q] (h : p ↔ q) : (!(decide p == decide q)) = false := by
  have e : decide p = decide q := decide_eq_decide.2 h
  rw [e]; simp
theorem chn_at {a b w c : UInt64} {k kk : Nat} (h : (k : Int) = (kk : Int)) (hab : k ≤ kk → a = b) (hc : c ≠ 0) :
    (!(decide (((chainU a w).toNat : Int) = ((chainU b (w + c)).toNat : Int)) == decide ((k : Int) < (kk : Int)))) = false :=
  bne_ff ⟨fun e => absurd (chain_inj_w (by rw [hab (by omega)] at e; exact UInt64.toNat_inj.1 (Int.ofNat_inj.1 e))) (add_ne hc), fun q => by omega⟩
theorem chn_off {a b w : UInt64} {k kk : Nat} (h : ¬ (k : Int) = (kk : Int)) (h1 : k ≤ kk → a = b) (h2 : kk < k → a ≠ b) :
    (!(decide (((chainU a w).toNat : Int) = ((chainU b w).toNat : Int)) == decide ((k : Int) < (kk : Int)))) = false := by
  refine bne_ff ⟨fun e => ?_, fun q => by rw [h1 (by omega)]⟩
  have e1 := chain_inj_d (UInt64.toNat_inj.1 (Int.ofNat_inj.1 e))
  have : ¬ kk < k := fun q => h2 q e1
  omega
theorem chn_next_at {a b w c : UInt64} {k kk : Nat} (h : (k : Int) = (kk : Int)) (h1 : k ≤ kk → a = b) (_ : kk < k → a ≠ b) (hc : c ≠ 0) :
    (k + 1 ≤ kk → chainU a w = chainU b (w + c)) ∧ (kk < k + 1 → chainU a w ≠ chainU b (w + c)) :=
  ⟨fun q => by omega, fun _ e => absurd (chain_inj_w (by rw [h1 (by omega)] at e; exact e)) (add_ne hc)⟩
theorem chn_next_off {a b w c : UInt64} {k kk : Nat} (h : ¬ (k : Int) = (kk : Int)) (h1 : k ≤ kk → a = b) (h2 : kk < k → a ≠ b) (_ : c ≠ 0) :
    (k + 1 ≤ kk → chainU a w = chainU b w) ∧ (kk < k + 1 → chainU a w ≠ chainU b w) :=
  ⟨fun q => by rw [h1 (by omega)], fun q e => h2 (by omega) (chain_inj_d e)⟩
theorem tf63 : cfB Tryz.prog 12 = true := by kernel_rfl
theorem tf64 : Tryz.prog.underlying 128 = some (.int .u16) := by kernel_rfl
theorem tf65 : Tryz.prog.underlying 4 = some .bool := by kernel_rfl
end Go.Proofs
