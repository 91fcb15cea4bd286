/-
  Own work; plain Lean (Dg10).
-/
import Derived.Test.YtbfidhbcojbklaaGreatDg9
import Derived.Test.YtbfidhbcojbklaaGreatSlBytes
namespace Go.Proofs
open Go Go.Sl
theorem size_set (s : ByteArray) (k : Nat) (v : UInt8) (h : s.size ≤ 9223372036854775807) : (⟨(s.data.toList.set k v).toArray⟩ : ByteArray).size ≤ 9223372036854775807 := by
  show (s.data.toList.set k v).length ≤ _
  rw [List.length_set]; exact h
theorem size_back (s : ByteArray) (h : s.size ≤ 9223372036854775807) : (⟨(s.data.toList).toArray⟩ : ByteArray).size ≤ 9223372036854775807 := h
theorem names_nil {s : ByteArray} (h : ((s.size : Nat) : Int) = (0 : Int)) : ((seqU (wordsB s)).toNat : Int) = ((0 : UInt64).toNat : Int) := by
  have : s.data.toList = [] := List.eq_nil_of_length_eq_zero (show s.size = 0 by omega)
  rw [wordsB, this]; decide
theorem names_same (s : ByteArray) : ¬ (((seqU (wordsB (⟨(s.data.toList).toArray⟩))).toNat : Int) ≠ ((seqU (wordsB s)).toNat : Int)) := by
  have : (⟨(s.data.toList).toArray⟩ : ByteArray) = s := by cases s; simp
  rw [this]; simp
theorem max8_ne (b : UInt8) : max b 1 ≠ 0 := by
  intro h
  have h1 : (max b 1).toNat = 0 := by rw [h]; rfl
  have h2 := bx_max b 1
  rw [h1] at h2
  have h3 : ((1 : UInt8).toNat : Int) = 1 := rfl
  omega
theorem seqF_inj_h {h h' : UInt64} : ∀ {xs : List UInt64}, seqF h xs = seqF h' xs → h = h'
  | [], e => e
  | x :: xs, e => by
    have h1 := seqF_inj_h (xs := xs) (h := h * 0x9e3779b97f4a7c15 + x + 1) (h' := h' * 0x9e3779b97f4a7c15 + x + 1) e
    rw [UInt64.add_left_inj, UInt64.add_left_inj] at h1
    exact mul_inj (c' := 0xf1de83e19937733d) (by decide) h1
theorem seqF_set_ne {x y : UInt64} (hxy : x ≠ y) : ∀ {xs : List UInt64} {k : Nat} {h : UInt64}, xs[k]? = some x → seqF h (xs.set k y) ≠ seqF h xs
  | [], k, h, e => by simp at e
  | a :: xs, 0, h, e => by
    injection e with e
    subst e
    intro e2
    have h1 := seqF_inj_h (xs := xs) (h := h * 0x9e3779b97f4a7c15 + y + 1) (h' := h * 0x9e3779b97f4a7c15 + a + 1) e2
    rw [UInt64.add_left_inj, UInt64.add_right_inj] at h1
    exact hxy h1.symm
  | a :: xs, k + 1, h, e => seqF_set_ne hxy (xs := xs) (k := k) (by simpa using e)
theorem names_ne {s : ByteArray} {k : Nat} {c b : UInt8} (hc : s.data.toList[k]? = some c) :
    ¬ (((seqU (wordsB (⟨((s.data.toList).set (0 + k * 1) (c + max b (1 : UInt8))).toArray⟩))).toNat : Int) = ((seqU (wordsB s)).toNat : Int)) := by
  intro e
  have h1 := mix_inj (UInt64.toNat_inj.1 (Int.ofNat_inj.1 e))
  have hw : (wordsB s)[k]? = some c.toUInt64 := by simp only [wordsB, List.getElem?_map, hc]; rfl
  have hne : c.toUInt64 ≠ (c + max b 1).toUInt64 := by
    intro h
    have h2 : c.toNat = (c + max b 1).toNat := by
      have := congrArg UInt64.toNat h
      simpa using this
    have h3 : c = c + max b 1 := UInt8.toNat_inj.1 h2
    have h4 : c + 0 = c + max b 1 := by simpa using h3
    rw [UInt8.add_right_inj] at h4
    exact max8_ne b h4.symm
  refine seqF_set_ne (h := 0) hne hw ?_
  have h5 : (wordsB s).set k (c + max b 1).toUInt64 = wordsB ⟨((s.data.toList).set (0 + k * 1) (c + max b (1 : UInt8))).toArray⟩ := by
    simp [wordsB, List.map_set]
  rw [h5]; exact h1
theorem names_ent (c : UInt8) : ((entU (⟨((c.toNat : Nat) : Int), []⟩ : KEnt)).toNat : Int) = ((seqU (wordsB (⟨([c, (0 : UInt8)] : List UInt8).toArray⟩))).toNat : Int) := by
  have h : U ((c.toNat : Nat) : Int) = c.toUInt64 := by
    have h1 := ux_of ((c.toNat : Nat) : Int)
    have h2 := ux_of8 c
    exact UInt64.toNat_inj.1 (Int.ofNat_inj.1 (h1.symm.trans h2))
  show (((seqU [U ((c.toNat : Nat) : Int), U ((0 : Nat) : Int)]).toNat : Nat) : Int) = (((seqU [c.toUInt64, (0 : UInt8).toUInt64]).toNat : Nat) : Int)
  rw [h]; rfl
theorem names_tick {s z : ByteArray} {c : UInt8} (hc : s.data.toList[0]? = some c) (hz : z = s.extract 0 1) : ((tickU (((c.toNat : Nat) : Int))).toNat : Int) = ((seqU (wordsB z)).toNat : Int) := by
  have h : U ((c.toNat : Nat) : Int) = c.toUInt64 := by
    have h1 := ux_of ((c.toNat : Nat) : Int)
    have h2 := ux_of8 c
    exact UInt64.toNat_inj.1 (Int.ofNat_inj.1 (h1.symm.trans h2))
  have hw : wordsB z = [c.toUInt64] := by
    subst hz
    cases s with
    | mk d =>
      cases d with
      | mk l =>
        cases l with
        | nil => simp at hc
        | cons a l => simp at hc; subst hc; simp [wordsB, ByteArray.data_extract]
  rw [hw]
  show (((chainU 0 (U ((c.toNat : Nat) : Int))).toNat : Nat) : Int) = _
  rw [h]; rfl
theorem tf66 : Tryz.prog.underlying 40 = some (.slice 5) := by kernel_rfl
theorem tf67 : slB Tryz.prog 40 5 1 = true := by kernel_rfl
theorem tf68 : (Tryz.prog.info? 5).bind (·.zero) = some (.int .u8 (0)) := by kernel_rfl
end Go.Proofs
