/-
  What the reference computes, in plain terms.
-/
import Derived.Test.YtkpdcajddpiknaaJnLaw
import Derived.Test.YtkpdcajddpiknaaDgBase
import Derived.Test.YtkpdcajddpiknaaJn1
namespace Go.Jn
open Go Go.Sl
theorem wordF_take_mul {xs : Bs} {k : Nat} {x : UInt8} (hx : xs[k]? = some x) (hl : xs.length ≤ 8) : wordF 0 (xs.take (k + 1)) = wordF 0 (xs.take k) * (256 : UInt64) + x.toUInt64 := by
  have hk := (List.getElem?_eq_some_iff.1 hx).1
  have e1 : xs.take (k + 1) = xs.take k ++ [x] := by rw [List.take_add_one, hx]; rfl
  rw [e1, wordF_snoc]
  have hlen : (xs.take k).length = k := by rw [List.length_take]; omega
  have hn : (wordF 0 (xs.take k)).toNat = natB (xs.take k) := wordU_nat (by omega)
  have hb : natB (xs.take k) < 256 ^ k := by have := natB_lt (xs.take k); rwa [hlen] at this
  have hp : 256 ^ k ≤ 256 ^ 7 := Nat.pow_le_pow_right (by decide) (by omega)
  have h56 : (256 : Nat) ^ 7 = 72057594037927936 := by decide
  have hsm : (wordF 0 (xs.take k)).toNat < 72057594037927936 := by omega
  apply UInt64.toNat_inj.1
  rw [word_step hsm, UInt64.toNat_add, UInt64.toNat_mul]
  have h2 := x.toNat_lt
  have h3 : (256 : UInt64).toNat = 256 := rfl
  have h4 : x.toUInt64.toNat = x.toNat := by simp
  rw [h3, h4]
  omega
end Go.Jn
namespace Go.Proofs
open Go Go.Sl Go.Jn
theorem ux_cell (x : UInt64) : (Ux x).oneCell' = true := rfl
theorem seqF_take {xs : List UInt64} {k : Nat} {a : UInt64} (h : xs[k]? = some a) : seqF 0 (xs.take (k + 1)) = seqF 0 (xs.take k) * 0x9e3779b97f4a7c15 + a + 1 := by
  rw [take_succ h, seqF_snoc]
theorem row_sl64 {v : Value} {T : Nat} {xs : List UInt64} {a : PHeap} (h : row v T 1 xs.length (xs.map fun z => Ux z) a) : Sl U64R a v xs := by
  obtain ⟨_, ⟨rfl, h0⟩ | ⟨g, cap, cur, rfl, hg, h1, h2, h3, h4⟩⟩ := h
  · have : xs = [] := List.eq_nil_of_length_eq_zero h0
    subst this
    exact ⟨none, 0, rfl, Nat.le_refl _, by omega, fun j x hj => by simp at hj⟩
  · refine ⟨some ⟨g, 0, none⟩, cap, rfl, h1, by unfold maxLen at h2; omega, fun j x hj => ⟨rfl, [Ux x], ?_, rfl⟩⟩
    have hlt := (List.getElem?_eq_some_iff.1 hj).1
    have hc : Cs a ⟨g, 0, none⟩ (xs.map fun z => Ux z) := Cs.of_pt (o := 0) hg (by simpa using h4)
    have := Cs.sub (vs := [Ux x]) j hc (by
      have hx := (List.getElem?_eq_some_iff.1 hj).2
      rw [List.drop_eq_getElem_cons (by simpa using hlt)]
      simp [hx])
    show Cs a ((⟨g, 0, none⟩ : Addr).add (j * 1)) [Ux x]
    rw [Nat.mul_one]; exact this
theorem pt_sl64 {b n T : Nat} {xs : List UInt64} {cs : Array Value} {a : PHeap} (h : pt b (.cells cs T) a) (hx : cs.toList = xs.map fun z => Ux z) (hn : (Nat.beq xs.length n && Nat.ble n 9223372036854775807) = true) : Sl U64R a (.slice (some ⟨b, 0, none⟩) n n) xs := by
  simp only [Bool.and_eq_true, Nat.ble_eq] at hn
  have h1 := Nat.eq_of_beq_eq_true hn.1
  subst h1
  refine ⟨some ⟨b, 0, none⟩, xs.length, rfl, Nat.le_refl _, hn.2, fun j x hj => ⟨rfl, [Ux x], ?_, rfl⟩⟩
  have hlt := (List.getElem?_eq_some_iff.1 hj).1
  have hc : Cs a ⟨b, 0, none⟩ (xs.map fun z => Ux z) := Cs.of_pt (o := 0) h (by rw [hx]; simp [List.take_of_length_le])
  have := Cs.sub (vs := [Ux x]) j hc (by
    have hx := (List.getElem?_eq_some_iff.1 hj).2
    rw [List.drop_eq_getElem_cons (by simpa using hlt)]
    simp [hx])
  show Cs a ((⟨b, 0, none⟩ : Addr).add (j * 1)) [Ux x]
  rw [Nat.mul_one]; exact this
end Go.Proofs
namespace Go.Jn
open Go Go.Sl
theorem be_div_byte {n m : UInt64} {j : Nat} (hj : j < 8) (hm : m.toNat = n.toNat / 256 ^ j) : (m % (256 : UInt64)).toUInt8 = (n >>> UInt64.ofNat (8 * j)).toUInt8 := by
  apply UInt8.toNat_inj.1
  have e1 : (UInt64.ofNat (8 * j)).toNat = 8 * j := by simp; omega
  have e2 : (256 : UInt64).toNat = 256 := rfl
  have e3 : (256 : Nat) ^ j = 2 ^ (8 * j) := by rw [Nat.pow_mul]
  rw [UInt64.toNat_toUInt8, UInt64.toNat_toUInt8, UInt64.toNat_mod, UInt64.toNat_shiftRight, e1, e2, hm, e3, Nat.shiftRight_eq_div_pow]
  rw [show 8 * j % 64 = 8 * j from Nat.mod_eq_of_lt (by omega)]
  omega
theorem be_div_next {n m : UInt64} {j : Nat} (hm : m.toNat = n.toNat / 256 ^ j) : (m / (256 : UInt64)).toNat = n.toNat / 256 ^ (j + 1) := by
  have e2 : (256 : UInt64).toNat = 256 := rfl
  rw [UInt64.toNat_div, e2, hm, Nat.div_div_eq_div_mul, Nat.pow_succ]
theorem be_set {ys : Bs} {q j : Nat} {n : UInt64} {b : UInt8} (hl : q < ys.length) (h : ys.drop (q + 1) = be j n) (hb : b = (n >>> UInt64.ofNat (8 * j)).toUInt8) : (ys.set q b).drop q = be (j + 1) n := by
  rw [List.drop_eq_getElem_cons (by simpa using hl), be, List.getElem_set_self, hb, ← h]
  congr 1
  rw [List.drop_set_of_lt (by omega)]
theorem be_compl {x : UInt64} (hx : x.toNat < 4294967296) : be 4 ((4294967295 : UInt64) - x) = be 4 (~~~x) := by
  refine natB_inj (by rw [be_length, be_length]) ?_
  rw [natB_be 4 _ (by omega), natB_be 4 _ (by omega)]
  have e1 : (4294967295 : UInt64).toNat = 4294967295 := rfl
  rw [UInt64.toNat_sub, UInt64.toNat_not, e1]
  have e2 : (256 : Nat) ^ 4 = 4294967296 := by decide
  have e3 : UInt64.size = 18446744073709551616 := rfl
  rw [e2]
  omega
end Go.Jn
namespace Go.Sl
open Go
theorem ux_quo (x y : UInt64) : IntKind.u64.wrap (((x.toNat : Nat) : Int).tdiv ((y.toNat : Nat) : Int)) = (((x / y).toNat : Nat) : Int) := by
  have e1 : ((x.toNat : Nat) : Int).tdiv ((y.toNat : Nat) : Int) = ((x.toNat / y.toNat : Nat) : Int) := by rw [Int.tdiv_eq_ediv_of_nonneg (by omega)]; rfl
  have h1 := x.toNat_lt
  have h2 := Nat.div_le_self x.toNat y.toNat
  rw [e1, UInt64.toNat_div, u64w]
  generalize x.toNat / y.toNat = q at h2 ⊢
  omega
end Go.Sl
