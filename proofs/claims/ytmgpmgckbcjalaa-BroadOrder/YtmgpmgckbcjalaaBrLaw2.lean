/-
  What spaces that are filled answer, in plain terms. Own work; plain Lean.
-/
import Derived.Test.YtmgpmgckbcjalaaBrLaw
namespace Go.Brd
open Go.Sl Go.Proofs
/-! Query -/
theorem things_in {l : List KA} {t : KT} (h : t ∈ things l 0) : ∃ k : Nat, l[k]? = some t.ar ∧ t.id = k := by
  obtain ⟨k, hk⟩ := List.getElem?_of_mem h
  rw [things_get] at hk
  cases hl : l[k]? with
  | none => rw [hl] at hk; cases hk
  | some a => rw [hl] at hk; injection hk with hk; subst hk; exact ⟨k, hl, by simp⟩
/-! pairs in their order -/
theorem pairs_len {l : List KA} (hl : l.length ≤ 40) : (pairsT (things l 0)).length ≤ 1600 := by
  have h1 : ∀ (l : List KT), (pairsT l).length ≤ l.length * l.length := by
    intro l
    induction l with
    | nil => simp [pairsT]
    | cons x l ih =>
      have h2 : (hitsT x l).length ≤ l.length := by unfold hitsT; rw [List.length_map]; exact List.length_filter_le _ _
      show (hitsT x l ++ pairsT l).length ≤ (l.length + 1) * (l.length + 1)
      rw [List.length_append, Nat.add_mul, Nat.mul_add]; omega
  have h2 := h1 (things l 0)
  rw [things_len] at h2
  have h3 : l.length * l.length ≤ 40 * 40 := Nat.mul_le_mul hl hl
  omega
end Go.Brd
