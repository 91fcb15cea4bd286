/-
  Pieces for DigestSmall. Own work; plain Lean.
-/
import Derived.Test.YtbfidhbcojbklaaGreatDgFinds
namespace Go.Proofs
open Go Go.Sl
def endsK : List Int := [-9223372036854775808, -1, 0, 1, 255, 256, 9223372036854775807]
def small (es : List KEnt) : Prop := ∀ (j : Nat) e, es[j]? = some e → e.comps.length ≤ 3
theorem small_nil : small [] := fun j e h => by simp at h
theorem small_snoc {es : List KEnt} {e : KEnt} (h : small es) (he : e.comps.length ≤ 3) : small (es ++ [e]) := fun j f hf => by
  rcases List.mem_append.1 (List.mem_of_getElem? hf) with hm | hm
  · obtain ⟨i, hi⟩ := List.getElem?_of_mem hm
    exact h i f hi
  · rw [List.mem_singleton] at hm; subst hm; exact he
theorem small_take {es : List KEnt} (h : small es) (k : Nat) : small (es.take k) := fun j e he => by
  obtain ⟨i, hi⟩ := List.getElem?_of_mem (List.mem_of_mem_take (List.mem_of_getElem? he))
  exact h i e hi
theorem small_drop {es : List KEnt} (h : small es) (k : Nat) : small (es.drop k) := fun j e he => by
  obtain ⟨i, hi⟩ := List.getElem?_of_mem (List.mem_of_mem_drop (List.mem_of_getElem? he))
  exact h i e hi
theorem small_b {es : List KEnt} (h : small es) : ∀ (i : Nat) e, es[i]? = some e → e.comps.length * 40 ≤ 140737488355328 := fun i e he => by
  have := h i e he; omega
theorem k_row_gb {β : Base} {L : List Res} {v : Value} {n : Nat} {us : List Value} {es : List KEnt} (i j : Nat) (hi : L[i]? = some (row v 35 2 n (entCells us es))) (hj : L[j]? = some (gb β us es)) (hn : n = es.length) : Knows β L (fun h => Sl EntR h v es) := fun H hs hr => by
  obtain ⟨a, ha, hra⟩ := hr _ (List.mem_of_getElem? hi)
  obtain ⟨a2, ha2, hg⟩ := hr _ (List.mem_of_getElem? hj)
  exact row_ents ha hra (hg H hs ha2) hn
theorem sl_take {h : PHeap} {a : Option Addr} {n c k : Nat} {es : List KEnt} (hs : Sl EntR h (.slice a n c) es) (hk : k ≤ es.length) : Sl EntR h (.slice a k c) (es.take k) := by
  obtain ⟨h1, h2, h3⟩ := sl_parts hs
  have hl : (es.take k).length = k := by simp; omega
  refine ⟨a, c, by rw [hl], by omega, h2, Elems.take k h3⟩
theorem sl_drop {h : PHeap} {a : Option Addr} {n c l : Nat} {es : List KEnt} (hs : Sl EntR h (.slice a n c) es) (hn : n = es.length) (hl : l ≤ n) : Sl EntR h (.slice (adv a c l 2) (n - l) (c - l)) (es.drop l) := by
  subst hn
  obtain ⟨h1, h2, h3⟩ := sl_parts hs
  have hlen : (es.drop l).length = es.length - l := by simp
  refine ⟨_, c - l, by rw [hlen]; rfl, by omega, by omega, Elems.drop (cap := c) l h1 h3⟩
theorem u8_of (n : Int) : IntKind.u8.wrap n = ((U n).toUInt8.toNat : Int) := by
  have h1 := ux_of n
  have h2 := bx_of64 (U n)
  rw [← h1] at h2
  rw [← h2, u8w, u8w, u64w]; omega
end Go.Proofs
