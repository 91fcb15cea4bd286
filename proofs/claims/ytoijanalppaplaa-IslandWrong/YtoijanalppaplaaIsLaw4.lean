/-
  Law IslandWrong in plain terms. Own work; plain Lean.
-/
import Derived.Test.YtoijanalppaplaaIs9
namespace Go.Isl
open Go.Sl Go.Brd Go.Stp Go.Proofs
def ib0 : KB := ⟨40, 0, 0, 0, 0, 10, 10, false, false⟩
def ib1 : KB := ⟨41, 90, 0, 0, 0, 10, 10, false, true⟩
def ibI : KB := ⟨40, 90, 0, 0, 0, 10, 10, false, true⟩
def ibJ : KB := ⟨39, 90, 0, 0, 0, 10, 10, false, true⟩
def ibW : KB := ⟨41, 90, 0, 0, 0, 0, 10, false, true⟩
def ibV : KB := ⟨41, 90, 0, 1, 0, 10, 10, false, true⟩
theorem bad_last {bs B : List KB} (h : B = bs ++ [ib0, ib1]) : B.length = bs.length + 2 ∧ B[B.length - 1]? = some ib1 ∧ B[B.length - 2]? = some ib0 := by
  subst h
  refine ⟨by simp, ?_, ?_⟩
  · rw [show (bs ++ [ib0, ib1]).length - 1 = bs.length + 1 by simp, List.getElem?_append_right (by omega)]; simp
  · rw [show (bs ++ [ib0, ib1]).length - 2 = bs.length by simp, List.getElem?_append_right (by omega)]; simp
theorem bad_mem {bs B : List KB} (h : B = bs ++ [ib0, ib1]) (hb : madeL bs) (hn : bs.length ≤ 16) {b : KB} (hm : b ∈ B) : b = ib0 ∨ b = ib1 ∨ (1 ≤ b.id ∧ b.id ≤ 31) := by
  subst h
  rcases List.mem_append.1 hm with hm | hm
  · obtain ⟨i, hi⟩ := List.getElem?_of_mem hm
    have h1 := hb.1 i b hi
    have := (List.getElem?_eq_some_iff.1 hi).1
    right; right; omega
  · simp at hm; rcases hm with hm | hm
    · exact .inl hm
    · exact .inr (.inl hm)
theorem bad_ord {bs B : List KB} (h : B = bs ++ [ib0, ib1]) (hb : madeL bs) (hn : bs.length ≤ 16) : ordB B := by
  subst h
  refine pair_ordB ?_
  rw [List.pairwise_append]
  refine ⟨ordB_pair (madeL_ord hb), by decide, fun a ha b hb' => ?_⟩
  obtain ⟨i, hi⟩ := List.getElem?_of_mem ha
  have h1 := hb.1 i a hi
  have := (List.getElem?_eq_some_iff.1 hi).1
  simp at hb'
  rcases hb' with rfl | rfl
  · show a.id < 40; omega
  · show a.id < 41; omega
theorem findB_app {bs C : List KB} {x : Int} (h : (findB bs x).isSome = true) : (findB (bs ++ C) x).isSome = true := by
  rw [findB_iff] at h ⊢
  obtain ⟨b, hb, e⟩ := h
  exact ⟨b, List.mem_append_left _ hb, e⟩
theorem bad_ok {bs B : List KB} {R : List KR} (h : B = bs ++ [ib0, ib1]) (hm : MadeP bs R 0 0) : okS B R 0 0 := by
  have ho := bad_ord h hm.bodies hm.few
  obtain ⟨h1, h2, h3, h4, h5, h6⟩ := hm.ok
  have hf := hm.few
  refine ⟨by rw [(bad_last h).1]; omega, h2, h3, fun b hb => ?_, ho, fun r hr => ?_⟩
  · subst h
    rcases List.mem_append.1 hb with hb | hb
    · exact h4 b hb
    · simp at hb; rcases hb with rfl | rfl <;> decide
  · subst h
    obtain ⟨g1, g2, g3⟩ := h6 r hr
    exact ⟨findB_app g1, findB_app g2, g3⟩
theorem bad_no {bs B : List KB} (h : B = bs ++ [ib0, ib1]) (hb : madeL bs) (hn : bs.length ≤ 16) {x : Int} (hx : x < 0 ∨ x = 42) : (findB B x).isSome = false := by
  cases hc : (findB B x).isSome with
  | false => rfl
  | true =>
    obtain ⟨b, hm, e⟩ := findB_iff.1 hc
    rcases bad_mem h hb hn hm with rfl | rfl | g
    · rw [show ib0.id = 40 from rfl] at e; omega
    · rw [show ib1.id = 41 from rfl] at e; omega
    · omega
theorem bad_free {bs B : List KB} (h : B = bs ++ [ib0, ib1]) (hb : madeL bs) (hn : bs.length ≤ 16) {x : Int} (hx : x < 0 ∨ x = 42 ∨ x = 41) : ¬ freeAt B x := by
  rintro ⟨h1, b, h2, h3⟩
  rcases hx with hx | hx | hx
  · rw [bad_no h hb hn (.inl hx)] at h1; exact absurd h1 (by decide)
  · rw [bad_no h hb hn (.inr hx)] at h1; exact absurd h1 (by decide)
  · obtain ⟨c, hc, e⟩ := lb_in (bad_ord h hb hn) h1
    rw [h2] at hc; injection hc with hc
    subst hc
    rcases bad_mem h hb hn (List.mem_of_getElem? h2) with rfl | rfl | g
    · rw [show ib0.id = 40 from rfl] at e; omega
    · exact absurd h3 (by decide)
    · omega
/-! the ten defects -/
theorem no_body {B : List KB} {R : List KR} {gx gy : Int} {k : Nat} {z : KB} (hk : k < B.length) (hz : ¬ okB z) : ¬ okS (B.set k z) R gx gy := fun h => hz (h.2.2.2.1 z (List.mem_of_getElem? (show (B.set k z)[k]? = some z by rw [List.getElem?_set_self hk])))
theorem no_id {bs B : List KB} {R : List KR} {gx gy : Int} {z : KB} (h : B = bs ++ [ib0, ib1]) (hz : z.id ≤ 40) : ¬ okS (B.set (B.length - 1) z) R gx gy := fun q => by
  obtain ⟨h1, h2, h3⟩ := bad_last h
  have e1 : (B.set (B.length - 1) z)[B.length - 2]? = some ib0 := by rw [List.getElem?_set_ne (by omega)]; exact h3
  have e2 : (B.set (B.length - 1) z)[B.length - 2 + 1]? = some z := by rw [show B.length - 2 + 1 = B.length - 1 by omega, List.getElem?_set_self (by omega)]
  have := q.2.2.2.2.1 _ _ _ e1 e2
  rw [show ib0.id = 40 from rfl] at this
  omega
theorem no_pull {B : List KB} {R : List KR} {gx gy : Int} (h : ¬ okV gx gy) : ¬ okS B R gx gy := fun q => h q.2.2.1
theorem no_rope {B : List KB} {R : List KR} {gx gy : Int} {r : KR} (h : ¬ okR B r) : ¬ okS B (R ++ [r]) gx gy := fun q => h (q.2.2.2.2.2 r (by simp))
end Go.Isl
