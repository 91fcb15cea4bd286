/-
  IslandLess in plain terms: a body taken away, a rope more. Own work; plain Lean.
-/
import Derived.Test.YtoijanalppaplaaIsId
namespace Go.Isl
open Go.Sl Go.Brd Go.Stp Go.Proofs
theorem found_of {bs : List KB} {b : KB} (h : b ∈ bs) : (findB bs b.id).isSome = true := by
  unfold findB; rw [List.find?_isSome]; exact ⟨b, h, by simp⟩
theorem alike {fb : List KB} {R : List KR} {gx gy p q : Int} {xl : List (List Int)} (h : IsS fb R gx gy xl) (hp : p ∈ fb.map (·.id)) (hq : q ∈ fb.map (·.id)) : placeI xl p = placeI xl q ↔ CnI (LkI fb R gx gy) p q := by
  obtain ⟨k, hk, hk2⟩ := h.place hp
  obtain ⟨l, hl, hl2⟩ := h.place hq
  constructor
  · intro e
    have : k = l := by omega
    subst this
    rw [hk2] at hl2
    have e2 := Option.some.inj hl2
    exact (cls_mem hp).1 (by rw [e2]; exact cls_self hq)
  · intro c
    have := (h.at_ hk2 ((cls_mem hp).2 c)).2.2
    rw [hk, this]
/-! a link more joins two classes -/
theorem one_at {xl : List (List Int)} {i : Nat} {r : List Int} (h : xl[i]? = some r) : (xl.take (i + 1)).drop i = [r] := by
  obtain ⟨h1, h2⟩ := List.getElem?_eq_some_iff.1 h
  rw [List.take_add_one, h, List.drop_append, List.drop_eq_nil_of_le (by rw [List.length_take]; omega), List.length_take, Nat.min_eq_left (by omega), Nat.sub_self]; rfl
end Go.Isl
