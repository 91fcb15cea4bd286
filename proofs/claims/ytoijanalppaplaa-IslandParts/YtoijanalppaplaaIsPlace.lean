/-
  Where place finds a body: its class. Own work; plain Lean.
-/
import Derived.Test.YtoijanalppaplaaIs11
namespace Go.Isl
open Go.Sl Go.Brd Go.Stp Go.Proofs
theorem idAt_inj {fb : List KB} (ho : ordB fb) {i j : Nat} (hi : i < fb.length) (hj : j < fb.length) (h : idAt fb i = idAt fb j) : i = j := by
  rcases Nat.lt_trichotomy i j with q | q | q
  · have := idAt_lt ho q hj; omega
  · exact q
  · have := idAt_lt ho q hi; omega
/-- the lists of a scene's islands -/
noncomputable abbrev listsC (fb : List KB) (E : Nat → Nat → Prop) : List (List Int) := (classes E fb.length).map fun c => c.map (idAt fb)
theorem class_lt {E : Nat → Nat → Prop} {n k : Nat} {c : List Nat} (h : (classes E n)[k]? = some c) {i : Nat} (hi : i ∈ c) : i < n := by
  obtain ⟨f, _, rfl⟩ := classes_get h
  exact (class_mem.1 hi).1
theorem place_class {fb : List KB} {E : Nat → Nat → Prop} (hs : ∀ i j, E i j → E j i) (ho : ordB fb) {k i : Nat} {c : List Nat} (hk : (classes E fb.length)[k]? = some c) (hi : i ∈ c) : placeI (listsC fb E) (idAt fb i) = ((k : Nat) : Int) := by
  refine place_at (r := c.map (idAt fb)) (by unfold listsC; rw [List.getElem?_map, hk]; rfl) (List.mem_map.2 ⟨i, hi, rfl⟩) fun r hr hx => ?_
  obtain ⟨l, hl⟩ := List.getElem?_of_mem hr
  have hlk : l < k := by
    have := (List.getElem?_eq_some_iff.1 hl).1
    rw [List.length_take] at this; omega
  rw [List.getElem?_take_of_lt hlk] at hl
  unfold listsC at hl
  rw [List.getElem?_map] at hl
  cases hd : (classes E fb.length)[l]? with
  | none => rw [hd] at hl; cases hl
  | some d =>
    rw [hd] at hl
    have e := (Option.some.inj hl).symm
    subst e
    obtain ⟨j, hj, e⟩ := List.mem_map.1 hx
    have := idAt_inj ho (class_lt hd hj) (class_lt hk hi) e
    subst this
    have := (class_same hs hd hk hj hi).2 .refl
    omega
theorem place_out {fb : List KB} {E : Nat → Nat → Prop} {x : Int} (h : ∀ b ∈ fb, b.id ≠ x) : placeI (listsC fb E) x = -1 := by
  refine place_none fun r hr hx => ?_
  obtain ⟨c, hc, rfl⟩ := List.mem_map.1 hr
  obtain ⟨i, hi, e⟩ := List.mem_map.1 hx
  obtain ⟨k, hk⟩ := List.getElem?_of_mem hc
  have hl := class_lt hk hi
  rw [idAt_eq (List.getElem?_eq_getElem hl)] at e
  exact h _ (List.getElem_mem hl) e
/-- links by the bodies themselves -/
theorem linkE_iff {fb : List KB} {rs : List KR} {gx gy : Int} {i j : Nat} (hij : i < j) : linkE fb rs gx gy i j ↔ (∃ a b, fb[i]? = some a ∧ fb[j]? = some b ∧ touchA (reachA a gx gy) (reachA b gx gy)) ∨ ∃ r ∈ rs, ropeN fb r = some (i, j) ∨ ropeN fb r = some (j, i) := by
  unfold linkE linksI
  rw [List.mem_append, List.mem_append, pairs_iff, pairs_iff, List.mem_filterMap, List.mem_filterMap]
  have key : (∃ a b, (reachL fb gx gy)[i]? = some a ∧ (reachL fb gx gy)[j]? = some b ∧ touchA a b) ↔ ∃ a b, fb[i]? = some a ∧ fb[j]? = some b ∧ touchA (reachA a gx gy) (reachA b gx gy) := by
    unfold reachL
    rw [List.getElem?_map, List.getElem?_map]
    constructor
    · rintro ⟨a, b, ha, hb, ht⟩
      obtain ⟨x, hx, rfl⟩ := Option.map_eq_some_iff.1 ha
      obtain ⟨y, hy, rfl⟩ := Option.map_eq_some_iff.1 hb
      exact ⟨x, y, hx, hy, ht⟩
    · rintro ⟨a, b, ha, hb, ht⟩
      exact ⟨_, _, by rw [ha]; rfl, by rw [hb]; rfl, ht⟩
  rw [key]
  constructor
  · rintro ((⟨_, h⟩ | ⟨r, hr, e⟩) | (⟨h, _⟩ | ⟨r, hr, e⟩))
    · exact .inl h
    · exact .inr ⟨r, hr, .inl e⟩
    · omega
    · exact .inr ⟨r, hr, .inr e⟩
  · rintro (h | ⟨r, hr, e | e⟩)
    · exact .inl (.inl ⟨hij, h⟩)
    · exact .inl (.inr ⟨r, hr, e⟩)
    · exact .inr (.inr ⟨r, hr, e⟩)
end Go.Isl
