/-
  IslandClasses in plain terms: the classes, what is counted of them, which are crossed. Own work; plain Lean.
-/
import Derived.Test.YtoijanalppaplaaIsPlace
import Derived.Test.YtoijanalppaplaaIsLaw2
namespace Go.Isl
open Go.Sl Go.Brd Go.Stp Go.Proofs
noncomputable def CL (bs : List KB) (R : List KR) (gx gy : Int) : List (List Nat) := classes (linkE (freeB bs) R gx gy) (freeB bs).length
noncomputable def XL (bs : List KB) (R : List KR) (gx gy : Int) : List (List Int) := (CL bs R gx gy).map fun c => c.map (idAt (freeB bs))
theorem made_ord {bs : List KB} {R : List KR} {gx gy : Int} (hP : MadeP bs R gx gy) : ordB (freeB bs) := freeB_ord hP.ok.2.2.2.2.1
theorem xl_get {bs : List KB} {R : List KR} {gx gy : Int} {k : Nat} {r : List Int} {xl : List (List Int)} (hX : xl = XL bs R gx gy) (h : xl[k]? = some r) : ∃ c, (CL bs R gx gy)[k]? = some c ∧ r = c.map (idAt (freeB bs)) := by
  subst hX
  unfold XL at h
  rw [List.getElem?_map] at h
  obtain ⟨c, hc, e⟩ := Option.map_eq_some_iff.1 h
  exact ⟨c, hc, e.symm⟩
theorem class_head {E : Nat → Nat → Prop} (hs : ∀ i j, E i j → E j i) {n f : Nat} (h : f ∈ firsts E n n) : (classOf E n f)[0]? = some f := by
  obtain ⟨h1, h2⟩ := mem_firsts.1 h
  have hf : f ∈ classOf E n f := class_mem.2 ⟨h1, .refl⟩
  have hso := class_sorted E n f
  cases hc : classOf E n f with
  | nil => rw [hc] at hf; cases hf
  | cons a l =>
    rw [hc] at hf hso
    rcases List.mem_cons.1 hf with e | e
    · rw [e]; rfl
    · have := (List.pairwise_cons.1 hso).1 f e
      have ha : a ∈ classOf E n f := by rw [hc]; exact List.mem_cons_self
      exact absurd ((class_mem.1 ha).2.symm hs) (h2 a this)
/-! how many they are -/
theorem class_flat {E : Nat → Nat → Prop} (hs : ∀ i j, E i j → E j i) (n : Nat) : (classes E n).flatten.Perm (List.range n) := by
  refine (List.perm_ext_iff_of_nodup ?_ List.nodup_range).2 fun a => ?_
  · unfold List.Nodup
    rw [List.pairwise_flatten]
    refine ⟨fun l hl => ?_, ?_⟩
    · obtain ⟨k, hk⟩ := List.getElem?_of_mem hl
      obtain ⟨f, _, rfl⟩ := classes_get hk
      exact class_nodup E n f
    · rw [List.pairwise_iff_getElem]
      intro i j hi hj hij x hx y hy e
      subst e
      have := (class_same hs (List.getElem?_eq_getElem hi) (List.getElem?_eq_getElem hj) hx hy).2 .refl
      omega
  · rw [List.mem_flatten, List.mem_range]
    constructor
    · rintro ⟨c, hc, ha⟩
      obtain ⟨k, hk⟩ := List.getElem?_of_mem hc
      exact class_lt hk ha
    · intro h
      obtain ⟨k, c, hk, hc⟩ := class_some hs h
      exact ⟨c, List.mem_of_getElem? hk, hc⟩
/-! sides -/
def sideX (bits : Nat) (x : Int) : Bool := decide (bits / 2 ^ (min (x.toNat / 2) 16) % 2 = 1)
def sd (bs : List KB) (bits j : Nat) : Bool := sideX bits (idAt (freeB bs) j)
structure InnP (bs : List KB) (R : List KR) (gx gy : Int) (bits : Nat) (inn : List Int) (m : Nat) : Prop where
  len : inn.length = (CL bs R gx gy).length
  at_ : ∀ (i : Nat) (c : List Nat), (CL bs R gx gy)[i]? = some c → inn[i]? = some (((c.filter fun j => decide (j < m) && sd bs bits j).length : Nat) : Int)
structure CrP (bs : List KB) (R : List KR) (gx gy : Int) (bits : Nat) (cr : List Bool) (m q : Nat) : Prop where
  len : cr.length = (CL bs R gx gy).length
  at_ : ∀ (i : Nat) (c : List Nat), (CL bs R gx gy)[i]? = some c → ∀ p r : Nat, p ∈ c → p < r → r < (freeB bs).length → (p < m ∨ p = m ∧ r < q) → linkE (freeB bs) R gx gy p r → sd bs bits p ≠ sd bs bits r → cr[i]? = some true
theorem conn_cross {E : Nat → Nat → Prop} {s : Nat → Bool} {i j : Nat} (h : Conn E i j) (hs : s i ≠ s j) : ∃ p r, Conn E i p ∧ E p r ∧ s p ≠ s r := by
  induction h with
  | refl => exact absurd rfl hs
  | @step j k h1 h2 ih =>
    by_cases e : s i = s j
    · exact ⟨j, k, h1, h2, fun q => hs (e.trans q)⟩
    · exact ih e
theorem link_lt {bs : List KB} {R : List KR} {gx gy : Int} {p r : Nat} (hP : MadeP bs R gx gy) (h : linkE (freeB bs) R gx gy p r) : p < (freeB bs).length ∧ r < (freeB bs).length ∧ p ≠ r := by
  have hl := links_in (gx := gx) (gy := gy) (made_ord hP) (rs := R) fun r hr => (hP.ok.2.2.2.2.2 r hr).2.2.1
  rcases h with h | h
  · exact hl _ h
  · have := hl _ h; exact ⟨this.2.1, this.1, fun e => this.2.2 e.symm⟩
/-- an island that has bodies of both sides is crossed -/
theorem crossed {bs : List KB} {R : List KR} {gx gy : Int} {bits k : Nat} {xl : List (List Int)} {inn : List Int} {cr : List Bool} {r : List Int} {v : Int} {y : Bool} (hP : MadeP bs R gx gy) (hX : xl = XL bs R gx gy) (hi : InnP bs R gx gy bits inn (freeB bs).length) (hc : CrP bs R gx gy bits cr (freeB bs).length 0) (hr : xl[k]? = some r) (hv : inn[k]? = some v) (hy : cr[k]? = some y) (h0 : 0 < v) (h1 : v < ((r.length : Nat) : Int)) : y = true := by
  obtain ⟨c, hk, rfl⟩ := xl_get hX hr
  obtain ⟨f, _, e⟩ := classes_get hk
  have hlt : ∀ j ∈ c, j < (freeB bs).length := fun j hj => class_lt hk hj
  have h2 := hi.at_ k c hk
  rw [hv] at h2
  have h2 := Option.some.inj h2
  rw [List.length_map] at h1
  have hex : ∃ j ∈ c, sd bs bits j = true := by
    have hp : 0 < (c.filter fun j => decide (j < (freeB bs).length) && sd bs bits j).length := by omega
    obtain ⟨j, hj⟩ := List.exists_mem_of_length_pos hp
    obtain ⟨g1, g2⟩ := List.mem_filter.1 hj
    exact ⟨j, g1, by simpa using (Bool.and_eq_true _ _ ▸ g2).2⟩
  have hex2 : ∃ j ∈ c, sd bs bits j = false := by
    refine Classical.byContradiction fun hno => ?_
    have : (c.filter fun j => decide (j < (freeB bs).length) && sd bs bits j) = c := by
      rw [List.filter_eq_self]
      intro j hj
      cases hs : sd bs bits j
      · exact absurd ⟨j, hj, hs⟩ hno
      · rw [decide_eq_true (hlt j hj)]; rfl
    rw [this] at h2; omega
  obtain ⟨i, hi1, hi2⟩ := hex
  obtain ⟨j, hj1, hj2⟩ := hex2
  have hcn : Conn (linkE (freeB bs) R gx gy) i j := (class_same linkE_symm hk hk hi1 hj1).1 rfl
  obtain ⟨p, q, g1, g2, g3⟩ := conn_cross (s := sd bs bits) hcn (by rw [hi2, hj2]; decide)
  obtain ⟨g4, g5, g6⟩ := link_lt hP g2
  have hin : ∀ z, z < (freeB bs).length → Conn (linkE (freeB bs) R gx gy) i z → z ∈ c := fun z hz hcz => by
    rw [e] at hi1 ⊢; exact class_mem.2 ⟨hz, (class_mem.1 hi1).2.trans hcz⟩
  have hpc := hin p g4 g1
  have hqc := hin q g5 (g1.step g2)
  have : cr[k]? = some true := by
    rcases Nat.lt_or_gt_of_ne g6 with h | h
    · exact hc.at_ k c hk p q hpc h g5 (.inl g4) g2 g3
    · exact hc.at_ k c hk q p hqc h g4 (.inl g5) (linkE_symm _ _ g2) fun z => g3 z.symm
  rw [this] at hy
  exact (Option.some.inj hy).symm
/-! what the law takes for a link -/
theorem rope_at {fb : List KB} {r : KR} {i j : Nat} {a b : KB} (ho : ordB fb) (ha : fb[i]? = some a) (hb : fb[j]? = some b) : ropeN fb r = some (i, j) ↔ r.a = a.id ∧ r.b = b.id := by
  have found : ∀ {k : Nat} {x : KB} {z : Int}, fb[k]? = some x → z = x.id → (findB fb z).isSome = true ∧ lbN fb z = k := fun {k x z} hx e => by
    have h1 : (findB fb z).isSome = true := by
      unfold findB; rw [List.find?_isSome]; exact ⟨x, List.mem_of_getElem? hx, by simp [e]⟩
    obtain ⟨b', hb', e'⟩ := lb_in ho h1
    refine ⟨h1, idAt_inj ho (List.getElem?_eq_some_iff.1 hb').1 (List.getElem?_eq_some_iff.1 hx).1 ?_⟩
    rw [idAt_eq hb', idAt_eq hx, e', e]
  unfold ropeN
  constructor
  · intro h
    split at h
    · rename_i h1
      obtain ⟨a', ha', ea⟩ := lb_in ho h1.1
      obtain ⟨b', hb', eb⟩ := lb_in ho h1.2
      have h2 := Option.some.inj h
      injection h2 with h3 h4
      rw [h3, ha] at ha'; rw [h4, hb] at hb'
      injection ha' with ha'; injection hb' with hb'
      subst ha' hb'
      exact ⟨ea.symm, eb.symm⟩
    · cases h
  · rintro ⟨e1, e2⟩
    obtain ⟨g1, g2⟩ := found ha e1
    obtain ⟨g3, g4⟩ := found hb e2
    rw [if_pos ⟨g1, g3⟩, g2, g4]
end Go.Isl
