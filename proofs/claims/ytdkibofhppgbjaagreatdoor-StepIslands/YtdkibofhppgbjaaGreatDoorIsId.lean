/-
  Own work; plain Lean (IsLaw2, Is8, IsClass, Is11, IsPlace, IsLaw5, IsId).
-/
import Derived.Test.YtdkibofhppgbjaaGreatDoorIs7
namespace Go.Isl
open Go.Sl Go.Brd Go.Stp Go.Proofs
end Go.Isl

namespace Go.Proofs
open Go Go.Sl Go.Brd Go.Stp Go.Isl
end Go.Proofs

namespace Go.Isl
open Go.Sl Go.Brd Go.Stp Go.Proofs
/-- two bodies are linked: by their indices among those that move -/
def linkE (fb : List KB) (rs : List KR) (gx gy : Int) (i j : Nat) : Prop := (i, j) ∈ linksI fb rs gx gy ∨ (j, i) ∈ linksI fb rs gx gy
theorem linkE_symm {fb : List KB} {rs : List KR} {gx gy : Int} (i j : Nat) (h : linkE fb rs gx gy i j) : linkE fb rs gx gy j i := h.symm
theorem near_iff {fb : List KB} {rs : List KR} {gx gy : Int} (ho : ordB fb) (hr : ∀ r ∈ rs, r.a < r.b) (i k : Nat) : linkE fb rs gx gy i k ↔ k ∈ (nearI fb rs gx gy).getD i [] := by
  have hl := links_in (gx := gx) (gy := gy) ho hr
  unfold nearI
  rw [joinAll_mem (linksI fb rs gx gy) _ (fun p hp => by rw [List.length_replicate]; exact hl p hp)]
  have he : ¬ k ∈ (List.replicate fb.length ([] : List Nat)).getD i [] := fun h => by
    rw [List.getD_eq_getElem?_getD, List.getElem?_replicate] at h
    split at h <;> simp at h
  constructor
  · exact .inr
  · exact fun h => h.resolve_left he
theorem idAt_lt {fb : List KB} (ho : ordB fb) {i j : Nat} (hij : i < j) (hj : j < fb.length) : idAt fb i < idAt fb j := by
  rw [idAt_eq (List.getElem?_eq_getElem (show i < fb.length by omega)), idAt_eq (List.getElem?_eq_getElem hj)]
  exact ho.lt hij (List.getElem?_eq_getElem (by omega)) (List.getElem?_eq_getElem hj)
theorem All2.maps {α β γ : Type} {R : α → β → Prop} {f : α → γ} {g : β → γ} {l : List α} {m : List β} (h : All2 R l m) (hg : ∀ b ∈ m, ∀ a, R a b → f a = g b) : l.map f = m.map g := by
  induction h with
  | nil => rfl
  | cons h1 _ ih =>
    rw [List.map_cons, List.map_cons, hg _ List.mem_cons_self _ h1, ih fun b hb a => hg b (List.mem_cons_of_mem _ hb) a]
/-- the islands, by the classes of links -/
theorem islX_eq {bs : List KB} {rs : List KR} {gx gy : Int} (h : okS bs rs gx gy) : islX bs rs gx gy = (classes (linkE (freeB bs) rs gx gy) (freeB bs).length).map fun c => c.map (idAt (freeB bs)) := by
  obtain ⟨h1, h2, h3, h4, h5, h6⟩ := h
  have hfo := freeB_ord h5
  have hrr : ∀ r ∈ rs, r.a < r.b := fun r hr => (h6 r hr).2.2.1
  have hin := near_in (gx := gx) (gy := gy) hfo hrr
  have hc := isl_classes hin (E := linkE (freeB bs) rs gx gy) (near_iff hfo hrr) linkE_symm _ (Nat.le_refl _)
  refine hc.maps fun c hc a ha => ?_
  obtain ⟨i, hi, rfl⟩ := List.mem_map.1 hc
  refine sortI_eq (ha.map _) ?_
  rw [List.pairwise_map]
  have hs := class_sorted (linkE (freeB bs) rs gx gy) (freeB bs).length i
  refine List.Pairwise.imp_of_mem (fun {x y} hx hy hxy => ?_) hs
  exact Int.le_of_lt (idAt_lt hfo hxy (class_mem.1 hy).1)
/-- the pairs of indices that Pairs answers are those of areas that touch -/
theorem mem_pairsT {p : KP} : ∀ {L : List KT}, p ∈ pairsT L ↔ ∃ (i j : Nat) (x y : KT), i < j ∧ L[i]? = some x ∧ L[j]? = some y ∧ touchA x.ar y.ar ∧ p = mkP x y
  | [] => by simp [pairsT]
  | z :: L => by
    show p ∈ hitsT z L ++ pairsT L ↔ _
    rw [List.mem_append, mem_pairsT]
    constructor
    · rintro (h | ⟨i, j, x, y, hij, hi, hj, ht, e⟩)
      · obtain ⟨y, hy, e⟩ := List.mem_map.1 h
        obtain ⟨hy1, hy2⟩ := List.mem_filter.1 hy
        obtain ⟨j, hj⟩ := List.getElem?_of_mem hy1
        exact ⟨0, j + 1, z, y, by omega, rfl, by simpa using hj, by simpa using hy2, e.symm⟩
      · exact ⟨i + 1, j + 1, x, y, by omega, by simpa using hi, by simpa using hj, ht, e⟩
    · rintro ⟨i, j, x, y, hij, hi, hj, ht, e⟩
      obtain ⟨j, rfl⟩ : ∃ k, j = k + 1 := ⟨j - 1, by omega⟩
      have hj : L[j]? = some y := by simpa using hj
      cases i with
      | zero =>
        have hx : z = x := by simpa using hi
        subst hx
        exact .inl (List.mem_map.2 ⟨y, List.mem_filter.2 ⟨List.mem_of_getElem? hj, by simpa using ht⟩, e.symm⟩)
      | succ i => exact .inr ⟨i, j, x, y, by omega, by simpa using hi, hj, ht, e⟩
theorem pairs_iff {l : List KA} {i j : Nat} : (i, j) ∈ (pairsA l).map pairN ↔ i < j ∧ ∃ a b, l[i]? = some a ∧ l[j]? = some b ∧ touchA a b := by
  rw [pairsA_eq, List.mem_map]
  constructor
  · rintro ⟨p, hp, e⟩
    obtain ⟨i', j', x, y, hij, hi, hj, ht, rfl⟩ := mem_pairsT.1 hp
    rw [things_get] at hi hj
    cases hl : l[i']? with
    | none => rw [hl] at hi; cases hi
    | some a =>
      cases hm : l[j']? with
      | none => rw [hm] at hj; cases hj
      | some b =>
        rw [hl] at hi; rw [hm] at hj
        have ex := (Option.some.inj hi).symm
        have ey := (Option.some.inj hj).symm
        subst ex; subst ey
        unfold pairN mkP at e
        simp only [Prod.mk.injEq] at e
        obtain ⟨e1, e2⟩ := e
        have g1 : i = i' := by omega
        have g2 : j = j' := by omega
        subst g1; subst g2
        exact ⟨hij, a, b, hl, hm, ht⟩
  · rintro ⟨hij, a, b, hi, hj, ht⟩
    refine ⟨mkP ⟨((0 + i : Nat) : Int), a⟩ ⟨((0 + j : Nat) : Int), b⟩, mem_pairsT.2 ⟨i, j, _, _, hij, by rw [things_get, hi]; rfl, by rw [things_get, hj]; rfl, ht, rfl⟩, ?_⟩
    unfold pairN mkP
    simp only [Prod.mk.injEq]
    omega
/-! each is in one class -/
theorem first_of {E : Nat → Nat → Prop} (hs : ∀ i j, E i j → E j i) : ∀ i, ∃ f, f ≤ i ∧ Conn E f i ∧ ∀ k, k < f → ¬ Conn E k f := by
  intro i
  induction i using Nat.strongRecOn with
  | _ i ih =>
    by_cases h : ∃ k, k < i ∧ Conn E k i
    · obtain ⟨k, hk, hc⟩ := h
      obtain ⟨f, h1, h2, h3⟩ := ih k hk
      exact ⟨f, by omega, h2.trans hc, h3⟩
    · exact ⟨i, Nat.le_refl _, .refl, fun k hk hc => h ⟨k, hk, hc⟩⟩
theorem mem_firsts {E : Nat → Nat → Prop} {n f : Nat} : f ∈ firsts E n n ↔ f < n ∧ ∀ k, k < f → ¬ Conn E k f := by
  classical
  unfold firsts; rw [List.mem_filter, List.mem_range, decide_eq_true_eq]
theorem firsts_sorted (E : Nat → Nat → Prop) (n : Nat) : (firsts E n n).Pairwise (· < ·) := List.pairwise_lt_range.filter _
theorem classes_get {E : Nat → Nat → Prop} {n k : Nat} {c : List Nat} (h : (classes E n)[k]? = some c) : ∃ f, (firsts E n n)[k]? = some f ∧ c = classOf E n f := by
  unfold classes at h
  rw [List.getElem?_map] at h
  cases hf : (firsts E n n)[k]? with
  | none => rw [hf] at h; cases h
  | some f => rw [hf] at h; exact ⟨f, rfl, (Option.some.inj h).symm⟩
/-- each i lies in a class -/
theorem class_some {E : Nat → Nat → Prop} (hs : ∀ i j, E i j → E j i) {n i : Nat} (hi : i < n) : ∃ (k : Nat) (c : List Nat), (classes E n)[k]? = some c ∧ i ∈ c := by
  obtain ⟨f, h1, h2, h3⟩ := first_of hs i
  obtain ⟨k, hk⟩ := List.getElem?_of_mem (mem_firsts.2 ⟨show f < n by omega, h3⟩)
  exact ⟨k, classOf E n f, by unfold classes; rw [List.getElem?_map, hk]; rfl, class_mem.2 ⟨hi, h2⟩⟩
/-- two that are in classes are joined just if the classes are the same -/
theorem class_same {E : Nat → Nat → Prop} (hs : ∀ i j, E i j → E j i) {n i j k l : Nat} {c d : List Nat} (hc : (classes E n)[k]? = some c) (hd : (classes E n)[l]? = some d) (hi : i ∈ c) (hj : j ∈ d) : k = l ↔ Conn E i j := by
  obtain ⟨f, hf, rfl⟩ := classes_get hc
  obtain ⟨g, hg, rfl⟩ := classes_get hd
  have c1 := (class_mem.1 hi).2
  have c2 := (class_mem.1 hj).2
  constructor
  · rintro rfl
    rw [hf] at hg; injection hg with e; subst e
    exact (c1.symm hs).trans c2
  · intro h
    have hfg : Conn E f g := (c1.trans h).trans (c2.symm hs)
    have m1 := (mem_firsts.1 (List.mem_of_getElem? hf)).2
    have m2 := (mem_firsts.1 (List.mem_of_getElem? hg)).2
    have e : f = g := by
      rcases Nat.lt_trichotomy f g with q | q | q
      · exact absurd hfg (m2 f q)
      · exact q
      · exact absurd (hfg.symm hs) (m1 g q)
    subst e
    obtain ⟨k1, e1⟩ := List.getElem?_eq_some_iff.1 hf
    obtain ⟨k2, e2⟩ := List.getElem?_eq_some_iff.1 hg
    have hp := List.pairwise_iff_getElem.1 (firsts_sorted E n)
    rcases Nat.lt_trichotomy k l with q | q | q
    · have := hp k l k1 k2 q; omega
    · exact q
    · have := hp l k k2 k1 q; omega
end Go.Isl

namespace Go.Isl
open Go.Sl Go.Brd Go.Stp Go.Proofs
/-- the index of the list that has x -/
def placeI (xss : List (List Int)) (x : Int) : Int := idxI (fun r => decide (x ∈ r)) xss
theorem place_none {xss : List (List Int)} {x : Int} (h : ∀ r ∈ xss, ¬ x ∈ r) : placeI xss x = -1 := by
  unfold placeI idxI
  rw [List.findIdx?_eq_none_iff.2 (fun r hr => by simpa using h r hr)]
theorem place_at {xss : List (List Int)} {k : Nat} {x : Int} {r : List Int} (hr : xss[k]? = some r) (hx : x ∈ r) (h : ∀ r ∈ xss.take k, ¬ x ∈ r) : placeI xss x = ((k : Nat) : Int) :=
  idx_found hr (by simpa using hx) (fun y hy => by simpa using h y hy)
end Go.Isl
namespace Go.Proofs
open Go Go.Sl Go.Brd Go.Stp Go.Isl

end Go.Proofs

namespace Go.Isl
open Go.Sl Go.Brd Go.Stp Go.Proofs
theorem idAt_inj {fb : List KB} (ho : ordB fb) {i j : Nat} (hi : i < fb.length) (hj : j < fb.length) (h : idAt fb i = idAt fb j) : i = j := by
  rcases Nat.lt_trichotomy i j with q | q | q
  · have := idAt_lt ho q hj; omega
  · exact q
  · have := idAt_lt ho q hi; omega
/-- the lists of a scene's islands -/
noncomputable abbrev listsC (fb : List KB) (E : Nat → Nat → Prop) : List (List Int) := (classes E fb.length).map fun c => c.map (idAt fb)
theorem class_lt {E : Nat → Nat → Prop} {n k : Nat} {c : List Nat} (h : (classes E n)[k]? = some c) {i : Nat} (hi : i ∈ c) : i < n := by
  obtain ⟨f, _, rfl⟩ := classes_get h
  exact (class_mem.1 hi).1
theorem place_class {fb : List KB} {E : Nat → Nat → Prop} (hs : ∀ i j, E i j → E j i) (ho : ordB fb) {k i : Nat} {c : List Nat} (hk : (classes E fb.length)[k]? = some c) (hi : i ∈ c) : placeI (listsC fb E) (idAt fb i) = ((k : Nat) : Int) := by
  refine place_at (r := c.map (idAt fb)) (by unfold listsC; rw [List.getElem?_map, hk]; rfl) (List.mem_map.2 ⟨i, hi, rfl⟩) fun r hr hx => ?_
  obtain ⟨l, hl⟩ := List.getElem?_of_mem hr
  have hlk : l < k := by
    have := (List.getElem?_eq_some_iff.1 hl).1
    rw [List.length_take] at this; omega
  rw [List.getElem?_take_of_lt hlk] at hl
  unfold listsC at hl
  rw [List.getElem?_map] at hl
  cases hd : (classes E fb.length)[l]? with
  | none => rw [hd] at hl; cases hl
  | some d =>
    rw [hd] at hl
    have e := (Option.some.inj hl).symm
    subst e
    obtain ⟨j, hj, e⟩ := List.mem_map.1 hx
    have := idAt_inj ho (class_lt hd hj) (class_lt hk hi) e
    subst this
    have := (class_same hs hd hk hj hi).2 .refl
    omega
theorem place_out {fb : List KB} {E : Nat → Nat → Prop} {x : Int} (h : ∀ b ∈ fb, b.id ≠ x) : placeI (listsC fb E) x = -1 := by
  refine place_none fun r hr hx => ?_
  obtain ⟨c, hc, rfl⟩ := List.mem_map.1 hr
  obtain ⟨i, hi, e⟩ := List.mem_map.1 hx
  obtain ⟨k, hk⟩ := List.getElem?_of_mem hc
  have hl := class_lt hk hi
  rw [idAt_eq (List.getElem?_eq_getElem hl)] at e
  exact h _ (List.getElem_mem hl) e
/-- links by the bodies themselves -/
theorem linkE_iff {fb : List KB} {rs : List KR} {gx gy : Int} {i j : Nat} (hij : i < j) : linkE fb rs gx gy i j ↔ (∃ a b, fb[i]? = some a ∧ fb[j]? = some b ∧ touchA (reachA a gx gy) (reachA b gx gy)) ∨ ∃ r ∈ rs, ropeN fb r = some (i, j) ∨ ropeN fb r = some (j, i) := by
  unfold linkE linksI
  rw [List.mem_append, List.mem_append, pairs_iff, pairs_iff, List.mem_filterMap, List.mem_filterMap]
  have key : (∃ a b, (reachL fb gx gy)[i]? = some a ∧ (reachL fb gx gy)[j]? = some b ∧ touchA a b) ↔ ∃ a b, fb[i]? = some a ∧ fb[j]? = some b ∧ touchA (reachA a gx gy) (reachA b gx gy) := by
    unfold reachL
    rw [List.getElem?_map, List.getElem?_map]
    constructor
    · rintro ⟨a, b, ha, hb, ht⟩
      obtain ⟨x, hx, rfl⟩ := Option.map_eq_some_iff.1 ha
      obtain ⟨y, hy, rfl⟩ := Option.map_eq_some_iff.1 hb
      exact ⟨x, y, hx, hy, ht⟩
    · rintro ⟨a, b, ha, hb, ht⟩
      exact ⟨_, _, by rw [ha]; rfl, by rw [hb]; rfl, ht⟩
  rw [key]
  constructor
  · rintro ((⟨_, h⟩ | ⟨r, hr, e⟩) | (⟨h, _⟩ | ⟨r, hr, e⟩))
    · exact .inl h
    · exact .inr ⟨r, hr, .inl e⟩
    · omega
    · exact .inr ⟨r, hr, .inr e⟩
  · rintro (h | ⟨r, hr, e | e⟩)
    · exact .inl (.inl ⟨hij, h⟩)
    · exact .inl (.inr ⟨r, hr, e⟩)
    · exact .inr (.inr ⟨r, hr, e⟩)
end Go.Isl

namespace Go.Isl
open Go.Sl Go.Brd Go.Stp Go.Proofs
noncomputable def CL (bs : List KB) (R : List KR) (gx gy : Int) : List (List Nat) := classes (linkE (freeB bs) R gx gy) (freeB bs).length
noncomputable def XL (bs : List KB) (R : List KR) (gx gy : Int) : List (List Int) := (CL bs R gx gy).map fun c => c.map (idAt (freeB bs))
theorem made_ord {bs : List KB} {R : List KR} {gx gy : Int} (hP : MadeP bs R gx gy) : ordB (freeB bs) := freeB_ord hP.ok.2.2.2.2.1
theorem xl_get {bs : List KB} {R : List KR} {gx gy : Int} {k : Nat} {r : List Int} {xl : List (List Int)} (hX : xl = XL bs R gx gy) (h : xl[k]? = some r) : ∃ c, (CL bs R gx gy)[k]? = some c ∧ r = c.map (idAt (freeB bs)) := by
  subst hX
  unfold XL at h
  rw [List.getElem?_map] at h
  obtain ⟨c, hc, e⟩ := Option.map_eq_some_iff.1 h
  exact ⟨c, hc, e.symm⟩
theorem class_head {E : Nat → Nat → Prop} (hs : ∀ i j, E i j → E j i) {n f : Nat} (h : f ∈ firsts E n n) : (classOf E n f)[0]? = some f := by
  obtain ⟨h1, h2⟩ := mem_firsts.1 h
  have hf : f ∈ classOf E n f := class_mem.2 ⟨h1, .refl⟩
  have hso := class_sorted E n f
  cases hc : classOf E n f with
  | nil => rw [hc] at hf; cases hf
  | cons a l =>
    rw [hc] at hf hso
    rcases List.mem_cons.1 hf with e | e
    · rw [e]; rfl
    · have := (List.pairwise_cons.1 hso).1 f e
      have ha : a ∈ classOf E n f := by rw [hc]; exact List.mem_cons_self
      exact absurd ((class_mem.1 ha).2.symm hs) (h2 a this)
/-! how many they are -/
theorem class_flat {E : Nat → Nat → Prop} (hs : ∀ i j, E i j → E j i) (n : Nat) : (classes E n).flatten.Perm (List.range n) := by
  refine (List.perm_ext_iff_of_nodup ?_ List.nodup_range).2 fun a => ?_
  · unfold List.Nodup
    rw [List.pairwise_flatten]
    refine ⟨fun l hl => ?_, ?_⟩
    · obtain ⟨k, hk⟩ := List.getElem?_of_mem hl
      obtain ⟨f, _, rfl⟩ := classes_get hk
      exact class_nodup E n f
    · rw [List.pairwise_iff_getElem]
      intro i j hi hj hij x hx y hy e
      subst e
      have := (class_same hs (List.getElem?_eq_getElem hi) (List.getElem?_eq_getElem hj) hx hy).2 .refl
      omega
  · rw [List.mem_flatten, List.mem_range]
    constructor
    · rintro ⟨c, hc, ha⟩
      obtain ⟨k, hk⟩ := List.getElem?_of_mem hc
      exact class_lt hk ha
    · intro h
      obtain ⟨k, c, hk, hc⟩ := class_some hs h
      exact ⟨c, List.mem_of_getElem? hk, hc⟩
/-! sides -/
def sideX (bits : Nat) (x : Int) : Bool := decide (bits / 2 ^ (min (x.toNat / 2) 16) % 2 = 1)
def sd (bs : List KB) (bits j : Nat) : Bool := sideX bits (idAt (freeB bs) j)
structure InnP (bs : List KB) (R : List KR) (gx gy : Int) (bits : Nat) (inn : List Int) (m : Nat) : Prop where
  len : inn.length = (CL bs R gx gy).length
  at_ : ∀ (i : Nat) (c : List Nat), (CL bs R gx gy)[i]? = some c → inn[i]? = some (((c.filter fun j => decide (j < m) && sd bs bits j).length : Nat) : Int)
structure CrP (bs : List KB) (R : List KR) (gx gy : Int) (bits : Nat) (cr : List Bool) (m q : Nat) : Prop where
  len : cr.length = (CL bs R gx gy).length
  at_ : ∀ (i : Nat) (c : List Nat), (CL bs R gx gy)[i]? = some c → ∀ p r : Nat, p ∈ c → p < r → r < (freeB bs).length → (p < m ∨ p = m ∧ r < q) → linkE (freeB bs) R gx gy p r → sd bs bits p ≠ sd bs bits r → cr[i]? = some true
theorem conn_cross {E : Nat → Nat → Prop} {s : Nat → Bool} {i j : Nat} (h : Conn E i j) (hs : s i ≠ s j) : ∃ p r, Conn E i p ∧ E p r ∧ s p ≠ s r := by
  induction h with
  | refl => exact absurd rfl hs
  | @step j k h1 h2 ih =>
    by_cases e : s i = s j
    · exact ⟨j, k, h1, h2, fun q => hs (e.trans q)⟩
    · exact ih e
theorem link_lt {bs : List KB} {R : List KR} {gx gy : Int} {p r : Nat} (hP : MadeP bs R gx gy) (h : linkE (freeB bs) R gx gy p r) : p < (freeB bs).length ∧ r < (freeB bs).length ∧ p ≠ r := by
  have hl := links_in (gx := gx) (gy := gy) (made_ord hP) (rs := R) fun r hr => (hP.ok.2.2.2.2.2 r hr).2.2.1
  rcases h with h | h
  · exact hl _ h
  · have := hl _ h; exact ⟨this.2.1, this.1, fun e => this.2.2 e.symm⟩
/-- an island that has bodies of both sides is crossed -/
theorem crossed {bs : List KB} {R : List KR} {gx gy : Int} {bits k : Nat} {xl : List (List Int)} {inn : List Int} {cr : List Bool} {r : List Int} {v : Int} {y : Bool} (hP : MadeP bs R gx gy) (hX : xl = XL bs R gx gy) (hi : InnP bs R gx gy bits inn (freeB bs).length) (hc : CrP bs R gx gy bits cr (freeB bs).length 0) (hr : xl[k]? = some r) (hv : inn[k]? = some v) (hy : cr[k]? = some y) (h0 : 0 < v) (h1 : v < ((r.length : Nat) : Int)) : y = true := by
  obtain ⟨c, hk, rfl⟩ := xl_get hX hr
  obtain ⟨f, _, e⟩ := classes_get hk
  have hlt : ∀ j ∈ c, j < (freeB bs).length := fun j hj => class_lt hk hj
  have h2 := hi.at_ k c hk
  rw [hv] at h2
  have h2 := Option.some.inj h2
  rw [List.length_map] at h1
  have hex : ∃ j ∈ c, sd bs bits j = true := by
    have hp : 0 < (c.filter fun j => decide (j < (freeB bs).length) && sd bs bits j).length := by omega
    obtain ⟨j, hj⟩ := List.exists_mem_of_length_pos hp
    obtain ⟨g1, g2⟩ := List.mem_filter.1 hj
    exact ⟨j, g1, by simpa using (Bool.and_eq_true _ _ ▸ g2).2⟩
  have hex2 : ∃ j ∈ c, sd bs bits j = false := by
    refine Classical.byContradiction fun hno => ?_
    have : (c.filter fun j => decide (j < (freeB bs).length) && sd bs bits j) = c := by
      rw [List.filter_eq_self]
      intro j hj
      cases hs : sd bs bits j
      · exact absurd ⟨j, hj, hs⟩ hno
      · rw [decide_eq_true (hlt j hj)]; rfl
    rw [this] at h2; omega
  obtain ⟨i, hi1, hi2⟩ := hex
  obtain ⟨j, hj1, hj2⟩ := hex2
  have hcn : Conn (linkE (freeB bs) R gx gy) i j := (class_same linkE_symm hk hk hi1 hj1).1 rfl
  obtain ⟨p, q, g1, g2, g3⟩ := conn_cross (s := sd bs bits) hcn (by rw [hi2, hj2]; decide)
  obtain ⟨g4, g5, g6⟩ := link_lt hP g2
  have hin : ∀ z, z < (freeB bs).length → Conn (linkE (freeB bs) R gx gy) i z → z ∈ c := fun z hz hcz => by
    rw [e] at hi1 ⊢; exact class_mem.2 ⟨hz, (class_mem.1 hi1).2.trans hcz⟩
  have hpc := hin p g4 g1
  have hqc := hin q g5 (g1.step g2)
  have : cr[k]? = some true := by
    rcases Nat.lt_or_gt_of_ne g6 with h | h
    · exact hc.at_ k c hk p q hpc h g5 (.inl g4) g2 g3
    · exact hc.at_ k c hk q p hqc h g4 (.inl g5) (linkE_symm _ _ g2) fun z => g3 z.symm
  rw [this] at hy
  exact (Option.some.inj hy).symm
/-! what the law takes for a link -/
theorem rope_at {fb : List KB} {r : KR} {i j : Nat} {a b : KB} (ho : ordB fb) (ha : fb[i]? = some a) (hb : fb[j]? = some b) : ropeN fb r = some (i, j) ↔ r.a = a.id ∧ r.b = b.id := by
  have found : ∀ {k : Nat} {x : KB} {z : Int}, fb[k]? = some x → z = x.id → (findB fb z).isSome = true ∧ lbN fb z = k := fun {k x z} hx e => by
    have h1 : (findB fb z).isSome = true := by
      unfold findB; rw [List.find?_isSome]; exact ⟨x, List.mem_of_getElem? hx, by simp [e]⟩
    obtain ⟨b', hb', e'⟩ := lb_in ho h1
    refine ⟨h1, idAt_inj ho (List.getElem?_eq_some_iff.1 hb').1 (List.getElem?_eq_some_iff.1 hx).1 ?_⟩
    rw [idAt_eq hb', idAt_eq hx, e', e]
  unfold ropeN
  constructor
  · intro h
    split at h
    · rename_i h1
      obtain ⟨a', ha', ea⟩ := lb_in ho h1.1
      obtain ⟨b', hb', eb⟩ := lb_in ho h1.2
      have h2 := Option.some.inj h
      injection h2 with h3 h4
      rw [h3, ha] at ha'; rw [h4, hb] at hb'
      injection ha' with ha'; injection hb' with hb'
      subst ha' hb'
      exact ⟨ea.symm, eb.symm⟩
    · cases h
  · rintro ⟨e1, e2⟩
    obtain ⟨g1, g2⟩ := found ha e1
    obtain ⟨g3, g4⟩ := found hb e2
    rw [if_pos ⟨g1, g3⟩, g2, g4]
end Go.Isl

namespace Go.Isl
open Go.Sl Go.Brd Go.Stp Go.Proofs
/-- what can be come to by steps of E -/
inductive CnI (E : Int → Int → Prop) (x : Int) : Int → Prop
  | refl : CnI E x x
  | step {y z : Int} : CnI E x y → E y z → CnI E x z
theorem CnI.trans {E : Int → Int → Prop} {x y z : Int} (h : CnI E x y) (g : CnI E y z) : CnI E x z := by
  induction g with
  | refl => exact h
  | step _ e ih => exact ih.step e
theorem CnI.symm {E : Int → Int → Prop} (hs : ∀ x y, E x y → E y x) {x y : Int} (h : CnI E x y) : CnI E y x := by
  induction h with
  | refl => exact .refl
  | step _ e ih => exact (CnI.step .refl (hs _ _ e)).trans ih
theorem CnI.mono {E F : Int → Int → Prop} {x y : Int} (h : ∀ y z, CnI E x y → E y z → F y z) (c : CnI E x y) : CnI F x y := by
  induction c with
  | refl => exact .refl
  | step c e ih => exact ih.step (h _ _ c e)
theorem CnI.same {E F : Int → Int → Prop} {x y : Int} (h : ∀ y z, CnI E x y → (E y z ↔ F y z)) : CnI E x y ↔ CnI F x y := by
  refine ⟨CnI.mono fun y z c e => (h y z c).1 e, fun c => ?_⟩
  induction c with
  | refl => exact .refl
  | step _ e ih => exact ih.step ((h _ _ ih).2 e)
/-- two bodies that move are linked: by their names -/
def LkI (fb : List KB) (rs : List KR) (gx gy : Int) (x y : Int) : Prop := x ≠ y ∧ ∃ a ∈ fb, ∃ b ∈ fb, a.id = x ∧ b.id = y ∧ (touchA (reachA a gx gy) (reachA b gx gy) ∨ ∃ r ∈ rs, (r.a = x ∧ r.b = y) ∨ (r.a = y ∧ r.b = x))
theorem touch_symm {a b : KA} (h : touchA a b) : touchA b a := ⟨h.2.1, h.1, h.2.2.2, h.2.2.1⟩
theorem LkI.symm {fb : List KB} {rs : List KR} {gx gy x y : Int} (h : LkI fb rs gx gy x y) : LkI fb rs gx gy y x := by
  obtain ⟨h1, a, ha, b, hb, e1, e2, h⟩ := h
  exact ⟨fun e => h1 e.symm, b, hb, a, ha, e2, e1, h.imp touch_symm fun ⟨r, hr, q⟩ => ⟨r, hr, q.symm⟩⟩
theorem link_id {fb : List KB} {rs : List KR} {gx gy : Int} {i j : Nat} {a b : KB} (ho : ordB fb) (hr : ∀ r ∈ rs, r.a < r.b) (hi : fb[i]? = some a) (hj : fb[j]? = some b) : linkE fb rs gx gy i j ↔ LkI fb rs gx gy a.id b.id := by
  have main : ∀ {i j : Nat} {a b : KB}, i < j → fb[i]? = some a → fb[j]? = some b → (linkE fb rs gx gy i j ↔ LkI fb rs gx gy a.id b.id) := fun {i j a b} hij hi hj => by
    have hlt := ho.lt hij hi hj
    rw [linkE_iff hij]
    constructor
    · rintro (⟨a', b', ha', hb', h⟩ | ⟨r, hr', h | h⟩)
      · rw [hi] at ha'; rw [hj] at hb'
        injection ha' with ha'; injection hb' with hb'
        subst ha' hb'
        exact ⟨by omega, a, List.mem_of_getElem? hi, b, List.mem_of_getElem? hj, rfl, rfl, .inl h⟩
      · exact ⟨by omega, a, List.mem_of_getElem? hi, b, List.mem_of_getElem? hj, rfl, rfl, .inr ⟨r, hr', .inl ((rope_at ho hi hj).1 h)⟩⟩
      · exact ⟨by omega, a, List.mem_of_getElem? hi, b, List.mem_of_getElem? hj, rfl, rfl, .inr ⟨r, hr', .inr ((rope_at ho hj hi).1 h)⟩⟩
    · rintro ⟨_, a', ha', b', hb', e1, e2, h⟩
      obtain ⟨i', hi'⟩ := List.getElem?_of_mem ha'
      obtain ⟨j', hj'⟩ := List.getElem?_of_mem hb'
      have h1 : i' = i := idAt_inj ho (List.getElem?_eq_some_iff.1 hi').1 (List.getElem?_eq_some_iff.1 hi).1 (by rw [idAt_eq hi', idAt_eq hi, e1])
      have h2 : j' = j := idAt_inj ho (List.getElem?_eq_some_iff.1 hj').1 (List.getElem?_eq_some_iff.1 hj).1 (by rw [idAt_eq hj', idAt_eq hj, e2])
      subst h1 h2
      rw [hi] at hi'; rw [hj] at hj'
      injection hi' with hi'; injection hj' with hj'
      subst hi' hj'
      rcases h with h | ⟨r, hr', h | h⟩
      · exact .inl ⟨_, _, hi, hj, h⟩
      · exact .inr ⟨r, hr', .inl ((rope_at ho hi hj).2 h)⟩
      · exact .inr ⟨r, hr', .inr ((rope_at ho hj hi).2 h)⟩
  rcases Nat.lt_trichotomy i j with h | h | h
  · exact main h hi hj
  · subst h
    rw [hi] at hj
    obtain rfl := Option.some.inj hj
    have hl := links_in (gx := gx) (gy := gy) ho hr
    exact ⟨fun q => by rcases q with q | q <;> exact absurd rfl (hl _ q).2.2, fun q => absurd rfl q.1⟩
  · exact ⟨fun q => ((main h hj hi).1 (linkE_symm _ _ q)).symm, fun q => linkE_symm _ _ ((main h hj hi).2 q.symm)⟩
theorem conn_id {fb : List KB} {rs : List KR} {gx gy : Int} {i j : Nat} {a b : KB} (ho : ordB fb) (hr : ∀ r ∈ rs, r.a < r.b) (hi : fb[i]? = some a) (hj : fb[j]? = some b) : Conn (linkE fb rs gx gy) i j ↔ CnI (LkI fb rs gx gy) a.id b.id := by
  have hl := links_in (gx := gx) (gy := gy) ho hr
  constructor
  · intro h
    induction h generalizing b with
    | refl => rw [hi] at hj; obtain rfl := Option.some.inj hj; exact .refl
    | @step k l h1 h2 ih =>
      have hk : k < fb.length := by rcases h2 with q | q <;> have := hl _ q <;> omega
      exact (ih (List.getElem?_eq_getElem hk)).step ((link_id ho hr (List.getElem?_eq_getElem hk) hj).1 h2)
  · intro h
    have key : ∀ {y : Int}, CnI (LkI fb rs gx gy) a.id y → ∀ {j b}, fb[j]? = some b → b.id = y → Conn (linkE fb rs gx gy) i j := by
      intro y h
      induction h with
      | refl =>
        intro j b hj e
        have := idAt_inj ho (List.getElem?_eq_some_iff.1 hj).1 (List.getElem?_eq_some_iff.1 hi).1 (by rw [idAt_eq hj, idAt_eq hi, e])
        subst this; exact .refl
      | @step y z h1 h2 ih =>
        intro j b hj e
        obtain ⟨_, a', ha', _, _, e1, _, _⟩ := id h2
        obtain ⟨k, hk⟩ := List.getElem?_of_mem ha'
        exact (ih hk e1).step ((link_id ho hr hk hj).2 (by rw [e1, e]; exact h2))
    exact key h hj rfl
open Classical in
/-- the island of x, by names -/
noncomputable def clsI (fb : List KB) (rs : List KR) (gx gy : Int) (x : Int) : List Int := (fb.map (·.id)).filter fun y => decide (CnI (LkI fb rs gx gy) x y)
theorem ids_range (fb : List KB) : (List.range fb.length).map (idAt fb) = fb.map (·.id) := by
  refine List.ext_getElem (by simp) fun i h1 h2 => ?_
  rw [List.getElem_map, List.getElem_map, List.getElem_range]
  exact idAt_eq (List.getElem?_eq_getElem _)
theorem class_ids {fb : List KB} {rs : List KR} {gx gy : Int} {f : Nat} {a : KB} (ho : ordB fb) (hr : ∀ r ∈ rs, r.a < r.b) (hf : fb[f]? = some a) : (classOf (linkE fb rs gx gy) fb.length f).map (idAt fb) = clsI fb rs gx gy a.id := by
  unfold classOf clsI
  rw [← ids_range, List.filter_map]
  congr 1
  refine List.filter_congr fun j hj => ?_
  have hj := List.mem_range.1 hj
  refine decide_eq_decide.2 ?_
  rw [conn_id ho hr hf (List.getElem?_eq_getElem hj), ← idAt_eq (List.getElem?_eq_getElem hj)]
theorem cls_mem {fb : List KB} {rs : List KR} {gx gy x y : Int} (hx : x ∈ fb.map (·.id)) : y ∈ clsI fb rs gx gy x ↔ CnI (LkI fb rs gx gy) x y := by
  classical
  unfold clsI
  rw [List.mem_filter, decide_eq_true_eq]
  refine ⟨fun h => h.2, fun h => ⟨?_, h⟩⟩
  cases h with
  | refl => exact hx
  | step _ e => obtain ⟨_, _, _, b, hb, _, e2, _⟩ := e; exact List.mem_map.2 ⟨b, hb, e2⟩
theorem ids_sorted {fb : List KB} (ho : ordB fb) : (fb.map (·.id)).Pairwise (· < ·) := List.pairwise_map.2 (ordB_pair ho)
theorem cls_sorted {fb : List KB} {rs : List KR} {gx gy x : Int} (ho : ordB fb) : (clsI fb rs gx gy x).Pairwise (· < ·) := (ids_sorted ho).filter _
theorem sorted_ext {α : Type} {R : α → α → Prop} (hi : ∀ a, ¬ R a a) (ha : ∀ a b, R a b → ¬ R b a) : ∀ {l m : List α}, l.Pairwise R → m.Pairwise R → (∀ x, x ∈ l ↔ x ∈ m) → l = m
  | [], [], _, _, _ => rfl
  | [], b :: m, _, _, h => absurd ((h b).2 List.mem_cons_self) List.not_mem_nil
  | a :: l, [], _, _, h => absurd ((h a).1 List.mem_cons_self) List.not_mem_nil
  | a :: l, b :: m, hl, hm, h => by
    obtain ⟨l1, l2⟩ := List.pairwise_cons.1 hl
    obtain ⟨m1, m2⟩ := List.pairwise_cons.1 hm
    have e : a = b := by
      rcases List.mem_cons.1 ((h a).1 List.mem_cons_self) with e | e
      · exact e
      · rcases List.mem_cons.1 ((h b).2 List.mem_cons_self) with e2 | e2
        · exact e2.symm
        · exact absurd (m1 a e) (ha _ _ (l1 b e2))
    subst e
    congr 1
    refine sorted_ext hi ha l2 m2 fun x => ⟨fun hx => ?_, fun hx => ?_⟩
    · rcases List.mem_cons.1 ((h x).1 (List.mem_cons_of_mem _ hx)) with e | e
      · subst e; exact absurd (l1 x hx) (hi x)
      · exact e
    · rcases List.mem_cons.1 ((h x).2 (List.mem_cons_of_mem _ hx)) with e | e
      · subst e; exact absurd (m1 x hx) (hi x)
      · exact e
theorem ints_ext {l m : List Int} (hl : l.Pairwise (· < ·)) (hm : m.Pairwise (· < ·)) (h : ∀ x, x ∈ l ↔ x ∈ m) : l = m := sorted_ext (fun a => by omega) (fun a b => by omega) hl hm h
def headLt (r q : List Int) : Prop := ∃ a b, r[0]? = some a ∧ q[0]? = some b ∧ a < b
theorem lists_ext {l m : List (List Int)} (hl : l.Pairwise headLt) (hm : m.Pairwise headLt) (h : ∀ x, x ∈ l ↔ x ∈ m) : l = m :=
  sorted_ext (fun a ⟨x, y, h1, h2, h3⟩ => by rw [h1] at h2; injection h2 with h2; omega) (fun a b ⟨x, y, h1, h2, h3⟩ ⟨z, w, h4, h5, h6⟩ => by
    rw [h2] at h4; rw [h1] at h5; injection h4 with h4; injection h5 with h5; omega) hl hm h
/-- of one scene: the islands of bodies that are joined -/
theorem cls_of {fb : List KB} {rs : List KR} {gx gy x y : Int} (ho : ordB fb) (hx : x ∈ fb.map (·.id)) (h : y ∈ clsI fb rs gx gy x) : y ∈ fb.map (·.id) ∧ clsI fb rs gx gy y = clsI fb rs gx gy x := by
  have hy : y ∈ fb.map (·.id) := (List.mem_filter.1 h).1
  have hc := (cls_mem hx).1 h
  exact ⟨hy, ints_ext (cls_sorted ho) (cls_sorted ho) fun z => by rw [cls_mem hy, cls_mem hx]; exact ⟨fun q => hc.trans q, fun q => (hc.symm fun _ _ => LkI.symm).trans q⟩⟩
theorem cls_self {fb : List KB} {rs : List KR} {gx gy x : Int} (hx : x ∈ fb.map (·.id)) : x ∈ clsI fb rs gx gy x := (cls_mem hx).2 .refl
/-- a scene whose islands are xl -/
structure IsS (fb : List KB) (rs : List KR) (gx gy : Int) (xl : List (List Int)) : Prop where
  ord : ordB fb
  rope : ∀ r ∈ rs, r.a < r.b
  eq : xl = listsC fb (linkE fb rs gx gy)
theorem IsS.mem {fb : List KB} {rs : List KR} {gx gy : Int} {xl : List (List Int)} (h : IsS fb rs gx gy xl) (r : List Int) : r ∈ xl ↔ ∃ x ∈ fb.map (·.id), r = clsI fb rs gx gy x := by
  rw [h.eq]
  constructor
  · intro hr
    obtain ⟨c, hc, rfl⟩ := List.mem_map.1 hr
    obtain ⟨f, hf, rfl⟩ := List.mem_map.1 hc
    have hl := (mem_firsts.1 hf).1
    have hg := List.getElem?_eq_getElem hl
    exact ⟨_, List.mem_map.2 ⟨_, List.getElem_mem hl, rfl⟩, class_ids h.ord h.rope hg⟩
  · rintro ⟨x, hx, rfl⟩
    obtain ⟨a, ha, rfl⟩ := List.mem_map.1 hx
    obtain ⟨i, hi⟩ := List.getElem?_of_mem ha
    have hil := (List.getElem?_eq_some_iff.1 hi).1
    obtain ⟨f, hfi, hc, hmin⟩ := first_of (E := linkE fb rs gx gy) linkE_symm i
    have hfl : f < fb.length := by omega
    have hg := List.getElem?_eq_getElem hfl
    refine List.mem_map.2 ⟨classOf (linkE fb rs gx gy) fb.length f, List.mem_map.2 ⟨f, mem_firsts.2 ⟨hfl, hmin⟩, rfl⟩, ?_⟩
    show (classOf _ _ f).map (idAt fb) = _
    rw [class_ids h.ord h.rope hg]
    have := (conn_id h.ord h.rope hg hi).1 hc
    exact (cls_of h.ord (List.mem_map.2 ⟨_, List.getElem_mem hfl, rfl⟩) ((cls_mem (List.mem_map.2 ⟨_, List.getElem_mem hfl, rfl⟩)).2 this)).2.symm
theorem IsS.heads {fb : List KB} {rs : List KR} {gx gy : Int} {xl : List (List Int)} (h : IsS fb rs gx gy xl) : xl.Pairwise headLt := by
  rw [h.eq]
  unfold listsC classes
  rw [List.pairwise_map, List.pairwise_map]
  refine List.Pairwise.imp_of_mem (fun {f g} hf hg hfg => ?_) (firsts_sorted (linkE fb rs gx gy) fb.length)
  refine ⟨idAt fb f, idAt fb g, ?_, ?_, idAt_lt h.ord hfg (mem_firsts.1 hg).1⟩
  · rw [List.getElem?_map, class_head linkE_symm hf]; rfl
  · rw [List.getElem?_map, class_head linkE_symm hg]; rfl
/-- where a body is placed stands its island -/
theorem IsS.place {fb : List KB} {rs : List KR} {gx gy x : Int} {xl : List (List Int)} (h : IsS fb rs gx gy xl) (hx : x ∈ fb.map (·.id)) : ∃ k : Nat, placeI xl x = ((k : Nat) : Int) ∧ xl[k]? = some (clsI fb rs gx gy x) := by
  obtain ⟨a, ha, rfl⟩ := List.mem_map.1 hx
  obtain ⟨i, hi⟩ := List.getElem?_of_mem ha
  obtain ⟨k, c, hk, hc⟩ := class_some (E := linkE fb rs gx gy) linkE_symm (List.getElem?_eq_some_iff.1 hi).1
  have h1 := place_class linkE_symm h.ord hk hc
  rw [idAt_eq hi] at h1
  refine ⟨k, by rw [h.eq]; exact h1, ?_⟩
  rw [h.eq]; unfold listsC
  rw [List.getElem?_map, hk]
  show some (c.map (idAt fb)) = _
  obtain ⟨f, hf, rfl⟩ := classes_get hk
  have hfl := (mem_firsts.1 (List.mem_of_getElem? hf)).1
  have hg := List.getElem?_eq_getElem hfl
  have hfm : (fb[f]).id ∈ fb.map (·.id) := List.mem_map.2 ⟨_, List.getElem_mem hfl, rfl⟩
  rw [class_ids h.ord h.rope hg]
  congr 1
  exact (cls_of h.ord hfm ((cls_mem hfm).2 ((conn_id h.ord h.rope hg hi).1 (class_mem.1 hc).2))).2.symm
theorem IsS.out {fb : List KB} {rs : List KR} {gx gy x : Int} {xl : List (List Int)} (h : IsS fb rs gx gy xl) (hx : ¬ x ∈ fb.map (·.id)) : placeI xl x = -1 := by
  rw [h.eq]
  exact place_out fun b hb e => hx (List.mem_map.2 ⟨b, hb, e⟩)
/-- an island stands where its bodies are placed -/
theorem IsS.at_ {fb : List KB} {rs : List KR} {gx gy x : Int} {xl : List (List Int)} {i : Nat} {r : List Int} (h : IsS fb rs gx gy xl) (hi : xl[i]? = some r) (hx : x ∈ r) : x ∈ fb.map (·.id) ∧ r = clsI fb rs gx gy x ∧ placeI xl x = ((i : Nat) : Int) := by
  obtain ⟨z, hz, e⟩ := (h.mem r).1 (List.mem_of_getElem? hi)
  rw [e] at hx
  obtain ⟨h1, h2⟩ := cls_of h.ord hz hx
  refine ⟨h1, by rw [e, h2], ?_⟩
  obtain ⟨k, hk, hk2⟩ := h.place h1
  rw [hk]
  have e2 : r = clsI fb rs gx gy x := by rw [e, h2]
  have hp := h.heads
  rw [List.pairwise_iff_getElem] at hp
  obtain ⟨g1, g2⟩ := List.getElem?_eq_some_iff.1 hi
  obtain ⟨g3, g4⟩ := List.getElem?_eq_some_iff.1 hk2
  have irr : ∀ q : List Int, ¬ headLt q q := fun q ⟨a, b, h1, h2, h3⟩ => by rw [h1] at h2; injection h2 with h2; omega
  rcases Nat.lt_trichotomy i k with q | q | q
  · have := hp i k g1 g3 q
    rw [g2, g4, e2] at this
    exact absurd this (irr _)
  · rw [q]
  · have := hp k i g3 g1 q
    rw [g2, g4, e2] at this
    exact absurd this (irr _)
theorem IsS.first {fb : List KB} {rs : List KR} {gx gy : Int} {xl : List (List Int)} {i : Nat} {r : List Int} (h : IsS fb rs gx gy xl) (hi : xl[i]? = some r) : 0 < r.length := by
  obtain ⟨z, hz, e⟩ := (h.mem r).1 (List.mem_of_getElem? hi)
  have := cls_self (rs := rs) (gx := gx) (gy := gy) hz
  rw [← e] at this
  exact List.length_pos_of_mem this
/-- two scenes that have the same bodies, and whose bodies are joined alike, have the same islands -/
theorem IsS.ext {fb fb' : List KB} {rs rs' : List KR} {gx gy gx' gy' : Int} {xl xl' : List (List Int)} (h : IsS fb rs gx gy xl) (h' : IsS fb' rs' gx' gy' xl') (he : ∀ r, (∃ x ∈ fb.map (·.id), r = clsI fb rs gx gy x) ↔ ∃ x ∈ fb'.map (·.id), r = clsI fb' rs' gx' gy' x) : xl = xl' :=
  lists_ext h.heads h'.heads fun r => by rw [h.mem, h'.mem]; exact he r
theorem IsS.of {bs : List KB} {rs : List KR} {gx gy : Int} {xl : List (List Int)} (h : okS bs rs gx gy) (e : xl = islR bs rs gx gy) : IsS (freeB bs) rs gx gy xl :=
  ⟨freeB_ord h.2.2.2.2.1, fun r hr => (h.2.2.2.2.2 r hr).2.2.1, by rw [e, islR, if_pos h]; exact islX_eq h⟩
end Go.Isl
