/-
  What Islands answers are the classes of the bodies that are linked. Own work; plain Lean.
-/
import Derived.Test.YtoijanalppaplaaIs7
namespace Go.Isl
open Go.Sl Go.Brd Go.Stp Go.Proofs
/-- two bodies are linked: by their indices among those that move -/
def linkE (fb : List KB) (rs : List KR) (gx gy : Int) (i j : Nat) : Prop := (i, j) ∈ linksI fb rs gx gy ∨ (j, i) ∈ linksI fb rs gx gy
theorem linkE_symm {fb : List KB} {rs : List KR} {gx gy : Int} (i j : Nat) (h : linkE fb rs gx gy i j) : linkE fb rs gx gy j i := h.symm
theorem near_iff {fb : List KB} {rs : List KR} {gx gy : Int} (ho : ordB fb) (hr : ∀ r ∈ rs, r.a < r.b) (i k : Nat) : linkE fb rs gx gy i k ↔ k ∈ (nearI fb rs gx gy).getD i [] := by
  have hl := links_in (gx := gx) (gy := gy) ho hr
  unfold nearI
  rw [joinAll_mem (linksI fb rs gx gy) _ (fun p hp => by rw [List.length_replicate]; exact hl p hp)]
  have he : ¬ k ∈ (List.replicate fb.length ([] : List Nat)).getD i [] := fun h => by
    rw [List.getD_eq_getElem?_getD, List.getElem?_replicate] at h
    split at h <;> simp at h
  constructor
  · exact .inr
  · exact fun h => h.resolve_left he
theorem idAt_lt {fb : List KB} (ho : ordB fb) {i j : Nat} (hij : i < j) (hj : j < fb.length) : idAt fb i < idAt fb j := by
  rw [idAt_eq (List.getElem?_eq_getElem (show i < fb.length by omega)), idAt_eq (List.getElem?_eq_getElem hj)]
  exact ho.lt hij (List.getElem?_eq_getElem (by omega)) (List.getElem?_eq_getElem hj)
theorem All2.maps {α β γ : Type} {R : α → β → Prop} {f : α → γ} {g : β → γ} {l : List α} {m : List β} (h : All2 R l m) (hg : ∀ b ∈ m, ∀ a, R a b → f a = g b) : l.map f = m.map g := by
  induction h with
  | nil => rfl
  | cons h1 _ ih =>
    rw [List.map_cons, List.map_cons, hg _ List.mem_cons_self _ h1, ih fun b hb a => hg b (List.mem_cons_of_mem _ hb) a]
/-- the islands, by the classes of links -/
theorem islX_eq {bs : List KB} {rs : List KR} {gx gy : Int} (h : okS bs rs gx gy) : islX bs rs gx gy = (classes (linkE (freeB bs) rs gx gy) (freeB bs).length).map fun c => c.map (idAt (freeB bs)) := by
  obtain ⟨h1, h2, h3, h4, h5, h6⟩ := h
  have hfo := freeB_ord h5
  have hrr : ∀ r ∈ rs, r.a < r.b := fun r hr => (h6 r hr).2.2.1
  have hin := near_in (gx := gx) (gy := gy) hfo hrr
  have hc := isl_classes hin (E := linkE (freeB bs) rs gx gy) (near_iff hfo hrr) linkE_symm _ (Nat.le_refl _)
  refine hc.maps fun c hc a ha => ?_
  obtain ⟨i, hi, rfl⟩ := List.mem_map.1 hc
  refine sortI_eq (ha.map _) ?_
  rw [List.pairwise_map]
  have hs := class_sorted (linkE (freeB bs) rs gx gy) (freeB bs).length i
  refine List.Pairwise.imp_of_mem (fun {x y} hx hy hxy => ?_) hs
  exact Int.le_of_lt (idAt_lt hfo hxy (class_mem.1 hy).1)
/-- the pairs of indices that Pairs answers are those of areas that touch -/
theorem mem_pairsT {p : KP} : ∀ {L : List KT}, p ∈ pairsT L ↔ ∃ (i j : Nat) (x y : KT), i < j ∧ L[i]? = some x ∧ L[j]? = some y ∧ touchA x.ar y.ar ∧ p = mkP x y
  | [] => by simp [pairsT]
  | z :: L => by
    show p ∈ hitsT z L ++ pairsT L ↔ _
    rw [List.mem_append, mem_pairsT]
    constructor
    · rintro (h | ⟨i, j, x, y, hij, hi, hj, ht, e⟩)
      · obtain ⟨y, hy, e⟩ := List.mem_map.1 h
        obtain ⟨hy1, hy2⟩ := List.mem_filter.1 hy
        obtain ⟨j, hj⟩ := List.getElem?_of_mem hy1
        exact ⟨0, j + 1, z, y, by omega, rfl, by simpa using hj, by simpa using hy2, e.symm⟩
      · exact ⟨i + 1, j + 1, x, y, by omega, by simpa using hi, by simpa using hj, ht, e⟩
    · rintro ⟨i, j, x, y, hij, hi, hj, ht, e⟩
      obtain ⟨j, rfl⟩ : ∃ k, j = k + 1 := ⟨j - 1, by omega⟩
      have hj : L[j]? = some y := by simpa using hj
      cases i with
      | zero =>
        have hx : z = x := by simpa using hi
        subst hx
        exact .inl (List.mem_map.2 ⟨y, List.mem_filter.2 ⟨List.mem_of_getElem? hj, by simpa using ht⟩, e.symm⟩)
      | succ i => exact .inr ⟨i, j, x, y, by omega, by simpa using hi, hj, ht, e⟩
theorem pairs_iff {l : List KA} {i j : Nat} : (i, j) ∈ (pairsA l).map pairN ↔ i < j ∧ ∃ a b, l[i]? = some a ∧ l[j]? = some b ∧ touchA a b := by
  rw [pairsA_eq, List.mem_map]
  constructor
  · rintro ⟨p, hp, e⟩
    obtain ⟨i', j', x, y, hij, hi, hj, ht, rfl⟩ := mem_pairsT.1 hp
    rw [things_get] at hi hj
    cases hl : l[i']? with
    | none => rw [hl] at hi; cases hi
    | some a =>
      cases hm : l[j']? with
      | none => rw [hm] at hj; cases hj
      | some b =>
        rw [hl] at hi; rw [hm] at hj
        have ex := (Option.some.inj hi).symm
        have ey := (Option.some.inj hj).symm
        subst ex; subst ey
        unfold pairN mkP at e
        simp only [Prod.mk.injEq] at e
        obtain ⟨e1, e2⟩ := e
        have g1 : i = i' := by omega
        have g2 : j = j' := by omega
        subst g1; subst g2
        exact ⟨hij, a, b, hl, hm, ht⟩
  · rintro ⟨hij, a, b, hi, hj, ht⟩
    refine ⟨mkP ⟨((0 + i : Nat) : Int), a⟩ ⟨((0 + j : Nat) : Int), b⟩, mem_pairsT.2 ⟨i, j, _, _, hij, by rw [things_get, hi]; rfl, by rw [things_get, hj]; rfl, ht, rfl⟩, ?_⟩
    unfold pairN mkP
    simp only [Prod.mk.injEq]
    omega
/-! each is in one class -/
theorem first_of {E : Nat → Nat → Prop} (hs : ∀ i j, E i j → E j i) : ∀ i, ∃ f, f ≤ i ∧ Conn E f i ∧ ∀ k, k < f → ¬ Conn E k f := by
  intro i
  induction i using Nat.strongRecOn with
  | _ i ih =>
    by_cases h : ∃ k, k < i ∧ Conn E k i
    · obtain ⟨k, hk, hc⟩ := h
      obtain ⟨f, h1, h2, h3⟩ := ih k hk
      exact ⟨f, by omega, h2.trans hc, h3⟩
    · exact ⟨i, Nat.le_refl _, .refl, fun k hk hc => h ⟨k, hk, hc⟩⟩
theorem mem_firsts {E : Nat → Nat → Prop} {n f : Nat} : f ∈ firsts E n n ↔ f < n ∧ ∀ k, k < f → ¬ Conn E k f := by
  classical
  unfold firsts; rw [List.mem_filter, List.mem_range, decide_eq_true_eq]
theorem firsts_sorted (E : Nat → Nat → Prop) (n : Nat) : (firsts E n n).Pairwise (· < ·) := List.pairwise_lt_range.filter _
theorem classes_get {E : Nat → Nat → Prop} {n k : Nat} {c : List Nat} (h : (classes E n)[k]? = some c) : ∃ f, (firsts E n n)[k]? = some f ∧ c = classOf E n f := by
  unfold classes at h
  rw [List.getElem?_map] at h
  cases hf : (firsts E n n)[k]? with
  | none => rw [hf] at h; cases h
  | some f => rw [hf] at h; exact ⟨f, rfl, (Option.some.inj h).symm⟩
/-- each i lies in a class -/
theorem class_some {E : Nat → Nat → Prop} (hs : ∀ i j, E i j → E j i) {n i : Nat} (hi : i < n) : ∃ (k : Nat) (c : List Nat), (classes E n)[k]? = some c ∧ i ∈ c := by
  obtain ⟨f, h1, h2, h3⟩ := first_of hs i
  obtain ⟨k, hk⟩ := List.getElem?_of_mem (mem_firsts.2 ⟨show f < n by omega, h3⟩)
  exact ⟨k, classOf E n f, by unfold classes; rw [List.getElem?_map, hk]; rfl, class_mem.2 ⟨hi, h2⟩⟩
/-- two that are in classes are joined just if the classes are the same -/
theorem class_same {E : Nat → Nat → Prop} (hs : ∀ i j, E i j → E j i) {n i j k l : Nat} {c d : List Nat} (hc : (classes E n)[k]? = some c) (hd : (classes E n)[l]? = some d) (hi : i ∈ c) (hj : j ∈ d) : k = l ↔ Conn E i j := by
  obtain ⟨f, hf, rfl⟩ := classes_get hc
  obtain ⟨g, hg, rfl⟩ := classes_get hd
  have c1 := (class_mem.1 hi).2
  have c2 := (class_mem.1 hj).2
  constructor
  · rintro rfl
    rw [hf] at hg; injection hg with e; subst e
    exact (c1.symm hs).trans c2
  · intro h
    have hfg : Conn E f g := (c1.trans h).trans (c2.symm hs)
    have m1 := (mem_firsts.1 (List.mem_of_getElem? hf)).2
    have m2 := (mem_firsts.1 (List.mem_of_getElem? hg)).2
    have e : f = g := by
      rcases Nat.lt_trichotomy f g with q | q | q
      · exact absurd hfg (m2 f q)
      · exact q
      · exact absurd (hfg.symm hs) (m1 g q)
    subst e
    obtain ⟨k1, e1⟩ := List.getElem?_eq_some_iff.1 hf
    obtain ⟨k2, e2⟩ := List.getElem?_eq_some_iff.1 hg
    have hp := List.pairwise_iff_getElem.1 (firsts_sorted E n)
    rcases Nat.lt_trichotomy k l with q | q | q
    · have := hp k l k1 k2 q; omega
    · exact q
    · have := hp l k k2 k1 q; omega
end Go.Isl
