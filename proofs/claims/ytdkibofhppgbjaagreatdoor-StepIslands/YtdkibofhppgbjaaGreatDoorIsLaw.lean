/-
  The islands of a scene, as the program finds them, in plain terms. Own work; plain Lean.
-/
import Derived.Test.YtdkibofhppgbjaaGreatDoorIs1
import Derived.Test.YtdkibofhppgbjaaGreatDoorIsSortI
namespace Go.Isl
open Go.Sl Go.Brd Go.Stp Go.Proofs
/-- the bodies that move -/
def freeB (bs : List KB) : List KB := bs.filter fun z => !z.fixed
def reachL (fb : List KB) (gx gy : Int) : List KA := fb.map fun b => reachA b gx gy
/-- two are joined -/
def joinN (ns : List (List Nat)) (a b : Nat) : List (List Nat) := (ns.set a (ns.getD a [] ++ [b])).set b (ns.getD b [] ++ [a])
def joinAll (ns : List (List Nat)) (L : List (Nat × Nat)) : List (List Nat) := L.foldl (fun ns p => joinN ns p.1 p.2) ns
def pairN (p : KP) : Nat × Nat := (p.a.toNat, p.b.toNat)
def ropeN (fb : List KB) (r : KR) : Option (Nat × Nat) := if (findB fb r.a).isSome ∧ (findB fb r.b).isSome then some (lbN fb r.a, lbN fb r.b) else none
def linksI (fb : List KB) (rs : List KR) (gx gy : Int) : List (Nat × Nat) := (pairsA (reachL fb gx gy)).map pairN ++ rs.filterMap (ropeN fb)
def nearI (fb : List KB) (rs : List KR) (gx gy : Int) : List (List Nat) := joinAll (List.replicate fb.length []) (linksI fb rs gx gy)
/-- the lists that Islands answers -/
def listsI (fb : List KB) (ns : List (List Nat)) : List (List Int) := (islF ns fb.length fb.length).2.map fun l => sortI (l.map (idAt fb))
def islX (bs : List KB) (rs : List KR) (gx gy : Int) : List (List Int) := listsI (freeB bs) (nearI (freeB bs) rs gx gy)
/-! in memory: neighbours are numbers -/
def zI (ns : List (List Nat)) : List (List Int) := ns.map fun l => l.map fun k => ((k : Nat) : Int)
theorem zI_len (ns : List (List Nat)) : (zI ns).length = ns.length := List.length_map _
theorem zI_get (ns : List (List Nat)) (i : Nat) : (zI ns).getD i [] = (ns.getD i []).map fun k => ((k : Nat) : Int) := by
  unfold zI
  rw [List.getD_eq_getElem?_getD, List.getD_eq_getElem?_getD, List.getElem?_map]
  cases ns[i]? <;> rfl
theorem zI_join (ns : List (List Nat)) (a b : Nat) : zI (joinN ns a b) = ((zI ns).set a ((zI ns).getD a [] ++ [(b : Int)])).set b ((zI ns).getD b [] ++ [(a : Int)]) := by
  unfold joinN
  rw [zI_get, zI_get]
  unfold zI
  rw [List.map_set, List.map_set, List.map_append, List.map_append]; rfl
theorem join_len (ns : List (List Nat)) (a b : Nat) : (joinN ns a b).length = ns.length := by unfold joinN; rw [List.length_set, List.length_set]
theorem joinAll_len (L : List (Nat × Nat)) : ∀ ns, (joinAll ns L).length = ns.length := by
  induction L with
  | nil => intro ns; rfl
  | cons p L ih => intro ns; show (joinAll (joinN ns p.1 p.2) L).length = _; rw [ih, join_len]
theorem joinAll_snoc (ns : List (List Nat)) (L : List (Nat × Nat)) (p : Nat × Nat) : joinAll ns (L ++ [p]) = joinN (joinAll ns L) p.1 p.2 := by unfold joinAll; rw [List.foldl_append]; rfl
theorem join_mem {ns : List (List Nat)} {a b i k : Nat} (ha : a < ns.length) (hb : b < ns.length) (hab : a ≠ b) : k ∈ (joinN ns a b).getD i [] ↔ k ∈ ns.getD i [] ∨ (i = a ∧ k = b) ∨ (i = b ∧ k = a) := by
  unfold joinN
  rw [List.getD_eq_getElem?_getD, List.getElem?_set]
  by_cases hib : b = i
  · subst hib
    rw [if_pos rfl, List.length_set, if_pos hb, Option.getD_some, List.mem_append, List.mem_singleton]
    constructor
    · rintro (h | h)
      · exact .inl h
      · exact .inr (.inr ⟨rfl, h⟩)
    · rintro (h | ⟨h, _⟩ | ⟨_, h⟩)
      · exact .inl h
      · exact absurd h.symm hab
      · exact .inr h
  · rw [if_neg hib, List.getElem?_set]
    by_cases hia : a = i
    · subst hia
      rw [if_pos rfl, if_pos ha, Option.getD_some, List.mem_append, List.mem_singleton]
      constructor
      · rintro (h | h)
        · exact .inl h
        · exact .inr (.inl ⟨rfl, h⟩)
      · rintro (h | ⟨_, h⟩ | ⟨h, _⟩)
        · exact .inl h
        · exact .inr h
        · exact absurd h.symm hib
    · rw [if_neg hia, ← List.getD_eq_getElem?_getD]
      constructor
      · exact .inl
      · rintro (h | ⟨h, _⟩ | ⟨h, _⟩)
        · exact h
        · exact absurd h.symm hia
        · exact absurd h.symm hib
theorem joinAll_mem {i k : Nat} (L : List (Nat × Nat)) : ∀ ns : List (List Nat), (∀ p ∈ L, p.1 < ns.length ∧ p.2 < ns.length ∧ p.1 ≠ p.2) → (k ∈ (joinAll ns L).getD i [] ↔ k ∈ ns.getD i [] ∨ (i, k) ∈ L ∨ (k, i) ∈ L) := by
  induction L with
  | nil => intro ns _; simp [joinAll]
  | cons p L ih =>
    intro ns h
    obtain ⟨h1, h2, h3⟩ := h p List.mem_cons_self
    show k ∈ (joinAll (joinN ns p.1 p.2) L).getD i [] ↔ _
    rw [ih _ (fun q hq => by rw [join_len]; exact h q (List.mem_cons_of_mem _ hq)), join_mem h1 h2 h3]
    obtain ⟨a, b⟩ := p
    simp only [List.mem_cons, Prod.mk.injEq]
    constructor
    · rintro ((h | ⟨h, g⟩ | ⟨h, g⟩) | h | h)
      · exact .inl h
      · exact .inr (.inl (.inl ⟨h, g⟩))
      · exact .inr (.inr (.inl ⟨g, h⟩))
      · exact .inr (.inl (.inr h))
      · exact .inr (.inr (.inr h))
    · rintro (h | (⟨h, g⟩ | h) | (⟨g, h⟩ | h))
      · exact .inl (.inl h)
      · exact .inl (.inr (.inl ⟨h, g⟩))
      · exact .inr (.inl h)
      · exact .inl (.inr (.inr ⟨h, g⟩))
      · exact .inr (.inr h)
/-! the reach of a valid body is an area -/
theorem reach_okA {b : KB} {gx gy : Int} (hb : okB b) (hv : okV gx gy) : okA (reachA b gx gy) := by
  obtain ⟨⟨h1, h2⟩, h3, h4⟩ := speed_bd b gx gy
  unfold reachA
  rw [if_pos ⟨hb, hv⟩]
  obtain ⟨b1, b2, b3, b4, b5, b6, b7, -, -⟩ := hb
  unfold okA okSpan
  simp only
  omega
theorem freeB_ok {bs : List KB} (h : ∀ b ∈ bs, okB b) : ∀ b ∈ freeB bs, okB b := fun b hb => h b (List.mem_filter.1 hb).1
theorem ordB_pair {bs : List KB} (h : ordB bs) : bs.Pairwise fun x y => x.id < y.id := by
  rw [List.pairwise_iff_getElem]
  intro i j hi hj hij
  exact h.lt hij (List.getElem?_eq_getElem hi) (List.getElem?_eq_getElem hj)
theorem pair_ordB {bs : List KB} (h : bs.Pairwise fun x y => x.id < y.id) : ordB bs := fun i a b ha hb => by
  obtain ⟨h1, e1⟩ := List.getElem?_eq_some_iff.1 ha
  obtain ⟨h2, e2⟩ := List.getElem?_eq_some_iff.1 hb
  have := (List.pairwise_iff_getElem.1 h) i (i + 1) h1 h2 (by omega)
  rwa [e1, e2] at this
theorem freeB_ord {bs : List KB} (h : ordB bs) : ordB (freeB bs) := pair_ordB ((ordB_pair h).filter _)
theorem freeB_len (bs : List KB) : (freeB bs).length ≤ bs.length := List.length_filter_le _ _
theorem reachL_len (fb : List KB) (gx gy : Int) : (reachL fb gx gy).length = fb.length := List.length_map _
theorem reachL_ok {fb : List KB} {gx gy : Int} (h : ∀ b ∈ fb, okB b) (hv : okV gx gy) : ∀ a ∈ reachL fb gx gy, okA a := fun a ha => by
  obtain ⟨b, hb, rfl⟩ := List.mem_map.1 ha
  exact reach_okA (h b hb) hv
theorem reach_next {fb : List KB} {gx gy : Int} {k : Nat} {b : KB} (hb : fb[k]? = some b) : reachL (fb.take k) gx gy ++ [reachA b gx gy] = reachL (fb.take (k + 1)) gx gy := by
  unfold reachL; rw [List.take_add_one, hb, List.map_append]; rfl
/-! pairs of areas as pairs of indices -/
theorem pairs_mem {l : List KA} {p : KP} (h : p ∈ pairsA l) : ∃ i k : Nat, i < k ∧ k < l.length ∧ p = ⟨(i : Int), (k : Int)⟩ := by
  rw [pairsA_eq] at h
  have key : ∀ (L : List KT) (n : Nat), (∀ j t, L[j]? = some t → t.id = ((n + j : Nat) : Int)) → ∀ p ∈ pairsT L, ∃ i k : Nat, n ≤ i ∧ i < k ∧ k < n + L.length ∧ p = ⟨(i : Int), (k : Int)⟩ := by
    intro L
    induction L with
    | nil => intro n _ p hp; simp [pairsT] at hp
    | cons x L ih =>
      intro n hx p hp
      rcases List.mem_append.1 (show p ∈ hitsT x L ++ pairsT L from hp) with hp | hp
      · obtain ⟨y, hy, rfl⟩ := List.mem_map.1 hp
        obtain ⟨j, hj⟩ := List.getElem?_of_mem (List.mem_filter.1 hy).1
        have e1 := hx 0 x rfl
        have e2 := hx (j + 1) y (by simpa using hj)
        have := (List.getElem?_eq_some_iff.1 hj).1
        refine ⟨n, n + (j + 1), Nat.le_refl _, by omega, by simp; omega, ?_⟩
        unfold mkP
        rw [e1, e2]
        congr 1 <;> omega
      · obtain ⟨i, k, h1, h2, h3, h4⟩ := ih (n + 1) (fun j t ht => by have := hx (j + 1) t (by simpa using ht); rw [this]; congr 1; omega) p hp
        exact ⟨i, k, by omega, h2, by simp; omega, h4⟩
  obtain ⟨i, k, _, h2, h3, h4⟩ := key (things l 0) 0 (fun j t ht => by
    rw [things_get] at ht
    cases hl : l[j]? with
    | none => rw [hl] at ht; cases ht
    | some a => rw [hl] at ht; injection ht with ht; rw [← ht]) p h
  rw [things_len] at h3
  exact ⟨i, k, h2, by omega, h4⟩
theorem lb_in {bs : List KB} {id : Int} (ho : ordB bs) (h : (findB bs id).isSome = true) : ∃ b, bs[lbN bs id]? = some b ∧ b.id = id := by
  obtain ⟨b, hb, e⟩ := findB_iff.1 h
  obtain ⟨i, hi⟩ := List.getElem?_of_mem hb
  have hl := (List.getElem?_eq_some_iff.1 hi).1
  have : lbN bs id = i := lb_eq (by omega) (fun t ht => by
    obtain ⟨c, hc⟩ : ∃ c, bs[t]? = some c := ⟨_, List.getElem?_eq_getElem (by omega)⟩
    rw [idAt_eq hc, ← e]; exact ho.lt ht hc hi) (fun _ => by rw [idAt_eq hi, e]; exact Int.le_refl _)
  rw [this]; exact ⟨b, hi, e⟩
theorem rope_in {fb : List KB} {r : KR} {p : Nat × Nat} (ho : ordB fb) (hlt : r.a < r.b) (h : ropeN fb r = some p) : p.1 < fb.length ∧ p.2 < fb.length ∧ p.1 ≠ p.2 := by
  unfold ropeN at h
  split at h
  · rename_i hh
    injection h with h
    subst h
    obtain ⟨x, h1, e1⟩ := lb_in ho hh.1
    obtain ⟨y, h2, e2⟩ := lb_in ho hh.2
    refine ⟨(List.getElem?_eq_some_iff.1 h1).1, (List.getElem?_eq_some_iff.1 h2).1, fun e => ?_⟩
    simp only at e
    rw [e, h2] at h1
    injection h1 with h1
    rw [← h1] at e1; omega
  · cases h
theorem links_in {fb : List KB} {rs : List KR} {gx gy : Int} (ho : ordB fb) (hr : ∀ r ∈ rs, r.a < r.b) : ∀ p ∈ linksI fb rs gx gy, p.1 < fb.length ∧ p.2 < fb.length ∧ p.1 ≠ p.2 := fun p hp => by
  rcases List.mem_append.1 hp with hp | hp
  · obtain ⟨q, hq, rfl⟩ := List.mem_map.1 hp
    obtain ⟨i, k, h1, h2, rfl⟩ := pairs_mem hq
    rw [reachL_len] at h2
    unfold pairN
    simp only
    omega
  · obtain ⟨r, h1, h2⟩ := List.mem_filterMap.1 hp
    exact rope_in ho (hr r h1) h2
end Go.Isl
