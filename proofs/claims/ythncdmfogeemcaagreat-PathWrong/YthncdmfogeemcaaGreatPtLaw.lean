/-
  Pairs of rooms, meshes and what they are made of: plain facts. Own work; plain Lean.
-/
import Derived.Test.YthncdmfogeemcaaGreatPtDef
import Derived.Test.YthncdmfogeemcaaGreatPtLib
namespace Go.Pth
open Go.Sl Go.Brd
theorem vec_eq {a b c e : Int} : [Ix a, Ix b] = [Ix c, Ix e] ↔ a = c ∧ b = e := by simp
theorem thing_in {l : List KA} {t : KT} (h : t ∈ things l 0) : ∃ k : Nat, l[k]? = some t.ar ∧ t.id = k := by
  obtain ⟨k, hk⟩ := List.getElem?_of_mem h
  rw [things_get] at hk
  cases hl : l[k]? with
  | none => rw [hl] at hk; cases hk
  | some a => rw [hl] at hk; injection hk with hk; subst hk; exact ⟨k, hl, by simp⟩
/-- the pairs of rooms that meet: indices in order, both there -/
theorem pairs_two {l : List KA} {p : KP} (h : p ∈ pairsA l) : ∃ (i k : Nat) (a b : KA), i < k ∧ k < l.length ∧ l[i]? = some a ∧ l[k]? = some b ∧ p = ⟨(i : Int), (k : Int)⟩ ∧ touchA a b := by
  rw [pairsA_eq] at h
  have key : ∀ (L : List KT), (L.Pairwise fun x y => x.id < y.id) → ∀ p ∈ pairsT L, ∃ x ∈ L, ∃ y ∈ L, x.id < y.id ∧ p = ⟨x.id, y.id⟩ ∧ touchA x.ar y.ar := by
    intro L
    induction L with
    | nil => intro _ p hp; simp [pairsT] at hp
    | cons x L ih =>
      intro hx p hp
      obtain ⟨hx1, hx2⟩ := List.pairwise_cons.1 hx
      rcases List.mem_append.1 (show p ∈ hitsT x L ++ pairsT L from hp) with hp | hp
      · obtain ⟨y, hy, rfl⟩ := List.mem_map.1 hp
        obtain ⟨h1, h2⟩ := List.mem_filter.1 hy
        have := hx1 y h1
        exact ⟨x, List.mem_cons_self, y, List.mem_cons_of_mem _ h1, this, by unfold mkP; congr 1 <;> omega, by simpa using h2⟩
      · obtain ⟨a, ha, b, hb, e, t⟩ := ih hx2 p hp
        exact ⟨a, List.mem_cons_of_mem _ ha, b, List.mem_cons_of_mem _ hb, e, t⟩
  obtain ⟨x, hx, y, hy, h1, h2, h3⟩ := key _ (things_ids l 0) p h
  obtain ⟨i, hi, ei⟩ := thing_in hx
  obtain ⟨k, hk, ek⟩ := thing_in hy
  exact ⟨i, k, x.ar, y.ar, by omega, (List.getElem?_eq_some_iff.1 hk).1, hi, hk, by rw [h2, ei, ek], h3⟩
theorem gA_of {l : List KA} {i : Nat} {a : KA} (h : l[i]? = some a) : gA l (i : Int) = a := by
  unfold gA; rw [Int.toNat_natCast, List.getD_eq_getElem?_getD, h]; rfl
theorem comP_of {l : List KA} {i k : Nat} {a b : KA} (ha : l[i]? = some a) (hb : l[k]? = some b) : comP l ⟨(i : Int), (k : Int)⟩ = comA a b := by
  unfold comP; rw [gA_of ha, gA_of hb]
theorem comR_touch {a b : KA} (ha : okA a) (hb : okA b) (h : touchA a b) : comR a b = comA a b := if_pos ⟨ha, hb, (touch_com ha hb).2 h⟩
theorem pairsT_len2 : ∀ (l : List KT), (pairsT l).length ≤ l.length * l.length
  | [] => Nat.le_refl _
  | x :: l => by
    show (hitsT x l ++ pairsT l).length ≤ _
    have h1 := pairsT_len2 l
    have h2 : (hitsT x l).length ≤ l.length := by unfold hitsT; rw [List.length_map]; exact List.length_filter_le _ _
    rw [List.length_append, List.length_cons, Nat.add_mul, Nat.mul_add]; omega
theorem pairs_len {l : List KA} (h : l.length ≤ 64) : (pairsA l).length ≤ 4096 := by
  rw [pairsA_eq]
  have h1 := pairsT_len2 (things l 0)
  rw [things_len] at h1
  have h2 : l.length * l.length ≤ 64 * 64 := Nat.mul_le_mul h h
  omega
theorem portL_len {l : List KA} (h : l.length ≤ 64) : (portL l).length ≤ 4096 := Nat.le_trans (List.length_filterMap_le _ _) (pairs_len h)
theorem port_next {l : List KA} {k : Nat} {p : KP} (h : (pairsA l)[k]? = some p) : ((pairsA l).take (k + 1)).filterMap (portO l) = ((pairsA l).take k).filterMap (portO l) ++ (portO l p).toList := by
  rw [List.take_add_one, h, List.filterMap_append]
  show _ ++ [p].filterMap _ = _
  cases h2 : portO l p <;> simp [h2]
theorem room_next {l : List KA} {k : Nat} {a : KA} {x y : Int} (h : l[k]? = some a) : (List.range (k + 1)).filter (fun i => decide (hasP (l.getD i zeroA) x y)) = (List.range k).filter (fun i => decide (hasP (l.getD i zeroA) x y)) ++ if hasP a x y then [k] else [] := by
  rw [List.range_succ, List.filter_append]
  congr 1
  have : l.getD k zeroA = a := by rw [List.getD_eq_getElem?_getD, h]; rfl
  by_cases q : hasP a x y
  · simp only [List.filter_cons, List.filter_nil, this, decide_eq_true q, if_pos q, if_true]
  · simp only [List.filter_cons, List.filter_nil, this, decide_eq_false q, if_neg q, if_false, Bool.false_eq_true]
end Go.Pth
