/-
  What Differ answers, by members: the IDs whose digests differ, in order. Own work; plain Lean.
-/
import Derived.Test.YtbfidhbcojbklaaGreatDgEnts
import Derived.Test.YtbfidhbcojbklaaGreatDg10
namespace Go.Proofs
open Go Go.Sl
theorem strict_ext : ∀ {l m : List Int}, l.Pairwise (· < ·) → m.Pairwise (· < ·) → (∀ z, z ∈ l ↔ z ∈ m) → l = m
  | [], [], _, _, _ => rfl
  | [], b :: m, _, _, h => absurd ((h b).2 List.mem_cons_self) (by simp)
  | a :: l, [], _, _, h => absurd ((h a).1 List.mem_cons_self) (by simp)
  | a :: l, b :: m, hl, hm, h => by
    rw [List.pairwise_cons] at hl hm
    have hab : a = b := by
      rcases List.mem_cons.1 ((h a).1 List.mem_cons_self) with e | e
      · exact e
      · rcases List.mem_cons.1 ((h b).2 List.mem_cons_self) with e' | e'
        · exact e'.symm
        · have := hm.1 a e; have := hl.1 b e'; omega
    subst hab
    rw [strict_ext hl.2 hm.2 fun z => ⟨fun hz => ?_, fun hz => ?_⟩]
    · rcases List.mem_cons.1 ((h z).1 (List.mem_cons_of_mem _ hz)) with e | e
      · have := hl.1 z hz; omega
      · exact e
    · rcases List.mem_cons.1 ((h z).2 (List.mem_cons_of_mem _ hz)) with e | e
      · have := hm.1 z hz; omega
      · exact e
theorem compact_sorted (zs : List Int) (hs : zs.Pairwise (· ≤ ·)) : (Lib.compact zs).Pairwise (· < ·) ∧ ∀ z, z ∈ Lib.compact zs ↔ z ∈ zs := by
  have hle : ∀ i j, i ≤ j → j < zs.length → zs.toArray[i]! ≤ zs.toArray[j]! := by
    intro i j hij hj
    rcases Nat.eq_or_lt_of_le hij with rfl | hlt
    · exact Int.le_refl _
    · have := List.pairwise_iff_getElem.1 hs i j (by omega) hj hlt
      rw [getElem!_pos zs.toArray i (by simp; omega), getElem!_pos zs.toArray j (by simp; omega)]
      simpa using this
  have key : ∀ m, m ≤ zs.length → (Lib.compactUpTo zs.toArray m).Pairwise (· < ·) ∧ ∀ z, z ∈ Lib.compactUpTo zs.toArray m ↔ ∃ j, j < m ∧ zs.toArray[j]! = z := by
    intro m
    induction m with
    | zero => intro _; exact ⟨by simp [Lib.compactUpTo], fun z => by simp [Lib.compactUpTo]⟩
    | succ m ih =>
      intro hm
      obtain ⟨h1, h2⟩ := ih (by omega)
      rw [Lib.compactUpTo_succ]
      by_cases hk : Lib.keeps zs.toArray m = true
      · rw [if_pos hk]
        have hk2 : m = 0 ∨ zs.toArray[m]! ≠ zs.toArray[m - 1]! := by simpa [Lib.keeps] using hk
        refine ⟨List.pairwise_append.2 ⟨h1, by simp, fun a ha b hb => ?_⟩, fun z => ?_⟩
        · obtain ⟨j, hj, rfl⟩ := (h2 a).1 ha
          rw [List.mem_singleton] at hb
          subst hb
          have g1 := hle j (m - 1) (by omega) (by omega)
          have g2 := hle (m - 1) m (by omega) (by omega)
          have : zs.toArray[m]! ≠ zs.toArray[m - 1]! := hk2.resolve_left (by omega)
          omega
        · rw [List.mem_append, h2, List.mem_singleton]
          constructor
          · rintro (⟨j, hj, e⟩ | rfl)
            · exact ⟨j, by omega, e⟩
            · exact ⟨m, by omega, rfl⟩
          · rintro ⟨j, hj, e⟩
            rcases Nat.lt_or_eq_of_le (Nat.le_of_lt_succ hj) with h | rfl
            · exact .inl ⟨j, h, e⟩
            · exact .inr e.symm
      · rw [if_neg hk, List.append_nil]
        have hk2 : ¬ (m = 0 ∨ zs.toArray[m]! ≠ zs.toArray[m - 1]!) := by simpa [Lib.keeps] using hk
        have hm0 : 0 < m := by omega
        have heq : zs.toArray[m]! = zs.toArray[m - 1]! := Decidable.not_not.1 fun h => hk2 (.inr h)
        refine ⟨h1, fun z => ?_⟩
        rw [h2]
        constructor
        · rintro ⟨j, hj, e⟩; exact ⟨j, by omega, e⟩
        · rintro ⟨j, hj, e⟩
          rcases Nat.lt_or_eq_of_le (Nat.le_of_lt_succ hj) with h | rfl
          · exact ⟨j, h, e⟩
          · exact ⟨j - 1, by omega, by rw [← heq]; exact e⟩
  obtain ⟨h1, h2⟩ := key zs.length (by omega)
  refine ⟨h1, fun z => ?_⟩
  rw [show Lib.compact zs = Lib.compactUpTo zs.toArray zs.length from rfl, h2, List.mem_iff_getElem]
  constructor
  · rintro ⟨j, hj, e⟩; exact ⟨j, hj, by rw [getElem!_pos zs.toArray j (by simpa using hj)] at e; simpa using e⟩
  · rintro ⟨j, hj, e⟩; exact ⟨j, hj, by rw [getElem!_pos zs.toArray j (by simpa using hj)]; simpa using e⟩
theorem dg_nil {es : List KEnt} {z : Int} (h : ∀ e ∈ es, e.id ≠ z) : dg es z = [] := by
  unfold dg
  rw [List.filter_eq_nil_iff.2 (fun e he => by simpa using h e he)]; rfl
theorem mem_dpick {x y : KWorld} {es : List KEnt} {z : Int} : z ∈ dpick x y es ↔ ¬ dg x.ents z = dg y.ents z ∧ ∃ e ∈ es, e.id = z := by
  unfold dpick
  rw [List.mem_map]
  constructor
  · rintro ⟨e, he, rfl⟩
    rw [List.mem_filter] at he
    exact ⟨by simpa using he.2, e, he.1, rfl⟩
  · rintro ⟨h1, e, he, rfl⟩
    exact ⟨e, List.mem_filter.2 ⟨he, by simpa using h1⟩, rfl⟩
theorem mem_outs {x y : KWorld} {z : Int} : z ∈ outsK x y 2 ↔ ¬ dg x.ents z = dg y.ents z := by
  show z ∈ dpick x y x.ents ++ dpick x y y.ents ↔ _
  rw [List.mem_append, mem_dpick, mem_dpick]
  constructor
  · rintro (⟨h, _⟩ | ⟨h, _⟩) <;> exact h
  · intro h
    by_cases h1 : ∃ e ∈ x.ents, e.id = z
    · exact .inl ⟨h, h1⟩
    · by_cases h2 : ∃ e ∈ y.ents, e.id = z
      · exact .inr ⟨h, h2⟩
      · refine absurd ?_ h
        rw [dg_nil fun e he hz => h1 ⟨e, he, hz⟩, dg_nil fun e he hz => h2 ⟨e, he, hz⟩]
theorem differ_members (x y : KWorld) : (differU x y).Pairwise (· < ·) ∧ ∀ z, z ∈ differU x y ↔ ¬ dg x.ents z = dg y.ents z := by
  have hp := List.pairwise_mergeSort (le := fun x y : Int => decide (x ≤ y)) (fun a b c h1 h2 => by simp at h1 h2 ⊢; omega) (fun a b => by simp; omega) (outsK x y 2)
  obtain ⟨h1, h2⟩ := compact_sorted _ (hp.imp fun h => by simpa using h)
  refine ⟨h1, fun z => ?_⟩
  show z ∈ Lib.compact _ ↔ _
  rw [h2, List.mem_mergeSort, mem_outs]
theorem differ_is {x y : KWorld} {l : List Int} (hl : l.Pairwise (· < ·)) (hm : ∀ z, z ∈ l ↔ ¬ dg x.ents z = dg y.ents z) : differU x y = l := by
  obtain ⟨h1, h2⟩ := differ_members x y
  exact strict_ext h1 hl fun z => (h2 z).trans (hm z).symm
theorem differ_symm (x y : KWorld) : differU x y = differU y x := differ_is (differ_members y x).1 fun z => ((differ_members y x).2 z).trans ⟨fun h e => h e.symm, fun h e => h e.symm⟩
theorem differ_same {x y : KWorld} (h : x.ents = y.ents) : differU x y = [] := differ_is List.Pairwise.nil fun z => by simp [h]
/-! one entity changed -/
theorem dg_append (es fs : List KEnt) (z : Int) : dg (es ++ fs) z = dg es z ++ dg fs z := by simp [dg]
theorem dg_one (e : KEnt) (z : Int) : dg [e] z = if e.id = z then [entU e] else [] := by
  unfold dg
  by_cases h : e.id = z <;> simp [h]
theorem split_at {es : List KEnt} {k : Nat} {a : KEnt} (h : es[k]? = some a) (b : KEnt) : es = es.take k ++ ([a] ++ es.drop (k + 1)) ∧ es.set k b = es.take k ++ ([b] ++ es.drop (k + 1)) := by
  have hlt := (List.getElem?_eq_some_iff.1 h).1
  have ha := (List.getElem?_eq_some_iff.1 h).2
  exact ⟨by rw [← ha]; simp, by rw [List.set_eq_take_append_cons_drop, if_pos hlt]; rfl⟩
theorem dg_set_iff {es : List KEnt} {k : Nat} {a b : KEnt} (h : es[k]? = some a) (z : Int) : dg es z = dg (es.set k b) z ↔ dg [a] z = dg [b] z := by
  obtain ⟨h1, h2⟩ := split_at h b
  rw [h2]
  conv => lhs; lhs; rw [h1]
  rw [dg_append, dg_append, dg_append, dg_append, List.append_cancel_left_eq, List.append_cancel_right_eq]
theorem differ_set {t t' : Int} {es : List KEnt} {k : Nat} {a b : KEnt} (h : es[k]? = some a) (hne : entU a ≠ entU b) :
    differU ⟨t, es⟩ ⟨t', es.set k b⟩ = if a.id = b.id then [a.id] else [min a.id b.id, max a.id b.id] := by
  refine differ_is ?_ fun z => ?_
  · split
    · simp
    · simp; omega
  · show _ ↔ ¬ dg es z = dg (es.set k b) z
    rw [dg_set_iff h, dg_one, dg_one]
    by_cases hab : a.id = b.id
    · rw [if_pos hab, List.mem_singleton]
      by_cases hz : a.id = z
      · rw [if_pos hz, if_pos (by omega)]
        simp [hz, hne]
      · rw [if_neg hz, if_neg (by omega)]
        simp; omega
    · rw [if_neg hab]
      simp only [List.mem_cons, List.not_mem_nil, or_false]
      by_cases hz : a.id = z
      · rw [if_pos hz, if_neg (by omega)]
        simp; omega
      · rw [if_neg hz]
        by_cases hz2 : b.id = z
        · rw [if_pos hz2]
          simp; omega
        · rw [if_neg hz2]
          simp; omega
end Go.Proofs
