/-
  The reference's Differ: the IDs found one after the other, in increasing order. Own work; plain Lean.
-/
import Derived.Test.YtbfidhbcojbklaaGreatDgTells
namespace Go.Proofs
open Go Go.Sl
/-- what may come next behind 'out' -/
def nxt (x y : KWorld) (out : List Int) (z : Int) : Prop := (∀ o ∈ out, o < z) ∧ ¬ dg x.ents z = dg y.ents z
structure Found (x y : KWorld) (out : List Int) : Prop where
  sw : out.Pairwise (· < ·)
  mem : ∀ z ∈ out, ¬ dg x.ents z = dg y.ents z
  all : ∀ z, ¬ dg x.ents z = dg y.ents z → z ∈ out ∨ ∀ o ∈ out, o < z
theorem Found.start (x y : KWorld) : Found x y [] := ⟨.nil, by simp, by simp⟩
theorem Found.done {x y : KWorld} {out : List Int} (h : Found x y out) (hn : ∀ e ∈ x.ents ++ y.ents, ¬ nxt x y out e.id) : out = differU x y := by
  refine (differ_is h.sw fun z => ⟨h.mem z, fun hz => ?_⟩).symm
  rcases h.all z hz with h1 | h1
  · exact h1
  · by_cases hx : ∃ e ∈ x.ents, e.id = z
    · obtain ⟨e, he, rfl⟩ := hx
      exact absurd ⟨h1, hz⟩ (hn e (List.mem_append_left _ he))
    · by_cases hy : ∃ e ∈ y.ents, e.id = z
      · obtain ⟨e, he, rfl⟩ := hy
        exact absurd ⟨h1, hz⟩ (hn e (List.mem_append_right _ he))
      · refine absurd ?_ hz
        rw [dg_nil fun e he hz => hx ⟨e, he, hz⟩, dg_nil fun e he hz => hy ⟨e, he, hz⟩]
theorem Found.next {x y : KWorld} {out : List Int} {m : Int} (h : Found x y out) (hm : nxt x y out m) (hl : ∀ z, nxt x y out z → m ≤ z) : Found x y (out ++ [m]) := by
  refine ⟨List.pairwise_append.2 ⟨h.sw, by simp, fun a ha b hb => by rw [List.mem_singleton] at hb; subst hb; exact hm.1 a ha⟩, fun z hz => ?_, fun z hz => ?_⟩
  · rcases List.mem_append.1 hz with hz | hz
    · exact h.mem z hz
    · rw [List.mem_singleton] at hz; subst hz; exact hm.2
  · rcases h.all z hz with h1 | h1
    · exact .inl (List.mem_append_left _ h1)
    · have := hl z ⟨h1, hz⟩
      rcases Int.lt_or_eq_of_le this with h2 | h2
      · refine .inr fun o ho => ?_
        rcases List.mem_append.1 ho with ho | ho
        · exact h1 o ho
        · rw [List.mem_singleton] at ho; subst ho; exact h2
      · exact .inl (List.mem_append_right _ (by rw [h2]; exact List.mem_cons_self))
def left (al : List KEnt) (out : List Int) : Nat := (al.filter fun e => out.all fun o => decide (o < e.id)).length
theorem filter_lt {α : Type} {p q : α → Bool} {l : List α} (h : ∀ e ∈ l, q e = true → p e = true) {a : α} (ha : a ∈ l) (hp : p a = true) (hq : q a = false) : (l.filter q).length < (l.filter p).length := by
  induction l with
  | nil => cases ha
  | cons b l ih =>
    have hle : ∀ l' : List α, (∀ e ∈ l', q e = true → p e = true) → (l'.filter q).length ≤ (l'.filter p).length := by
      intro l'
      induction l' with
      | nil => intro _; simp
      | cons c l' ih2 =>
        intro h'
        have := ih2 fun e he => h' e (List.mem_cons_of_mem _ he)
        by_cases hc : q c = true
        · rw [List.filter_cons_of_pos hc, List.filter_cons_of_pos (h' c List.mem_cons_self hc)]; simp only [List.length_cons]; omega
        · rw [List.filter_cons_of_neg hc]
          by_cases hc2 : p c = true
          · rw [List.filter_cons_of_pos hc2]; simp only [List.length_cons]; omega
          · rw [List.filter_cons_of_neg hc2]; omega
    rcases List.mem_cons.1 ha with rfl | ha
    · rw [List.filter_cons_of_pos hp, List.filter_cons_of_neg (by rw [hq]; simp)]
      have := hle l fun e he => h e (List.mem_cons_of_mem _ he)
      simp only [List.length_cons]; omega
    · have := ih (fun e he => h e (List.mem_cons_of_mem _ he)) ha
      by_cases hc : q b = true
      · rw [List.filter_cons_of_pos hc, List.filter_cons_of_pos (h b List.mem_cons_self hc)]; simp only [List.length_cons]; omega
      · rw [List.filter_cons_of_neg hc]
        by_cases hc2 : p b = true
        · rw [List.filter_cons_of_pos hc2]; simp only [List.length_cons]; omega
        · rw [List.filter_cons_of_neg hc2]; omega
theorem left_lt {al : List KEnt} {out : List Int} {e : KEnt} (he : e ∈ al) (h : ∀ o ∈ out, o < e.id) : left al (out ++ [e.id]) < left al out := by
  refine filter_lt (fun f _ hq => ?_) he (by simpa using h) (by simp)
  rw [List.all_append] at hq
  simp only [Bool.and_eq_true] at hq
  exact hq.1
def bi : Option Nat → Int
  | none => -1
  | some b => (b : Int)
/-- the best index so far -/
def Best (x y : KWorld) (al : List KEnt) (out : List Int) (j : Nat) : Option Nat → Prop
  | none => ∀ (i : Nat) e, i < j → al[i]? = some e → ¬ nxt x y out e.id
  | some b => ∃ f, al[b]? = some f ∧ nxt x y out f.id ∧ ∀ (i : Nat) e, i < j → al[i]? = some e → nxt x y out e.id → f.id ≤ e.id
theorem Best.start (x y : KWorld) (al : List KEnt) (out : List Int) : Best x y al out 0 none := fun i e hi => by omega
theorem Best.skip {x y : KWorld} {al : List KEnt} {out : List Int} {j : Nat} {bo : Option Nat} (h : Best x y al out j bo) {e : KEnt} (he : al[j]? = some e) (hn : nxt x y out e.id → ∃ b f, bo = some b ∧ al[b]? = some f ∧ f.id ≤ e.id) : Best x y al out (j + 1) bo := by
  cases bo with
  | none =>
    intro i g hi hg
    rcases Nat.lt_or_eq_of_le (Nat.le_of_lt_succ hi) with h1 | rfl
    · exact h i g h1 hg
    · rw [he] at hg; injection hg with hg; subst hg
      intro hx
      obtain ⟨b, f, hb, _⟩ := hn hx
      cases hb
  | some b =>
    obtain ⟨f, hf, hf2, hf3⟩ := h
    refine ⟨f, hf, hf2, fun i g hi hg hx => ?_⟩
    rcases Nat.lt_or_eq_of_le (Nat.le_of_lt_succ hi) with h1 | rfl
    · exact hf3 i g h1 hg hx
    · rw [he] at hg; injection hg with hg; subst hg
      obtain ⟨b', f', hb, hf', hle⟩ := hn hx
      injection hb with hb; subst hb
      rw [hf] at hf'; injection hf' with hf'; subst hf'
      exact hle
theorem Best.take {x y : KWorld} {al : List KEnt} {out : List Int} {j : Nat} {bo : Option Nat} (h : Best x y al out j bo) {e : KEnt} (he : al[j]? = some e) (hx : nxt x y out e.id) (hb : ∀ b f, bo = some b → al[b]? = some f → e.id < f.id) : Best x y al out (j + 1) (some j) := by
  refine ⟨e, he, hx, fun i g hi hg hgx => ?_⟩
  rcases Nat.lt_or_eq_of_le (Nat.le_of_lt_succ hi) with h1 | rfl
  · cases bo with
    | none => exact absurd hgx (h i g h1 hg)
    | some b =>
      obtain ⟨f, hf, _, hf3⟩ := h
      have := hf3 i g h1 hg hgx
      have := hb b f rfl hf
      omega
  · rw [he] at hg; injection hg with hg; subst hg; exact Int.le_refl _
theorem nxt_ex {x y : KWorld} {out : List Int} {z : Int} (h : nxt x y out z) : ∃ e ∈ x.ents ++ y.ents, e.id = z := by
  by_cases hx : ∃ e ∈ x.ents, e.id = z
  · obtain ⟨e, he, rfl⟩ := hx; exact ⟨e, List.mem_append_left _ he, rfl⟩
  · by_cases hy : ∃ e ∈ y.ents, e.id = z
    · obtain ⟨e, he, rfl⟩ := hy; exact ⟨e, List.mem_append_right _ he, rfl⟩
    · refine absurd ?_ h.2
      rw [dg_nil fun e he hz => hx ⟨e, he, hz⟩, dg_nil fun e he hz => hy ⟨e, he, hz⟩]
theorem Best.least {x y : KWorld} {al : List KEnt} {out : List Int} {j b : Nat} (hal : al = x.ents ++ y.ents) (h : Best x y al out j (some b)) (hj : al.length ≤ j) {f : KEnt} (hf : al[b]? = some f) : nxt x y out f.id ∧ ∀ z, nxt x y out z → f.id ≤ z := by
  obtain ⟨f', hf', h1, h2⟩ := h
  rw [hf] at hf'; injection hf' with hf'; subst hf'
  refine ⟨h1, fun z hz => ?_⟩
  obtain ⟨e, he, rfl⟩ := nxt_ex hz
  rw [← hal] at he
  obtain ⟨i, hi⟩ := List.getElem?_of_mem he
  exact h2 i e (by have := (List.getElem?_eq_some_iff.1 hi).1; omega) hi hz
theorem Best.none' {x y : KWorld} {al : List KEnt} {out : List Int} {j : Nat} (hal : al = x.ents ++ y.ents) (h : Best x y al out j none) (hj : al.length ≤ j) : ∀ e ∈ x.ents ++ y.ents, ¬ nxt x y out e.id := fun e he => by
  rw [← hal] at he
  obtain ⟨i, hi⟩ := List.getElem?_of_mem he
  exact h i e (by have := (List.getElem?_eq_some_iff.1 hi).1; omega) hi
theorem ints_at {xs : List Int} {k : Nat} {l : Int} (h : xs[k]? = some l) : ((xs.map fun z => Ix z).drop (k * 1)).take 1 = [Ix l] := by
  obtain ⟨h1, h2⟩ := List.getElem?_eq_some_iff.1 h
  rw [Nat.mul_one, List.drop_eq_getElem_cons (by simpa using h1)]
  simp [h2]
theorem nodup_le : ∀ {l m : List Int}, l.Nodup → (∀ z ∈ l, z ∈ m) → l.length ≤ m.length
  | [], _, _, _ => by simp
  | a :: l, m, hn, hs => by
    rw [List.nodup_cons] at hn
    have ha : a ∈ m := hs a List.mem_cons_self
    have h1 := nodup_le (l := l) (m := m.erase a) hn.2 fun z hz => (List.mem_erase_of_ne (show z ≠ a from fun e => by subst e; exact hn.1 hz)).2 (hs z (List.mem_cons_of_mem _ hz))
    rw [List.length_erase_of_mem ha] at h1
    have := List.length_pos_of_mem ha
    simp only [List.length_cons]; omega
theorem left_le {x y : KWorld} {al : List KEnt} {out : List Int} (h : Found x y out) (hal : al = x.ents ++ y.ents) : out.length ≤ al.length := by
  have h1 := nodup_le (l := out) (m := al.map (·.id)) (h.sw.imp fun h => by omega) fun z hz => by
    have hz2 := h.mem z hz
    by_cases hx : ∃ e ∈ x.ents, e.id = z
    · obtain ⟨e, he, rfl⟩ := hx; exact List.mem_map.2 ⟨e, by rw [hal]; exact List.mem_append_left _ he, rfl⟩
    · by_cases hy : ∃ e ∈ y.ents, e.id = z
      · obtain ⟨e, he, rfl⟩ := hy; exact List.mem_map.2 ⟨e, by rw [hal]; exact List.mem_append_right _ he, rfl⟩
      · refine absurd ?_ hz2
        rw [dg_nil fun e he hz => hx ⟨e, he, hz⟩, dg_nil fun e he hz => hy ⟨e, he, hz⟩]
  simpa using h1
theorem last_lt {x y : KWorld} {out : List Int} (h : Found x y out) {l z : Int} (hl : out[out.length - 1]? = some l) (hz : l < z) : ∀ o ∈ out, o < z := by
  intro o ho
  obtain ⟨i, hi⟩ := List.getElem?_of_mem ho
  have hlt := (List.getElem?_eq_some_iff.1 hi).1
  rcases Nat.lt_or_eq_of_le (show i ≤ out.length - 1 by omega) with h1 | h1
  · have := List.pairwise_iff_getElem.1 h.sw i (out.length - 1) hlt (by omega) h1
    have e1 := (List.getElem?_eq_some_iff.1 hi).2
    have e2 := (List.getElem?_eq_some_iff.1 hl).2
    rw [e1, e2] at this
    omega
  · subst h1
    rw [hl] at hi
    injection hi with hi
    omega
theorem last_ge {out : List Int} {l z : Int} (hl : out[out.length - 1]? = some l) (hz : ¬ l < z) : ¬ ∀ o ∈ out, o < z := fun h => hz (h l (List.mem_of_getElem? hl))
end Go.Proofs
