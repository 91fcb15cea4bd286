/-
  Lent slices: their spare room holds marks. Own work; plain Lean.
-/
import Derived.Test.YtbfidhbcojbklaaGreatDgRef
import Derived.Test.YtbfidhbcojbklaaGreatSlFam
namespace Go.Proofs
open Go Go.Sl
def markC (i : Nat) : KComp := ⟨0, ((8000024 + i : Nat) : Int), 0, 0, 0⟩
def markE (i : Nat) : KEnt := ⟨((8000024 + i : Nat) : Int), []⟩
def marksC (k : Nat) : List KComp := (List.range k).map markC
def marksE (k : Nat) : List KEnt := (List.range k).map markE
theorem marksC_succ (k : Nat) : marksC (k + 1) = marksC k ++ [markC k] := by simp [marksC, List.range_succ]
theorem marksE_succ (k : Nat) : marksE (k + 1) = marksE k ++ [markE k] := by simp [marksE, List.range_succ]
theorem marksC_len (k : Nat) : (marksC k).length = k := by simp [marksC]
theorem marksE_len (k : Nat) : (marksE k).length = k := by simp [marksE]
def LSl (h : PHeap) (v : Value) (xs : List KComp) : Prop := ∃ p c, v = .slice p xs.length c ∧ xs.length + 12 ≤ c ∧ c ≤ 9223372036854775807 ∧ Elems CompR h p (xs ++ marksC 12)
theorem LSl.mono (v : Value) (xs : List KComp) : Mono (fun h => LSl h v xs) := fun h h' hs ⟨p, c, h1, h2, h3, h4⟩ => ⟨p, c, h1, h2, h3, Elems.mono CompR p _ h h' hs h4⟩
theorem Elems.left {α : Type} {R : Rp α} {h : PHeap} {a : Option Addr} {xs ys : List α} (he : Elems R h a (xs ++ ys)) : Elems R h a xs := fun j x hx => he j x (by rw [List.getElem?_append_left (List.getElem?_eq_some_iff.1 hx).1]; exact hx)
theorem LSl.sl {h : PHeap} {v : Value} {xs : List KComp} (hl : LSl h v xs) : Sl CompR h v xs := by
  obtain ⟨p, c, rfl, h1, h2, h3⟩ := hl
  exact ⟨p, c, rfl, by omega, h2, Elems.left h3⟩
/-- entities that were lent -/
def LEntR : Rp KEnt := ⟨2, fun h cs e => ∃ v, cs = [Ix e.id, v] ∧ LSl h v e.comps, fun _ _ _ ⟨_, e, _⟩ => by rw [e]; rfl, fun _ _ h h' hs ⟨v, e, hv⟩ => ⟨v, e, LSl.mono v _ h h' hs hv⟩⟩
def LESl (h : PHeap) (v : Value) (xs : List KEnt) : Prop := ∃ p c, v = .slice p xs.length c ∧ xs.length + 12 ≤ c ∧ c ≤ 9223372036854775807 ∧ Elems LEntR h p xs ∧ Elems EntR h p (xs ++ marksE 12)
theorem LESl.mono (v : Value) (xs : List KEnt) : Mono (fun h => LESl h v xs) := fun h h' hs ⟨p, c, h1, h2, h3, h4, h5⟩ => ⟨p, c, h1, h2, h3, Elems.mono LEntR p _ h h' hs h4, Elems.mono EntR p _ h h' hs h5⟩
theorem LESl.sl {h : PHeap} {v : Value} {xs : List KEnt} (hl : LESl h v xs) : Sl EntR h v xs := by
  obtain ⟨p, c, rfl, h1, h2, _, h3⟩ := hl
  exact ⟨p, c, rfl, by omega, h2, Elems.left h3⟩
theorem elems_comps {h : PHeap} {a : Option Addr} {xs : List KComp} (he : Elems CompR h a xs) : Cs h (ba a) (xs.flatMap compE) := by
  by_cases hx : xs = []
  · subst hx; intro j v hj; simp at hj
  · obtain ⟨x, rfl⟩ := elems_some hx he
    exact elems_cs he
theorem row_comps {v : Value} {n : Nat} {xs : List KComp} {a : PHeap} (hn : n = xs.length) (h : row v 38 5 n (xs.flatMap compE) a) : Sl CompR a v xs := by
  subst hn
  exact comp_row_sl (e := ⟨0, xs⟩) h
def lentRow (v : Value) (e : KEnt) : Res := fun h => ∃ p c, v = .slice p e.comps.length c ∧ row (.slice p (e.comps.length + 12) c) 38 5 (e.comps.length + 12) ((e.comps ++ marksC 12).flatMap compE) h
theorem lentRow.lsl {v : Value} {e : KEnt} {a : PHeap} (h : lentRow v e a) : LSl a v e.comps := by
  obtain ⟨p, c, rfl, hr⟩ := h
  obtain ⟨h1, h2, h3⟩ := sl_parts (row_comps (by simp [marksC_len]) hr)
  exact ⟨p, c, rfl, by simpa [marksC_len] using h1, h2, h3⟩
def lentRows : List Value → List KEnt → List Res
  | v :: vs, e :: es => lentRow v e :: lentRows vs es
  | _, _ => []
theorem lent_rows_append {vs us : List Value} {es fs : List KEnt} (h : vs.length = es.length) : lentRows (vs ++ us) (es ++ fs) = lentRows vs es ++ lentRows us fs := by
  induction vs generalizing es with
  | nil => cases es with
    | nil => rfl
    | cons e es => simp at h
  | cons v vs ih => cases es with
    | nil => simp at h
    | cons e es =>
      show lentRow v e :: lentRows (vs ++ us) (es ++ fs) = _
      rw [ih (by simpa using h)]; rfl
theorem lent_rows_snoc {es : List KEnt} {k : Nat} {e : KEnt} (hx : es[k]? = some e) {vs : List Value} {v : Value} (h : vs.length = k) (hk : k ≤ es.length) : (lentRow v e :: lentRows vs (es.take k)).Perm (lentRows (vs ++ [v]) (es.take (k + 1))) := by
  rw [take_succ hx, lent_rows_append (by simp; omega)]
  exact List.perm_append_comm (l₁ := [lentRow v e])
theorem lent_mem {vs : List Value} {es : List KEnt} {j : Nat} {v : Value} {e : KEnt} (hv : vs[j]? = some v) (he : es[j]? = some e) : lentRow v e ∈ lentRows vs es := by
  induction vs generalizing es j with
  | nil => cases hv
  | cons u vs ih =>
    cases es with
    | nil => cases he
    | cons f es =>
      cases j with
      | zero => injection hv with hv; injection he with he; subst hv; subst he; exact List.mem_cons_self
      | succ j => exact List.mem_cons_of_mem _ (ih (es := es) (by simpa using hv) (by simpa using he))
def nils (k : Nat) : List Value := List.replicate k (.slice none 0 0)
theorem nils_succ (k : Nat) : nils (k + 1) = nils k ++ [.slice none 0 0] := by simp [nils, List.replicate_succ']
theorem nils_len (k : Nat) : (nils k).length = k := by simp [nils]
/-- a lent row of entities, at a heap where all lies -/
theorem lent_ents {H : PHeap} {p : Option Addr} {n c : Nat} {vs : List Value} {es : List KEnt} (hl : vs.length = es.length) (hn : n = es.length + 12)
    (hr : ∃ a, Sub a H ∧ row (.slice p n c) 35 2 n (entCells (vs ++ nils 12) (es ++ marksE 12)) a) (hm : ∀ r ∈ lentRows vs es, ∃ a, Sub a H ∧ r a) : LESl H (.slice p es.length c) es := by
  subst hn
  obtain ⟨a, hs, hr⟩ := hr
  have hL : ∀ (j : Nat) v e, vs[j]? = some v → es[j]? = some e → LSl H v e.comps := fun j v e hv he => by
    obtain ⟨a2, hs2, h2⟩ := hm _ (lent_mem hv he)
    exact LSl.mono _ _ _ _ hs2 h2.lsl
  have hg : EGood H (vs ++ nils 12) (es ++ marksE 12) := by
    refine EGood.append ⟨hl, fun j v e hv he => (hL j v e hv he).sl⟩ ⟨by simp [nils_len, marksE_len], fun j v e hv he => ?_⟩
    have hj := (List.getElem?_eq_some_iff.1 hv).1
    rw [nils_len] at hj
    have h1 : v = .slice none 0 0 := by
      have := List.eq_of_mem_replicate (List.mem_of_getElem? hv)
      exact this
    have h2 : e = markE j := by
      unfold marksE at he
      rw [List.getElem?_map, List.getElem?_range hj] at he
      injection he with he; exact he.symm
    subst h1; subst h2
    exact Sl.nil _ _
  have hsl := row_ents hs hr hg (by simp [marksE_len])
  obtain ⟨h1, h2, h3⟩ := sl_parts hsl
  refine ⟨p, c, rfl, by simpa [marksE_len] using h1, h2, fun j e he => ?_, h3⟩
  have hlt := (List.getElem?_eq_some_iff.1 he).1
  obtain ⟨v, hv⟩ : ∃ v, vs[j]? = some v := ⟨_, List.getElem?_eq_getElem (by omega)⟩
  have hpos : p = some (ba p) := (h3 j e (by rw [List.getElem?_append_left hlt]; exact he)).1
  obtain ⟨b, cur, e1, hb, g2, g3, g4, g5, g6⟩ := row_open hr (by omega)
  have hc : Cs a (ba p) (entCells (vs ++ nils 12) (es ++ marksE 12)) := by
    subst e1
    exact Cs.of_pt (o := 0) hb (by simp only [List.drop_zero]; rw [← g5]; simp)
  refine ⟨hpos, [Ix e.id, v], Cs.mono _ _ _ _ hs (Cs.sub (j * 2) hc (ent_at2 (by rw [List.getElem?_append_left (by omega)]; exact hv) (by rw [List.getElem?_append_left hlt]; exact he))), v, rfl, hL j v e hv he⟩
theorem lent_mark {xs al : List KComp} {k : Nat} {x : KComp} (h : al = xs ++ marksC 12) (hx : al[k]? = some x) {n : Nat} (hn : n = xs.length) (hk : n ≤ k) : x = markC (k - n) := by
  subst h; subst hn
  rw [List.getElem?_append_right hk] at hx
  have hlt := (List.getElem?_eq_some_iff.1 hx).1
  rw [marksC_len] at hlt
  unfold marksC at hx
  rw [List.getElem?_map, List.getElem?_range hlt] at hx
  injection hx with hx; exact hx.symm
theorem lent_markE {xs al : List KEnt} {k : Nat} {x : KEnt} (h : al = xs ++ marksE 12) (hx : al[k]? = some x) {n : Nat} (hn : n = xs.length) (hk : n ≤ k) : x = markE (k - n) := by
  subst h; subst hn
  rw [List.getElem?_append_right hk] at hx
  have hlt := (List.getElem?_eq_some_iff.1 hx).1
  rw [marksE_len] at hlt
  unfold marksE at hx
  rw [List.getElem?_map, List.getElem?_range hlt] at hx
  injection hx with hx; exact hx.symm
theorem compE_inj {x y : KComp} : compE x = compE y ↔ x = y := by
  constructor
  · intro h
    cases x; cases y
    simp only [compE, List.cons.injEq, Value.int.injEq, true_and, and_true] at h
    obtain ⟨h1, h2, h3, h4, h5⟩ := h
    have h1 := UInt8.toNat_inj.1 (Int.ofNat_inj.1 h1)
    subst h1; subst h2; subst h3; subst h4; subst h5; rfl
  · intro h; rw [h]
theorem ent_eq {x y : KEnt} (h : x.id = y.id) : (x.comps = y.comps) ↔ x = y := by
  constructor
  · intro h2; cases x; cases y; simp only at h h2; subst h; subst h2; rfl
  · intro h2; rw [h2]
theorem world_eq {x y : KWorld} (h : x.tick = y.tick) : (x.ents = y.ents) ↔ x = y := by
  constructor
  · intro h2; cases x; cases y; simp only at h h2; subst h; subst h2; rfl
  · intro h2; rw [h2]
theorem bool_i {p q : Prop} [Decidable p] [Decidable q] (h : p ↔ q) : Ending.returned (.bool (decide p)) = .returned (.bool (decide q)) := by rw [decide_eq_decide.2 h]
theorem upto_eq {α : Type} {xs ys : List α} {k : Nat} (hl : xs.length = ys.length) (hk : ys.length ≤ k) (h : ∀ j, j < k → j < ys.length → xs[j]? = ys[j]?) : xs = ys := by
  apply List.ext_getElem?
  intro j
  by_cases hj : j < ys.length
  · exact h j (by omega) hj
  · rw [List.getElem?_eq_none (by omega), List.getElem?_eq_none (by omega)]
theorem upto_succ {α : Type} {xs ys : List α} {k : Nat} (h : ∀ j, j < k → j < ys.length → xs[j]? = ys[j]?) (hk : xs[k]? = ys[k]?) : ∀ j, j < k + 1 → j < ys.length → xs[j]? = ys[j]? := fun j hj hl => by
  rcases Nat.lt_or_eq_of_le (Nat.le_of_lt_succ hj) with h1 | rfl
  · exact h j h1 hl
  · exact hk
theorem upto_past {α : Type} {xs ys : List α} {k : Nat} (h : ∀ j, j < k → j < ys.length → xs[j]? = ys[j]?) (hk : ys.length ≤ k) : ∀ j, j < k + 1 → j < ys.length → xs[j]? = ys[j]? := fun j hj hl => h j (by omega) hl
end Go.Proofs
