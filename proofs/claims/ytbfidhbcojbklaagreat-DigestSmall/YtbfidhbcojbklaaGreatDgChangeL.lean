/-
  A number of an entity changed: its digest is another one. Own work; plain Lean.
-/
import Derived.Test.YtbfidhbcojbklaaGreatDgDiffer
import Derived.Test.YtbfidhbcojbklaaGreatSlFam
namespace Go.Proofs
open Go Go.Sl
def numsTo (es : List KEnt) (k : Nat) : Nat := ((es.take k).map fun e => 1 + 5 * e.comps.length).sum
theorem nums_succ {es : List KEnt} {k : Nat} {e : KEnt} (h : es[k]? = some e) : numsTo es (k + 1) = numsTo es k + (1 + 5 * e.comps.length) := by
  unfold numsTo; rw [take_succ h]; simp
theorem nums_le {es : List KEnt} (h : ∀ (i : Nat) e, es[i]? = some e → e.comps.length ≤ 20) : ∀ k, numsTo es k ≤ k * 101
  | 0 => by simp [numsTo]
  | k + 1 => by
    have ih := nums_le h k
    by_cases hk : k < es.length
    · have he := List.getElem?_eq_getElem hk
      have := h _ _ he
      rw [nums_succ he]; omega
    · have : numsTo es (k + 1) = numsTo es k := by
        unfold numsTo
        rw [List.take_of_length_le (by omega), List.take_of_length_le (by omega)]
      omega
/-! words -/
theorem words_split {e : KEnt} {q : Nat} {c : KComp} (h : e.comps[q]? = some c) : ∃ A B : List UInt64, A.length = 2 + q * 5 ∧ wordsE e = A ++ (wordsC c ++ B) ∧ ∀ c', wordsE ⟨e.id, e.comps.set q c'⟩ = A ++ (wordsC c' ++ B) := by
  have hlt := (List.getElem?_eq_some_iff.1 h).1
  have hc := (List.getElem?_eq_some_iff.1 h).2
  have hl : ∀ cs : List KComp, (cs.flatMap wordsC).length = cs.length * 5 := by
    intro cs
    induction cs with
    | nil => rfl
    | cons x cs ih => rw [List.flatMap_cons, List.length_append, ih, List.length_cons]; simp [wordsC]; omega
  refine ⟨U e.id :: U ((e.comps.length : Nat) : Int) :: (e.comps.take q).flatMap wordsC, (e.comps.drop (q + 1)).flatMap wordsC, ?_, ?_, fun c' => ?_⟩
  · simp only [List.length_cons, hl, List.length_take]; omega
  · have h2 : e.comps = e.comps.take q ++ c :: e.comps.drop (q + 1) := by rw [← hc]; simp
    unfold wordsE
    conv => lhs; rw [h2]
    simp only [List.flatMap_append, List.flatMap_cons, List.cons_append]
    rw [← h2]
  · unfold wordsE
    simp only [List.length_set]
    rw [List.set_eq_take_append_cons_drop, if_pos hlt]
    simp only [List.flatMap_append, List.flatMap_cons, List.cons_append]
theorem ent_words_ne {e e' : KEnt} {k : Nat} {w w' : UInt64} (hne : w ≠ w') (hw : (wordsE e)[k]? = some w) (h : wordsE e' = (wordsE e).set k w') : entU e ≠ entU e' := by
  intro he
  have h1 := mix_inj (show mixU (seqF 0 (wordsE e)) = mixU (seqF 0 (wordsE e')) from he)
  rw [h] at h1
  exact seqF_set_ne (h := 0) hne hw h1.symm
theorem ent_id_ne {e : KEnt} {i : Int} (h : U e.id ≠ U i) : entU e ≠ entU ⟨i, e.comps⟩ := ent_words_ne (k := 0) h rfl rfl
theorem ent_comp_ne {e : KEnt} {q j : Nat} {c c' : KComp} {w w' : UInt64} (hq : e.comps[q]? = some c) (hne : w ≠ w') (hw : (wordsC c)[j]? = some w) (h : wordsC c' = (wordsC c).set j w') : entU e ≠ entU ⟨e.id, e.comps.set q c'⟩ := by
  obtain ⟨A, B, hA, h1, h2⟩ := words_split hq
  have hj := (List.getElem?_eq_some_iff.1 hw).1
  refine ent_words_ne (k := 2 + q * 5 + j) hne ?_ ?_
  · rw [h1, List.getElem?_append_right (by omega), hA, show 2 + q * 5 + j - (2 + q * 5) = j by omega, List.getElem?_append_left hj]; exact hw
  · rw [h2 c', h1, h, List.set_append, if_neg (by omega), hA, show 2 + q * 5 + j - (2 + q * 5) = j by omega, List.set_append, if_pos hj]
/-! cells -/
def cv (c : KComp) : Nat → Int
  | 0 => c.v0
  | 1 => c.v1
  | 2 => c.v2
  | _ => c.v3
def setV (c : KComp) (i : Nat) (z : Int) : KComp := match i with
  | 0 => { c with v0 := z }
  | 1 => { c with v1 := z }
  | 2 => { c with v2 := z }
  | _ => { c with v3 := z }
theorem setV_words (c : KComp) {i : Nat} (hi : i < 4) (z : Int) : wordsC (setV c i z) = (wordsC c).set (1 + i) (U z) := by
  match i, hi with
  | 0, _ => rfl
  | 1, _ => rfl
  | 2, _ => rfl
  | 3, _ => rfl
theorem cv_word (c : KComp) {i : Nat} (hi : i < 4) : (wordsC c)[1 + i]? = some (U (cv c i)) := by
  match i, hi with
  | 0, _ => rfl
  | 1, _ => rfl
  | 2, _ => rfl
  | 3, _ => rfl
theorem setV_cells (c : KComp) {i : Nat} (hi : i < 4) (z : Int) : compE (setV c i z) = (compE c).set (1 + i) (Ix z) := by
  match i, hi with
  | 0, _ => rfl
  | 1, _ => rfl
  | 2, _ => rfl
  | 3, _ => rfl
theorem cv_cell (c : KComp) {i : Nat} (hi : i < 4) : (compE c)[1 + i]? = some (Ix (cv c i)) := by
  match i, hi with
  | 0, _ => rfl
  | 1, _ => rfl
  | 2, _ => rfl
  | 3, _ => rfl
theorem flat_at1 {xs : List KComp} {q j : Nat} {c : KComp} {v : Value} (h : xs[q]? = some c) (hj : (compE c)[j]? = some v) : ((xs.flatMap compE).drop (q * 5 + j)).take 1 = [v] := by
  have h1 := flat_at h
  have hlt : j < 5 := by
    have := (List.getElem?_eq_some_iff.1 hj).1
    simpa [compE] using this
  have h2 : (xs.flatMap compE)[q * 5 + j]? = some v := by
    rw [← hj, ← h1, List.getElem?_take_of_lt hlt, List.getElem?_drop]
  obtain ⟨h3, h4⟩ := List.getElem?_eq_some_iff.1 h2
  rw [List.drop_eq_getElem_cons h3, h4]; rfl
theorem over_comp {xs : List KComp} {q j : Nat} {c c' : KComp} {v : Value} (h : xs[q]? = some c) (hj : j < 5) (hc : compE c' = (compE c).set j v) : overL (xs.flatMap compE) (q * 5 + j) [v] = (xs.set q c').flatMap compE := by
  induction xs generalizing q with
  | nil => cases h
  | cons x xs ih =>
    cases q with
    | zero =>
      injection h with h
      subst h
      show overL (compE x ++ xs.flatMap compE) (0 * 5 + j) [v] = compE c' ++ xs.flatMap compE
      rw [hc]
      match j, hj with
      | 0, _ => rfl
      | 1, _ => rfl
      | 2, _ => rfl
      | 3, _ => rfl
      | 4, _ => rfl
    | succ q =>
      have h1 := ih (q := q) (by simpa using h)
      show overL (compE x ++ xs.flatMap compE) ((q + 1) * 5 + j) [v] = compE x ++ (xs.set q c').flatMap compE
      rw [← h1, show (q + 1) * 5 + j = (q * 5 + j) + 5 by omega]
      simp [overL, compE]
theorem ent_at0 {us : List Value} {es : List KEnt} {k : Nat} {v : Value} {e : KEnt} (h : us[k]? = some v) (he : es[k]? = some e) : ((entCells us es).drop (k * 2 + 0)).take 1 = [Ix e.id] := by
  have h1 := ent_at2 h he
  have h2 := congrArg (List.take 1) h1
  rw [List.take_take] at h2
  exact h2
theorem over_id {us : List Value} {es : List KEnt} {k : Nat} {v : Value} {e e' : KEnt} {i : Int} (hi : i = e'.id) (h : us[k]? = some v) (he : es[k]? = some e) : overL (entCells us es) (k * 2 + 0) [Ix i] = entCells us (es.set k e') := by
  subst hi
  induction us generalizing es k with
  | nil => cases h
  | cons u us ih =>
    cases es with
    | nil => cases he
    | cons f es =>
      cases k with
      | zero => rfl
      | succ k =>
        have := ih (es := es) (k := k) (by simpa using h) (by simpa using he)
        rw [show (k + 1) * 2 + 0 = k * 2 + 0 + 2 by omega]
        show overL (Ix f.id :: u :: entCells us es) (k * 2 + 0 + 2) [Ix e'.id] = Ix f.id :: u :: entCells us (es.set k e')
        rw [← this]
        simp [overL]
theorem ents_same_id {us : List Value} {es : List KEnt} {k : Nat} {e e' : KEnt} (he : es[k]? = some e) (hi : e'.id = e.id) : entCells us (es.set k e') = entCells us es := by
  induction us generalizing es k with
  | nil => cases es <;> cases k <;> rfl
  | cons u us ih =>
    cases es with
    | nil => cases he
    | cons f es =>
      cases k with
      | zero =>
        injection he with he; subst he
        show Ix e'.id :: u :: entCells us es = Ix f.id :: u :: entCells us es
        rw [hi]
      | succ k =>
        show Ix f.id :: u :: entCells us (es.set k e') = _
        rw [ih (es := es) (k := k) (by simpa using he)]; rfl
theorem comp_split {vs : List Value} {es : List KEnt} {k : Nat} {v : Value} {e : KEnt} (h : vs[k]? = some v) (he : es[k]? = some e) : (compRows vs es).Perm (compRow v e :: compRows (vs.eraseIdx k) (es.eraseIdx k)) := by
  induction vs generalizing es k with
  | nil => cases h
  | cons u vs ih =>
    cases es with
    | nil => cases he
    | cons f es =>
      cases k with
      | zero => injection h with h; injection he with he; subst h; subst he; exact List.Perm.refl _
      | succ k => exact ((ih (es := es) (k := k) (by simpa using h) (by simpa using he)).cons _).trans (List.Perm.swap _ _ _)
theorem comp_join {vs : List Value} {es : List KEnt} {k : Nat} {v : Value} {e e' : KEnt} (h : vs[k]? = some v) (he : es[k]? = some e) : (compRow v e' :: compRows (vs.eraseIdx k) (es.eraseIdx k)).Perm (compRows vs (es.set k e')) := by
  have hlt := (List.getElem?_eq_some_iff.1 he).1
  have h1 := comp_split (es := es.set k e') h (by rw [List.getElem?_set_self hlt])
  rw [List.eraseIdx_set_eq] at h1
  exact h1.symm
theorem comp_join' {vs : List Value} {es : List KEnt} {k n : Nat} {v : Value} {e e' : KEnt} (h : vs[k]? = some v) (he : es[k]? = some e) (hn : n = e'.comps.length) :
    (row v 38 5 n (e'.comps.flatMap compE) :: compRows (vs.eraseIdx k) (es.eraseIdx k)).Perm (compRows vs (es.set k e')) := by
  subst hn; exact comp_join h he
/-- rows of entities and of their components, as a slice -/
theorem rows_sl {β : Base} {w : World} {v : Value} {n : Nat} {vs : List Value} {zs : List KEnt} (hl : vs.length = zs.length) (hn : n = zs.length) (h : St β (row v 35 2 n (entCells vs zs) :: compRows vs zs) w) : St β [fun h => Sl EntR h v zs] w := by
  refine St.merge (L := row v 35 2 n (entCells vs zs) :: compRows vs zs) (M := []) (by simpa using h) fun a ha => ?_
  obtain ⟨a1, hs1, h1⟩ := ha.each _ List.mem_cons_self
  refine row_ents hs1 h1 ⟨hl, fun j u e hu he => ?_⟩ hn
  obtain ⟨a2, hs2, h2⟩ := ha.each _ (List.mem_cons_of_mem _ (row_mem hu he))
  exact Sl.mono CompR _ _ _ _ hs2 (comp_row_sl h2)
end Go.Proofs
