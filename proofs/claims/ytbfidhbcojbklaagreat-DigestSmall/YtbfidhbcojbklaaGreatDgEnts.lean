/-
  Rows of entities: their cells as two lists (slice values, entities); opened, put together, changed. Own work; plain Lean.
-/
import Derived.Test.YtbfidhbcojbklaaGreatDg15
namespace Go.Proofs
open Go Go.Sl
def EGood (h : PHeap) (us : List Value) (zs : List KEnt) : Prop := us.length = zs.length ∧ ∀ (j : Nat) v e, us[j]? = some v → zs[j]? = some e → Sl CompR h v e.comps
theorem EGood.mono (us : List Value) (zs : List KEnt) : Mono (fun h => EGood h us zs) := fun h h' hs ⟨hl, hg⟩ => ⟨hl, fun j v e h1 h2 => Sl.mono CompR v _ h h' hs (hg j v e h1 h2)⟩
theorem choose_list {α β : Type} {xs : List α} {F : Nat → α → β → Prop} (h : ∀ (j : Nat) x, xs[j]? = some x → ∃ v, F j x v) : ∃ vs : List β, vs.length = xs.length ∧ ∀ (j : Nat) x v, xs[j]? = some x → vs[j]? = some v → F j x v := by
  induction xs generalizing F with
  | nil => exact ⟨[], rfl, fun j x v hx => by simp at hx⟩
  | cons y xs ih =>
    obtain ⟨v, hv⟩ := h 0 y rfl
    obtain ⟨vs, hl, hvs⟩ := ih (F := fun j => F (j + 1)) (fun j x hx => h (j + 1) x (by simpa using hx))
    refine ⟨v :: vs, by simp [hl], fun j x u hx hu => ?_⟩
    cases j with
    | zero => injection hx with hx; injection hu with hu; subst hx; subst hu; exact hv
    | succ j => exact hvs j x u (by simpa using hx) (by simpa using hu)
theorem ent_length {us : List Value} {es : List KEnt} (h : us.length = es.length) : (entCells us es).length = es.length * 2 := by
  induction us generalizing es with
  | nil => cases es with
    | nil => rfl
    | cons e es => simp at h
  | cons v vs ih => cases es with
    | nil => simp at h
    | cons e es =>
      show (entCells vs es).length + 2 = _
      rw [ih (by simpa using h)]
      simp; omega
theorem cs_ents {h : PHeap} {a : Addr} {us : List Value} {es : List KEnt} (hl : us.length = es.length) (hc : ∀ (j : Nat) v e, us[j]? = some v → es[j]? = some e → Cs h (a.add (j * 2)) [Ix e.id, v]) : Cs h a (entCells us es) := by
  intro i x hi
  have hlt := (List.getElem?_eq_some_iff.1 hi).1
  rw [ent_length hl] at hlt
  obtain ⟨e, he⟩ : ∃ e, es[i / 2]? = some e := ⟨_, List.getElem?_eq_getElem (by omega)⟩
  obtain ⟨v, hv⟩ : ∃ v, us[i / 2]? = some v := ⟨_, List.getElem?_eq_getElem (by omega)⟩
  have h1 := ent_at2 hv he
  have h2 := hc _ _ _ hv he (i % 2) x (by
    rw [← h1, List.getElem?_take_of_lt (by omega), List.getElem?_drop, show i / 2 * 2 + i % 2 = i by omega]; exact hi)
  rw [Addr.add_add', show i / 2 * 2 + i % 2 = i by omega] at h2
  exact h2
/-- a slice of entities, with its cells -/
theorem elems_ents {h : PHeap} {a : Option Addr} {es : List KEnt} (he : Elems EntR h a es) : ∃ us, EGood h us es ∧ Cs h (ba a) (entCells us es) := by
  obtain ⟨us, hl, hus⟩ := choose_list (xs := es) (F := fun j e v => Cs h ((ba a).add (j * 2)) [Ix e.id, v] ∧ Sl CompR h v e.comps) (fun j x hx => by
    obtain ⟨_, cs, hc, v, rfl, hv⟩ := he j x hx
    exact ⟨v, hc, hv⟩)
  exact ⟨us, ⟨hl, fun j v e hv he => (hus j e v he hv).2⟩, cs_ents hl fun j v e hv he => (hus j e v he hv).1⟩
theorem EGood.append {h : PHeap} {us us' : List Value} {es es' : List KEnt} (g : EGood h us es) (g' : EGood h us' es') : EGood h (us ++ us') (es ++ es') := by
  refine ⟨by simp [g.1, g'.1], fun j v e hv he => ?_⟩
  by_cases hj : j < us.length
  · rw [List.getElem?_append_left hj] at hv
    rw [List.getElem?_append_left (by rw [← g.1]; exact hj)] at he
    exact g.2 j v e hv he
  · rw [List.getElem?_append_right (by omega)] at hv
    rw [List.getElem?_append_right (by rw [← g.1]; omega), ← g.1] at he
    exact g'.2 _ v e hv he
theorem EGood.set {h : PHeap} {us : List Value} {es : List KEnt} (g : EGood h us es) (k : Nat) {v : Value} {e : KEnt} (hv : Sl CompR h v e.comps) : EGood h (us.set k v) (es.set k e) := by
  refine ⟨by simp [g.1], fun j u f hu hf => ?_⟩
  rw [List.getElem?_set] at hu hf
  by_cases hj : k = j
  · rw [if_pos hj] at hu hf
    have h1 : v = u := by
      split at hu
      · injection hu
      · cases hu
    have h2 : e = f := by
      split at hf
      · injection hf
      · cases hf
    subst h1; subst h2; exact hv
  · rw [if_neg hj] at hu hf
    exact g.2 j u f hu hf
theorem over_ent {us : List Value} {es : List KEnt} {k : Nat} {v : Value} {i : Int} {e e' : KEnt} (hi : i = e'.id) {u : Value} (hu : us[k]? = some u) (he : es[k]? = some e) : overL (entCells us es) (k * 2) [Ix i, v] = entCells (us.set k v) (es.set k e') := by
  subst hi
  induction us generalizing es k with
  | nil => cases hu
  | cons u0 us ih =>
    cases es with
    | nil => cases he
    | cons f es =>
      cases k with
      | zero => rfl
      | succ k =>
        have := ih (es := es) (k := k) (by simpa using hu) (by simpa using he)
        rw [show (k + 1) * 2 = k * 2 + 2 by omega]
        show overL (Ix f.id :: u0 :: entCells us es) (k * 2 + 2) [Ix e'.id, v] = Ix f.id :: u0 :: entCells (us.set k v) (es.set k e')
        rw [← this]
        simp [overL]
/-- a row of entities is a slice of them -/
theorem row_ents {h h' : PHeap} {v : Value} {n : Nat} {us : List Value} {zs : List KEnt} (hs : Sub h h') (hr : row v 35 2 n (entCells us zs) h) (hg : EGood h' us zs) (hn : n = zs.length) : Sl EntR h' v zs := by
  subst hn
  obtain ⟨hl, ⟨rfl, h0⟩ | ⟨b, c, cur, rfl, hb, h2, h3, h4, h5⟩⟩ := hr
  · have : zs = [] := List.eq_nil_of_length_eq_zero h0
    subst this; exact Sl.nil _ _
  · have hc : Cs h ⟨b, 0, none⟩ (entCells us zs) := Cs.of_pt (o := 0) hb (by simp only [List.drop_zero]; rw [← h5]; simp)
    refine ⟨some ⟨b, 0, none⟩, c, rfl, h2, by unfold maxLen at h3; omega, fun j e he => ⟨rfl, ?_⟩⟩
    have hlt := (List.getElem?_eq_some_iff.1 he).1
    obtain ⟨u, hu⟩ : ∃ u, us[j]? = some u := ⟨_, List.getElem?_eq_getElem (by rw [hg.1]; exact hlt)⟩
    exact ⟨[Ix e.id, u], Cs.mono _ _ h h' hs (Cs.sub (j * 2) hc (ent_at2 hu he)), u, rfl, hg.2 j u e hu he⟩
theorem EGood.get {h : PHeap} {us : List Value} {es : List KEnt} (g : EGood h us es) {k : Nat} (hk : k < es.length) : ∃ v e, us[k]? = some v ∧ es[k]? = some e ∧ Sl CompR h v e.comps :=
  ⟨_, _, List.getElem?_eq_getElem (by rw [g.1]; exact hk), List.getElem?_eq_getElem hk, g.2 k _ _ (List.getElem?_eq_getElem (by rw [g.1]; exact hk)) (List.getElem?_eq_getElem hk)⟩
theorem EGood.getS {h : PHeap} {us : List Value} {es : List KEnt} (g : EGood h us es) {k : Nat} (hk : k < es.length) : ∃ p c e, us[k]? = some (.slice p e.comps.length c) ∧ es[k]? = some e ∧ Sl CompR h (.slice p e.comps.length c) e.comps := by
  obtain ⟨v, e, hv, he, hs⟩ := g.get hk
  obtain ⟨p, c, rfl, _⟩ := hs.get
  exact ⟨p, c, e, hv, he, hs⟩
theorem EGood.nil (h : PHeap) : EGood h [] [] := ⟨rfl, fun j v e hv => by cases hv⟩
theorem ent_one {h : PHeap} {us : List Value} {es : List KEnt} (g : EGood h us es) : (entCells us es).all (·.oneCell') = true := by
  rw [List.all_eq_true]
  intro x hx
  obtain ⟨i, hi⟩ := List.getElem?_of_mem hx
  have hlt := (List.getElem?_eq_some_iff.1 hi).1
  rw [ent_length g.1] at hlt
  obtain ⟨v, e, hv, he, hs⟩ := g.get (show i / 2 < es.length by omega)
  have h1 := ent_at2 hv he
  have h2 : [Ix e.id, v][i % 2]? = some x := by
    rw [← h1, List.getElem?_take_of_lt (by omega), List.getElem?_drop, show i / 2 * 2 + i % 2 = i by omega]; exact hi
  obtain ⟨a, c, rfl, _⟩ := hs.get
  match i % 2, h2 with
  | 0, h2 => injection h2 with h2; subst h2; rfl
  | 1, h2 => injection h2 with h2; subst h2; rfl
  | n + 2, h2 => cases h2
theorem elems_ba {α : Type} {R : Rp α} {h : PHeap} {a : Option Addr} {xs : List α} (he : Elems R h a xs) (hx : 0 < xs.length) : a = some (ba a) :=
  (he 0 _ (List.getElem?_eq_getElem hx)).1
theorem swap_ents {us : List Value} {es : List KEnt} {i j : Nat} {u u' : Value} {e e' : KEnt} (hij : i ≠ j) (hu : us[i]? = some u) (he : es[i]? = some e) (hu' : us[j]? = some u') (he' : es[j]? = some e') :
    overL (overL (entCells us es) (i * 2) [Ix e'.id, u']) (j * 2) [Ix e.id, u] = entCells ((us.set i u').set j u) ((es.set i e').set j e) := by
  rw [over_ent rfl hu he, over_ent rfl (us := us.set i u') (es := es.set i e') (by rw [List.getElem?_set_ne hij]; exact hu') (by rw [List.getElem?_set_ne hij]; exact he')]
theorem swap_perm {α : Type} {es : List α} {i j : Nat} {e e' : α} (he : es[i]? = some e) (he' : es[j]? = some e') : ((es.set i e').set j e).Perm es := by
  obtain ⟨h1, rfl⟩ := List.getElem?_eq_some_iff.1 he
  obtain ⟨h2, rfl⟩ := List.getElem?_eq_some_iff.1 he'
  exact List.set_set_perm h1 h2
theorem k_row_ents {β : Base} {L : List Res} {v : Value} {n : Nat} {us : List Value} {zs : List KEnt} (i : Nat) (hi : L[i]? = some (row v 35 2 n (entCells us zs))) (hg : EGood β.heap us zs) (hn : n = zs.length) : Knows β L (fun h => Sl EntR h v zs) := fun h hs hr => by
  obtain ⟨a, ha, hra⟩ := hr _ (List.mem_of_getElem? hi)
  exact row_ents ha hra (EGood.mono _ _ _ _ hs hg) hn
theorem few_big {es xs : List KEnt} (h : es = fewE xs) : ∀ (i : Nat) e, es[i]? = some e → e.comps.length ≤ 20 := by
  intro i e he
  subst h
  unfold fewE at he
  rw [List.getElem?_map] at he
  cases hx : (xs.take 40)[i]? with
  | none => rw [hx] at he; cases he
  | some f => rw [hx] at he; injection he with he; subst he; simp; omega
theorem sl_parts {α : Type} {R : Rp α} {h : PHeap} {a : Option Addr} {n c : Nat} {xs : List α} (hs : Sl R h (.slice a n c) xs) : xs.length ≤ c ∧ c ≤ 9223372036854775807 ∧ Elems R h a xs := by
  obtain ⟨a', c', e, h1, h2, h3⟩ := hs.get
  injection e with e1 e2 e3
  subst e1; subst e3
  exact ⟨h1, h2, h3⟩
theorem few_ok' (β : Base) (w : World) (hw : St β [] w) (x : KWorld) (v : Value) (hs : Sl EntR β.heap v x.ents) (hn : x.ents.length * 32 ≤ 140737488355328) (hbig : ∀ (i : Nat) e, x.ents[i]? = some e → e.comps.length * 40 ≤ 140737488355328) :
    Calls Tryz.prog 5 #[.agg #[Ix x.tick, v]] w fun r w' => ∃ p c, r = .returned (.agg #[Ix x.tick, .slice p (fewE x.ents).length c]) ∧ St β [fun h => Sl EntR h (.slice p (fewE x.ents).length c) (fewE x.ents)] w' :=
  (few_ok β w hw x v hs hn hbig).mono fun r w' ⟨v', h1, h2⟩ => by
    obtain ⟨p, c, rfl, _⟩ := (h2.knows (F := fun h => Sl EntR h v' (fewE x.ents)) (Knows.of_res 0 rfl (fun _ _ hs h => Sl.mono EntR _ _ _ _ hs h) fun _ h => h)).get
    exact ⟨p, c, h1, h2⟩
/-! sums -/
theorem ents_comm (d a b : UInt64) : d + a + b = d + b + a := by rw [UInt64.add_assoc, UInt64.add_comm a b, ← UInt64.add_assoc]
theorem ents_perm {es fs : List KEnt} (h : es.Perm fs) (d : UInt64) : entsU d es = entsU d fs :=
  h.foldl_eq' (fun _ _ _ _ _ => ents_comm _ _ _) d
theorem ents_add (d c : UInt64) (es : List KEnt) : entsU (d + c) es = entsU d es + c := by
  induction es generalizing d with
  | nil => rfl
  | cons e es ih =>
    show entsU (d + c + entU e) es = entsU (d + entU e) es + c
    rw [ents_comm, ih]
theorem ents_append (d : UInt64) (es fs : List KEnt) : entsU d (es ++ fs) = entsU (entsU d es) fs := by simp [entsU]
theorem ents_split {d : UInt64} {es : List KEnt} (m : Nat) : entsU d (es.take m) + entsU 0 (es.drop m) = entsU d es := by
  have h := ents_append d (es.take m) (es.drop m)
  rw [List.take_append_drop] at h
  rw [h]
  have h2 := ents_add 0 (entsU d (es.take m)) (es.drop m)
  rw [UInt64.zero_add] at h2
  rw [h2, UInt64.add_comm]
theorem ents_turn {d : UInt64} {es zs : List KEnt} {k : Nat} (h : zs.Perm (es.drop k ++ es.take k)) : entsU d zs = entsU d es := by
  rw [ents_perm h, ents_perm (List.perm_append_comm), List.take_append_drop]
theorem ents_set {d : UInt64} {es : List KEnt} {k : Nat} {a b : KEnt} (h : es[k]? = some a) : entsU d (es.set k b) = entsU d es - entU a + entU b := by
  have hlt := (List.getElem?_eq_some_iff.1 h).1
  have ha := (List.getElem?_eq_some_iff.1 h).2
  have e1 : es = es.take k ++ a :: es.drop (k + 1) := by
    rw [← ha]; simp
  have e2 : es.set k b = es.take k ++ b :: es.drop (k + 1) := by rw [List.set_eq_take_append_cons_drop, if_pos hlt]
  rw [e2]
  conv => rhs; rw [e1]
  rw [ents_append, ents_append]
  show entsU (_ + entU b) _ = entsU (_ + entU a) _ - entU a + entU b
  rw [ents_add, ents_add, UInt64.add_sub_cancel]
end Go.Proofs
