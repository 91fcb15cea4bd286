/-
  IslandLess in plain terms: a body taken away, a rope more. Own work; plain Lean.
-/
import Derived.Test.YtoijanalppaplaaIsId
namespace Go.Isl
open Go.Sl Go.Brd Go.Stp Go.Proofs
def lessB (bs : List KB) (x : Int) : List KB := bs.filter fun b => decide (b.id ≠ x)
def lessR (R : List KR) (x : Int) : List KR := R.filter fun r => decide (r.a ≠ x) && decide (r.b ≠ x)
def moreR (R : List KR) (p q : Int) : List KR := if p = q then R else R ++ [⟨min p q, max p q, 5⟩]
theorem less_yes {bs : List KB} {k : Nat} {z : KB} {x : Int} (hz : bs[k]? = some z) (h : z.id ≠ x) : lessB (bs.take k) x ++ [z] = lessB (bs.take (k + 1)) x := by
  unfold lessB
  rw [List.take_add_one, hz, List.filter_append]
  simp only [Option.toList_some, List.filter_cons, List.filter_nil]
  rw [if_pos (by simpa using h)]
theorem less_no {bs : List KB} {k : Nat} {z : KB} {x : Int} (hz : bs[k]? = some z) (h : ¬ z.id ≠ x) : lessB (bs.take k) x = lessB (bs.take (k + 1)) x := by
  unfold lessB
  rw [List.take_add_one, hz, List.filter_append]
  simp only [Option.toList_some, List.filter_cons, List.filter_nil]
  rw [if_neg (by simpa using h), List.append_nil]
theorem lessR_yes {R : List KR} {k : Nat} {z : KR} {x : Int} (hz : R[k]? = some z) (h : z.a ≠ x) (h2 : z.b ≠ x) : lessR (R.take k) x ++ [z] = lessR (R.take (k + 1)) x := by
  unfold lessR
  rw [List.take_add_one, hz, List.filter_append]
  simp only [Option.toList_some, List.filter_cons, List.filter_nil]
  rw [if_pos (by simp [h, h2])]
theorem lessR_no {R : List KR} {k : Nat} {z : KR} {x : Int} (hz : R[k]? = some z) (h : ¬ (z.a ≠ x ∧ z.b ≠ x)) : lessR (R.take k) x = lessR (R.take (k + 1)) x := by
  unfold lessR
  rw [List.take_add_one, hz, List.filter_append]
  simp only [Option.toList_some, List.filter_cons, List.filter_nil]
  rw [if_neg (by rw [Bool.and_eq_true, decide_eq_true_eq, decide_eq_true_eq]; exact h), List.append_nil]
theorem lessB_len (bs : List KB) (x : Int) : (lessB bs x).length ≤ bs.length := List.length_filter_le _ _
theorem lessR_len (R : List KR) (x : Int) : (lessR R x).length ≤ R.length := List.length_filter_le _ _
theorem found_of {bs : List KB} {b : KB} (h : b ∈ bs) : (findB bs b.id).isSome = true := by
  unfold findB; rw [List.find?_isSome]; exact ⟨b, h, by simp⟩
theorem found_mem {bs : List KB} {x : Int} (h : (findB bs x).isSome = true) : ∃ b ∈ bs, b.id = x := by
  unfold findB at h; rw [List.find?_isSome] at h
  obtain ⟨b, hb, e⟩ := h
  exact ⟨b, hb, by simpa using e⟩
theorem less_ok {bs : List KB} {R : List KR} {gx gy : Int} (hP : MadeP bs R gx gy) (x : Int) : okS (lessB bs x) (lessR R x) gx gy := by
  obtain ⟨h1, h2, h3, h4, h5, h6⟩ := hP.ok
  refine ⟨Nat.le_trans (lessB_len _ _) h1, Nat.le_trans (lessR_len _ _) h2, h3, fun b hb => h4 b (List.mem_filter.1 hb).1, pair_ordB ((ordB_pair h5).filter _), fun r hr => ?_⟩
  obtain ⟨hr1, hr2⟩ := List.mem_filter.1 hr
  rw [Bool.and_eq_true, decide_eq_true_eq, decide_eq_true_eq] at hr2
  obtain ⟨g1, g2, g3⟩ := h6 r hr1
  have key : ∀ z, (findB bs z).isSome = true → z ≠ x → (findB (lessB bs x) z).isSome = true := fun z hz hn => by
    obtain ⟨b, hb, rfl⟩ := found_mem hz
    exact found_of (List.mem_filter.2 ⟨hb, by simpa using hn⟩)
  exact ⟨key _ g1 hr2.1, key _ g2 hr2.2, g3⟩
theorem more_len (R : List KR) (p q : Int) : (moreR R p q).length ≤ R.length + 1 := by unfold moreR; split <;> simp
theorem more_ok {bs : List KB} {R : List KR} {gx gy : Int} {a b : KB} (hP : MadeP bs R gx gy) (ha : a ∈ bs) (hb : b ∈ bs) : okS bs (moreR R a.id b.id) gx gy := by
  obtain ⟨h1, h2, h3, h4, h5, h6⟩ := hP.ok
  refine ⟨h1, by have := more_len R a.id b.id; have := hP.ropes; omega, h3, h4, h5, fun r hr => ?_⟩
  unfold moreR at hr
  split at hr
  · exact h6 r hr
  · rename_i hne
    rcases List.mem_append.1 hr with hr | hr
    · exact h6 r hr
    · rw [List.mem_singleton.1 hr]
      have fa := found_of ha
      have fb := found_of hb
      refine ⟨?_, ?_, ?_, by show (0 : Int) ≤ 5; decide, by show (5 : Int) ≤ 2097152; decide⟩
      · show (findB bs (min a.id b.id)).isSome = true
        rcases Int.le_total a.id b.id with q | q
        · rw [Int.min_eq_left q]; exact fa
        · rw [Int.min_eq_right q]; exact fb
      · show (findB bs (max a.id b.id)).isSome = true
        rcases Int.le_total a.id b.id with q | q
        · rw [Int.max_eq_right q]; exact fb
        · rw [Int.max_eq_left q]; exact fa
      · show min a.id b.id < max a.id b.id; omega
theorem free_less (bs : List KB) (x : Int) : freeB (lessB bs x) = lessB (freeB bs) x := by
  unfold freeB lessB; rw [List.filter_filter, List.filter_filter]
  exact List.filter_congr fun b _ => Bool.and_comm _ _
theorem less_ids {fb : List KB} {x y : Int} : y ∈ (lessB fb x).map (·.id) ↔ y ∈ fb.map (·.id) ∧ y ≠ x := by
  rw [List.mem_map, List.mem_map]
  constructor
  · rintro ⟨b, hb, rfl⟩
    obtain ⟨h1, h2⟩ := List.mem_filter.1 hb
    exact ⟨⟨b, h1, rfl⟩, by simpa using h2⟩
  · rintro ⟨⟨b, hb, rfl⟩, h⟩
    exact ⟨b, List.mem_filter.2 ⟨hb, by simpa using h⟩, rfl⟩
theorem lk_less {fb : List KB} {R : List KR} {gx gy x y z : Int} : LkI (lessB fb x) (lessR R x) gx gy y z ↔ LkI fb R gx gy y z ∧ y ≠ x ∧ z ≠ x := by
  constructor
  · rintro ⟨h1, a, ha, b, hb, e1, e2, h⟩
    obtain ⟨ha1, ha2⟩ := List.mem_filter.1 ha
    obtain ⟨hb1, hb2⟩ := List.mem_filter.1 hb
    refine ⟨⟨h1, a, ha1, b, hb1, e1, e2, h.imp id fun ⟨r, hr, q⟩ => ⟨r, (List.mem_filter.1 hr).1, q⟩⟩, ?_, ?_⟩
    · rw [← e1]; simpa using ha2
    · rw [← e2]; simpa using hb2
  · rintro ⟨⟨h1, a, ha, b, hb, e1, e2, h⟩, hy, hz⟩
    refine ⟨h1, a, List.mem_filter.2 ⟨ha, by rw [e1]; simpa using hy⟩, b, List.mem_filter.2 ⟨hb, by rw [e2]; simpa using hz⟩, e1, e2, h.imp id fun ⟨r, hr, q⟩ => ⟨r, List.mem_filter.2 ⟨hr, ?_⟩, q⟩⟩
    rw [Bool.and_eq_true, decide_eq_true_eq, decide_eq_true_eq]
    rcases q with ⟨q1, q2⟩ | ⟨q1, q2⟩
    · rw [q1, q2]; exact ⟨hy, hz⟩
    · rw [q1, q2]; exact ⟨hz, hy⟩
theorem head_mem {r : List Int} {x : Int} (h : r[0]? = some x) : x ∈ r := List.mem_of_getElem? h
/-- an island that the body is not of stays -/
theorem less_same {bs : List KB} {R : List KR} {gx gy p x : Int} {xl ml : List (List Int)} {i : Nat} {r : List Int} (h : IsS (freeB bs) R gx gy xl) (hm : IsS (freeB (lessB bs p)) (lessR R p) gx gy ml) (hi : xl[i]? = some r) (hn : ((i : Nat) : Int) ≠ placeI xl p) (hx : r[0]? = some x) : ∃ k : Nat, placeI ml x = ((k : Nat) : Int) ∧ ml[k]? = some r ∧ k < ml.length := by
  rw [free_less] at hm
  have hxr := head_mem hx
  obtain ⟨h1, h2, h3⟩ := h.at_ hi hxr
  have hp : ¬ p ∈ r := fun hp => hn (h.at_ hi hp).2.2.symm
  have hne : ∀ y, CnI (LkI (freeB bs) R gx gy) x y → y ≠ p := fun y hy e => hp (by rw [h2, ← e]; exact (cls_mem h1).2 hy)
  have hx' : x ∈ (lessB (freeB bs) p).map (·.id) := less_ids.2 ⟨h1, hne x .refl⟩
  obtain ⟨k, hk, hk2⟩ := hm.place hx'
  have e : clsI (freeB bs) R gx gy x = clsI (lessB (freeB bs) p) (lessR R p) gx gy x := cls_same h.ord hm.ord h1 hx' fun y z hy => by
    rw [lk_less]
    exact ⟨fun q => ⟨q, hne y hy, hne z (hy.step q)⟩, fun q => q.1⟩
  exact ⟨k, hk, by rw [hk2, h2, e], (List.getElem?_eq_some_iff.1 hk2).1⟩
theorem lk_more {fb : List KB} {R : List KR} {gx gy p q y z : Int} : LkI fb (moreR R p q) gx gy y z ↔ LkI fb R gx gy y z ∨ (p ≠ q ∧ y ∈ fb.map (·.id) ∧ z ∈ fb.map (·.id) ∧ ((y = p ∧ z = q) ∨ (y = q ∧ z = p))) := by
  unfold moreR
  split
  · rename_i e
    exact ⟨.inl, fun h => h.resolve_right fun g => g.1 e⟩
  · rename_i hne
    constructor
    · rintro ⟨h1, a, ha, b, hb, e1, e2, h⟩
      have hy : y ∈ fb.map (·.id) := List.mem_map.2 ⟨a, ha, e1⟩
      have hz : z ∈ fb.map (·.id) := List.mem_map.2 ⟨b, hb, e2⟩
      rcases h with h | ⟨r, hr, g⟩
      · exact .inl ⟨h1, a, ha, b, hb, e1, e2, .inl h⟩
      · rcases List.mem_append.1 hr with hr | hr
        · exact .inl ⟨h1, a, ha, b, hb, e1, e2, .inr ⟨r, hr, g⟩⟩
        · rw [List.mem_singleton.1 hr] at g
          refine .inr ⟨hne, hy, hz, ?_⟩
          simp only at g
          omega
    · rintro (⟨h1, a, ha, b, hb, e1, e2, h⟩ | ⟨_, hy, hz, g⟩)
      · exact ⟨h1, a, ha, b, hb, e1, e2, h.imp id fun ⟨r, hr, g⟩ => ⟨r, List.mem_append_left _ hr, g⟩⟩
      · obtain ⟨a, ha, e1⟩ := List.mem_map.1 hy
        obtain ⟨b, hb, e2⟩ := List.mem_map.1 hz
        refine ⟨by omega, a, ha, b, hb, e1, e2, .inr ⟨_, List.mem_append_right _ List.mem_cons_self, ?_⟩⟩
        simp only
        omega
theorem more_same {bs : List KB} {R : List KR} {gx gy p q x : Int} {xl ol : List (List Int)} {i : Nat} {r : List Int} (h : IsS (freeB bs) R gx gy xl) (hm : IsS (freeB bs) (moreR R p q) gx gy ol) (hi : xl[i]? = some r) (hn : ((i : Nat) : Int) ≠ placeI xl p) (hn2 : ((i : Nat) : Int) ≠ placeI xl q) (hx : r[0]? = some x) : ∃ k : Nat, placeI ol x = ((k : Nat) : Int) ∧ ol[k]? = some r ∧ k < ol.length := by
  have hxr := head_mem hx
  obtain ⟨h1, h2, h3⟩ := h.at_ hi hxr
  have hp : ¬ p ∈ r := fun hp => hn (h.at_ hi hp).2.2.symm
  have hq : ¬ q ∈ r := fun hp => hn2 (h.at_ hi hp).2.2.symm
  have hne : ∀ y, CnI (LkI (freeB bs) R gx gy) x y → y ≠ p ∧ y ≠ q := fun y hy => ⟨fun e => hp (by rw [h2, ← e]; exact (cls_mem h1).2 hy), fun e => hq (by rw [h2, ← e]; exact (cls_mem h1).2 hy)⟩
  obtain ⟨k, hk, hk2⟩ := hm.place h1
  have e : clsI (freeB bs) R gx gy x = clsI (freeB bs) (moreR R p q) gx gy x := cls_same h.ord hm.ord h1 h1 fun y z hy => by
    rw [lk_more]
    exact ⟨.inl, fun g => g.resolve_right fun g => by have := hne y hy; omega⟩
  exact ⟨k, hk, by rw [hk2, h2, e], (List.getElem?_eq_some_iff.1 hk2).1⟩
theorem alike {fb : List KB} {R : List KR} {gx gy p q : Int} {xl : List (List Int)} (h : IsS fb R gx gy xl) (hp : p ∈ fb.map (·.id)) (hq : q ∈ fb.map (·.id)) : placeI xl p = placeI xl q ↔ CnI (LkI fb R gx gy) p q := by
  obtain ⟨k, hk, hk2⟩ := h.place hp
  obtain ⟨l, hl, hl2⟩ := h.place hq
  constructor
  · intro e
    have : k = l := by omega
    subst this
    rw [hk2] at hl2
    have e2 := Option.some.inj hl2
    exact (cls_mem hp).1 (by rw [e2]; exact cls_self hq)
  · intro c
    have := (h.at_ hk2 ((cls_mem hp).2 c)).2.2
    rw [hk, this]
/-- a rope that joins nothing new -/
theorem more_eq {fb : List KB} {R : List KR} {gx gy p q : Int} {xl ol : List (List Int)} (h : IsS fb R gx gy xl) (hm : IsS fb (moreR R p q) gx gy ol) (hj : p ∈ fb.map (·.id) → q ∈ fb.map (·.id) → placeI xl p = placeI xl q) : ol = xl := by
  have key : ∀ x, clsI fb (moreR R p q) gx gy x = clsI fb R gx gy x := fun x => by
    unfold clsI
    refine List.filter_congr fun y hy => decide_eq_decide.2 ⟨fun c => ?_, fun c => c.mono fun _ _ _ e => lk_more.2 (.inl e)⟩
    clear hy
    induction c with
    | refl => exact .refl
    | @step y z _ e ih =>
      rcases lk_more.1 e with e | ⟨_, hy, hz, ⟨rfl, rfl⟩ | ⟨rfl, rfl⟩⟩
      · exact ih.step e
      · exact ih.trans ((alike h hy hz).1 (hj hy hz))
      · exact ih.trans (((alike h hz hy).1 (hj hz hy)).symm fun _ _ => LkI.symm)
  exact hm.ext h fun r => by simp only [key]
/-! a link more joins two classes -/
theorem conn_more {E F : Nat → Nat → Prop} {p q : Nat} (hF : ∀ i j, F i j ↔ E i j ∨ (i = p ∧ j = q) ∨ (i = q ∧ j = p)) {i j : Nat} : Conn F i j ↔ Conn E i j ∨ (Conn E i p ∧ Conn E q j) ∨ (Conn E i q ∧ Conn E p j) := by
  constructor
  · intro h
    induction h with
    | refl => exact .inl .refl
    | @step j k _ e ih =>
      rcases (hF j k).1 e with e | ⟨rfl, rfl⟩ | ⟨rfl, rfl⟩
      · rcases ih with h | ⟨h, g⟩ | ⟨h, g⟩
        · exact .inl (h.step e)
        · exact .inr (.inl ⟨h, g.step e⟩)
        · exact .inr (.inr ⟨h, g.step e⟩)
      · rcases ih with h | ⟨h, g⟩ | ⟨h, g⟩
        · exact .inr (.inl ⟨h, .refl⟩)
        · exact .inr (.inl ⟨h, .refl⟩)
        · exact .inl h
      · rcases ih with h | ⟨h, g⟩ | ⟨h, g⟩
        · exact .inr (.inr ⟨h, .refl⟩)
        · exact .inl h
        · exact .inr (.inr ⟨h, .refl⟩)
  · have hm : ∀ {a b}, Conn E a b → Conn F a b := fun c => c.mono fun a b e => (hF a b).2 (.inl e)
    rintro (h | ⟨h, g⟩ | ⟨h, g⟩)
    · exact hm h
    · exact ((hm h).step ((hF p q).2 (.inr (.inl ⟨rfl, rfl⟩)))).trans (hm g)
    · exact ((hm h).step ((hF q p).2 (.inr (.inr ⟨rfl, rfl⟩)))).trans (hm g)
theorem filter_ne {l : List Nat} {x : Nat} (hn : l.Nodup) (hx : x ∈ l) : (l.filter fun y => decide (y ≠ x)).length + 1 = l.length := by
  induction l with
  | nil => cases hx
  | cons a l ih =>
    obtain ⟨h1, h2⟩ := List.nodup_cons.1 hn
    rw [List.filter_cons]
    by_cases e : a = x
    · subst e
      rw [if_neg (by simp)]
      have : (l.filter fun y => decide (y ≠ a)) = l := List.filter_eq_self.2 fun y hy => by
        have : y ≠ a := fun e => h1 (e ▸ hy)
        simpa using this
      rw [this]; rfl
    · rw [if_pos (by simpa using e), List.length_cons, List.length_cons, ih h2 ((List.mem_cons.1 hx).resolve_left fun q => e q.symm)]
theorem firsts_join {E F : Nat → Nat → Prop} {p q n : Nat} (hs : ∀ i j, E i j → E j i) (hF : ∀ i j, F i j ↔ E i j ∨ (i = p ∧ j = q) ∨ (i = q ∧ j = p)) (hp : p < n) (hq : q < n) (hn : ¬ Conn E p q) : (firsts F n n).length + 1 = (firsts E n n).length := by
  obtain ⟨f, hf1, hf2, hf3⟩ := first_of hs p
  obtain ⟨g, hg1, hg2, hg3⟩ := first_of hs q
  -- the first of both is f; the other's first is none any more
  have main : ∀ {p q f g : Nat} {F : Nat → Nat → Prop}, (∀ i j, F i j ↔ E i j ∨ (i = p ∧ j = q) ∨ (i = q ∧ j = p)) → ¬ Conn E p q → f < g → g < n → Conn E f p → (∀ k, k < f → ¬ Conn E k f) → Conn E g q → (∀ k, k < g → ¬ Conn E k g) → (firsts F n n).length + 1 = (firsts E n n).length := by
    intro p q f g F hF hn hfg hgn hf2 hf3 hg2 hg3
    have e : firsts F n n = (firsts E n n).filter fun y => decide (y ≠ g) := by
      unfold firsts
      rw [List.filter_filter]
      refine List.filter_congr fun j hj => ?_
      classical
      rw [Bool.eq_iff_iff, Bool.and_eq_true, decide_eq_true_eq, decide_eq_true_eq, decide_eq_true_eq]
      refine ⟨fun h => ⟨?_, fun k hk c => h k hk ((conn_more hF).2 (.inl c))⟩, fun ⟨hjg, h⟩ k hk c => ?_⟩
      · rintro rfl
        exact h f hfg ((conn_more hF).2 (.inr (.inl ⟨hf2, hg2.symm hs⟩)))
      · rcases (conn_more hF).1 c with c | ⟨c1, c2⟩ | ⟨c1, c2⟩
        · exact h k hk c
        · have hc := hg2.trans c2
          rcases Nat.lt_trichotomy g j with q | q | q
          · exact h g q hc
          · exact hjg q.symm
          · exact hg3 j q (hc.symm hs)
        · have hc := hf2.trans c2
          have hkg : Conn E k g := c1.trans (hg2.symm hs)
          rcases Nat.lt_trichotomy f j with q | q | q
          · exact h f q hc
          · subst q
            exact hg3 k (by omega) hkg
          · exact hf3 j q (hc.symm hs)
    rw [e]
    exact filter_ne ((firsts_sorted E n).imp fun h => Nat.ne_of_lt h) (mem_firsts.2 ⟨hgn, hg3⟩)
  have hne : f ≠ g := fun e => hn ((hf2.symm hs).trans (e ▸ hg2))
  rcases Nat.lt_or_gt_of_ne hne with h | h
  · exact main hF hn h (by omega) hf2 hf3 hg2 hg3
  · exact main (fun i j => (hF i j).trans ⟨fun z => z.imp id Or.symm, fun z => z.imp id Or.symm⟩) (fun c => hn (c.symm hs)) h (by omega) hg2 hg3 hf2 hf3
/-- a rope that joins two islands -/
theorem more_join {fb : List KB} {R : List KR} {gx gy p q : Int} {xl ol : List (List Int)} (h : IsS fb R gx gy xl) (hm : IsS fb (moreR R p q) gx gy ol) (hp : p ∈ fb.map (·.id)) (hq : q ∈ fb.map (·.id)) (hn : placeI xl p ≠ placeI xl q) : ol.length + 1 = xl.length ∧ placeI ol p = placeI ol q := by
  have hne : p ≠ q := fun e => hn (by rw [e])
  have h2 : placeI ol p = placeI ol q := (alike hm hp hq).2 (CnI.step .refl (lk_more.2 (.inr ⟨hne, hp, hq, .inl ⟨rfl, rfl⟩⟩)))
  refine ⟨?_, h2⟩
  obtain ⟨a, ha, ea⟩ := List.mem_map.1 hp
  obtain ⟨b, hb, eb⟩ := List.mem_map.1 hq
  obtain ⟨i, hi⟩ := List.getElem?_of_mem ha
  obtain ⟨j, hj⟩ := List.getElem?_of_mem hb
  have hil := (List.getElem?_eq_some_iff.1 hi).1
  have hjl := (List.getElem?_eq_some_iff.1 hj).1
  have l1 := links_in (gx := gx) (gy := gy) h.ord h.rope
  have l2 := links_in (gx := gx) (gy := gy) hm.ord hm.rope
  have hF : ∀ k l, linkE fb (moreR R p q) gx gy k l ↔ linkE fb R gx gy k l ∨ (k = i ∧ l = j) ∨ (k = j ∧ l = i) := fun k l => by
    by_cases hk : k < fb.length ∧ l < fb.length
    · have gk := List.getElem?_eq_getElem hk.1
      have gl := List.getElem?_eq_getElem hk.2
      rw [link_id hm.ord hm.rope gk gl, link_id h.ord h.rope gk gl, lk_more]
      have kid : ∀ {m : Nat} {c : KB} {m' : Nat} {c' : KB}, fb[m]? = some c → fb[m']? = some c' → (c.id = c'.id ↔ m = m') := fun {m c m' c'} g1 g2 => ⟨fun e => idAt_inj h.ord (List.getElem?_eq_some_iff.1 g1).1 (List.getElem?_eq_some_iff.1 g2).1 (by rw [idAt_eq g1, idAt_eq g2, e]), fun e => by subst e; rw [g1] at g2; rw [Option.some.inj g2]⟩
      rw [← ea, ← eb, kid gk hi, kid gl hj, kid gk hj, kid gl hi]
      constructor
      · rintro (z | ⟨_, _, _, z⟩)
        · exact .inl z
        · exact .inr z
      · rintro (z | z)
        · exact .inl z
        · exact .inr ⟨by rw [ea, eb]; exact hne, List.mem_map.2 ⟨_, List.getElem_mem hk.1, rfl⟩, List.mem_map.2 ⟨_, List.getElem_mem hk.2, rfl⟩, z⟩
    · constructor
      · intro z; exfalso; rcases z with z | z <;> have := l2 _ z <;> omega
      · rintro (z | z)
        · exfalso; rcases z with z | z <;> have := l1 _ z <;> omega
        · exfalso; omega
  have hc : ¬ Conn (linkE fb R gx gy) i j := fun c => hn ((alike h hp hq).2 (by rw [← ea, ← eb]; exact (conn_id h.ord h.rope hi hj).1 c))
  have := firsts_join linkE_symm hF hil hjl hc
  rw [h.eq, hm.eq]
  unfold listsC classes
  rw [List.length_map, List.length_map, List.length_map, List.length_map]
  exact this
theorem free_id {bs : List KB} {R : List KR} {gx gy : Int} {a : KB} (hP : MadeP bs R gx gy) (ha : a ∈ bs) : a.id ∈ (freeB bs).map (·.id) ↔ a.fixed = false := by
  constructor
  · intro h
    obtain ⟨b, hb, e⟩ := List.mem_map.1 h
    obtain ⟨hb1, hb2⟩ := List.mem_filter.1 hb
    obtain ⟨i, hi⟩ := List.getElem?_of_mem hb1
    obtain ⟨j, hj⟩ := List.getElem?_of_mem ha
    have h1 := hP.bodies.1 i b hi
    have h2 := hP.bodies.1 j a hj
    have : i = j := by omega
    subst this
    rw [hi] at hj
    obtain rfl := Option.some.inj hj
    simpa using hb2
  · intro h
    exact List.mem_map.2 ⟨a, List.mem_filter.2 ⟨ha, by simp [h]⟩, rfl⟩
theorem one_at {xl : List (List Int)} {i : Nat} {r : List Int} (h : xl[i]? = some r) : (xl.take (i + 1)).drop i = [r] := by
  obtain ⟨h1, h2⟩ := List.getElem?_eq_some_iff.1 h
  rw [List.take_add_one, h, List.drop_append, List.drop_eq_nil_of_le (by rw [List.length_take]; omega), List.length_take, Nat.min_eq_left (by omega), Nat.sub_self]; rfl
end Go.Isl
