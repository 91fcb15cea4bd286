/-
  IslandClasses in plain terms: the classes, what is counted of them, which are crossed. Own work; plain Lean.
-/
import Derived.Test.YtoijanalppaplaaIsPlace
import Derived.Test.YtoijanalppaplaaIsLaw2
namespace Go.Isl
open Go.Sl Go.Brd Go.Stp Go.Proofs
noncomputable def CL (bs : List KB) (R : List KR) (gx gy : Int) : List (List Nat) := classes (linkE (freeB bs) R gx gy) (freeB bs).length
noncomputable def XL (bs : List KB) (R : List KR) (gx gy : Int) : List (List Int) := (CL bs R gx gy).map fun c => c.map (idAt (freeB bs))
/-- how many of the first k bodies move -/
def fi (bs : List KB) (k : Nat) : Nat := (freeB (bs.take k)).length
theorem fi_yes {bs : List KB} {k : Nat} {x : KB} (hx : bs[k]? = some x) (h : x.fixed = false) : fi bs (k + 1) = fi bs k + 1 := by
  unfold fi; rw [← freeB_yes hx h, List.length_append]; rfl
theorem fi_no {bs : List KB} {k : Nat} {x : KB} (hx : bs[k]? = some x) (h : x.fixed = true) : fi bs (k + 1) = fi bs k := by
  unfold fi; rw [freeB_no hx h]
theorem fi_all {bs : List KB} {k : Nat} (h : bs.length ≤ k) : fi bs k = (freeB bs).length := by unfold fi; rw [List.take_of_length_le h]
theorem fi_zero (bs : List KB) : fi bs 0 = 0 := rfl
theorem fi_succ (bs : List KB) (k : Nat) : fi bs k ≤ fi bs (k + 1) := by
  cases hx : bs[k]? with
  | none => rw [fi_all (List.getElem?_eq_none_iff.1 hx), fi_all (Nat.le_succ_of_le (List.getElem?_eq_none_iff.1 hx))]; exact Nat.le_refl _
  | some x =>
    cases h : x.fixed
    · rw [fi_yes hx h]; omega
    · rw [fi_no hx h]; exact Nat.le_refl _
theorem fi_mono {bs : List KB} {k l : Nat} (h : k ≤ l) : fi bs k ≤ fi bs l := by
  induction h with
  | refl => exact Nat.le_refl _
  | step _ ih => exact Nat.le_trans ih (fi_succ _ _)
theorem fi_get {bs : List KB} {k : Nat} {x : KB} (hx : bs[k]? = some x) (h : x.fixed = false) : (freeB bs)[fi bs k]? = some x := by
  obtain ⟨h1, h2⟩ := List.getElem?_eq_some_iff.1 hx
  have h3 : bs.drop k = x :: bs.drop (k + 1) := by rw [List.drop_eq_getElem_cons h1, h2]
  have h4 : freeB bs = freeB (bs.take k) ++ x :: freeB (bs.drop (k + 1)) := by
    have e : freeB bs = freeB (bs.take k ++ bs.drop k) := by rw [List.take_append_drop]
    rw [e]
    unfold freeB
    rw [List.filter_append, h3, List.filter_cons, if_pos (by simp [h])]
  rw [h4]; unfold fi
  rw [List.getElem?_append_right (Nat.le_refl _), Nat.sub_self]; rfl
theorem fi_lt {bs : List KB} {k : Nat} {x : KB} (hx : bs[k]? = some x) (h : x.fixed = false) : fi bs k < (freeB bs).length := (List.getElem?_eq_some_iff.1 (fi_get hx h)).1
theorem fi_le (bs : List KB) (k : Nat) : fi bs k ≤ (freeB bs).length := by
  rw [← fi_all (bs := bs) (k := max k bs.length) (by omega)]; exact fi_mono (by omega)
theorem made_ord {bs : List KB} {R : List KR} {gx gy : Int} (hP : MadeP bs R gx gy) : ordB (freeB bs) := freeB_ord hP.ok.2.2.2.2.1
/-- where a body that moves is placed -/
theorem place_body {bs : List KB} {R : List KR} {gx gy : Int} {k : Nat} {x : KB} {xl : List (List Int)} (hP : MadeP bs R gx gy) (hX : xl = XL bs R gx gy) (hx : bs[k]? = some x) (h : x.fixed = false) : ∃ (i : Nat) (c : List Nat), (CL bs R gx gy)[i]? = some c ∧ fi bs k ∈ c ∧ placeI xl x.id = ((i : Nat) : Int) ∧ i < xl.length := by
  subst hX
  obtain ⟨i, c, hi, hc⟩ := class_some (E := linkE (freeB bs) R gx gy) linkE_symm (fi_lt hx h)
  refine ⟨i, c, hi, hc, ?_, ?_⟩
  · rw [← idAt_eq (fi_get hx h)]; exact place_class linkE_symm (made_ord hP) hi hc
  · unfold XL; rw [List.length_map]; exact (List.getElem?_eq_some_iff.1 hi).1
theorem place_fixed {bs : List KB} {R : List KR} {gx gy : Int} {k : Nat} {x : KB} {xl : List (List Int)} (hP : MadeP bs R gx gy) (hX : xl = XL bs R gx gy) (hx : bs[k]? = some x) (h : x.fixed = true) : placeI xl x.id = -1 := by
  subst hX
  refine place_out fun b hb e => ?_
  obtain ⟨hb1, hb2⟩ := List.mem_filter.1 hb
  obtain ⟨j, hj⟩ := List.getElem?_of_mem hb1
  have h1 := hP.bodies.1 k x hx
  have h2 := hP.bodies.1 j b hj
  have : j = k := by omega
  subst this
  rw [hj] at hx
  obtain rfl := Option.some.inj hx
  rw [h] at hb2; cases hb2
theorem place_test {bs : List KB} {R : List KR} {gx gy : Int} {k : Nat} {x : KB} {xl : List (List Int)} (hP : MadeP bs R gx gy) (hX : xl = XL bs R gx gy) (hx : bs[k]? = some x) : (!(x.fixed == decide (placeI xl x.id < (0 : Int)))) = false := by
  cases h : x.fixed
  · obtain ⟨i, c, _, _, e, _⟩ := place_body hP hX hx h
    rw [e, decide_eq_false (by omega)]; rfl
  · rw [place_fixed hP hX hx h]; rfl
theorem xl_get {bs : List KB} {R : List KR} {gx gy : Int} {k : Nat} {r : List Int} {xl : List (List Int)} (hX : xl = XL bs R gx gy) (h : xl[k]? = some r) : ∃ c, (CL bs R gx gy)[k]? = some c ∧ r = c.map (idAt (freeB bs)) := by
  subst hX
  unfold XL at h
  rw [List.getElem?_map] at h
  obtain ⟨c, hc, e⟩ := Option.map_eq_some_iff.1 h
  exact ⟨c, hc, e.symm⟩
theorem class_head {E : Nat → Nat → Prop} (hs : ∀ i j, E i j → E j i) {n f : Nat} (h : f ∈ firsts E n n) : (classOf E n f)[0]? = some f := by
  obtain ⟨h1, h2⟩ := mem_firsts.1 h
  have hf : f ∈ classOf E n f := class_mem.2 ⟨h1, .refl⟩
  have hso := class_sorted E n f
  cases hc : classOf E n f with
  | nil => rw [hc] at hf; cases hf
  | cons a l =>
    rw [hc] at hf hso
    rcases List.mem_cons.1 hf with e | e
    · rw [e]; rfl
    · have := (List.pairwise_cons.1 hso).1 f e
      have ha : a ∈ classOf E n f := by rw [hc]; exact List.mem_cons_self
      exact absurd ((class_mem.1 ha).2.symm hs) (h2 a this)
theorem xl_first {bs : List KB} {R : List KR} {gx gy : Int} {k : Nat} {r : List Int} {xl : List (List Int)} (hX : xl = XL bs R gx gy) (h : xl[k]? = some r) : ∃ f, (firsts (linkE (freeB bs) R gx gy) (freeB bs).length (freeB bs).length)[k]? = some f ∧ f < (freeB bs).length ∧ r[0]? = some (idAt (freeB bs) f) := by
  obtain ⟨c, hc, rfl⟩ := xl_get hX h
  obtain ⟨f, hf, rfl⟩ := classes_get hc
  have hm := List.mem_of_getElem? hf
  exact ⟨f, hf, (mem_firsts.1 hm).1, by rw [List.getElem?_map, class_head linkE_symm hm]; rfl⟩
theorem xl_pos {bs : List KB} {R : List KR} {gx gy : Int} {k : Nat} {r : List Int} {xl : List (List Int)} (hX : xl = XL bs R gx gy) (h : xl[k]? = some r) : 0 < r.length := by
  obtain ⟨f, _, _, e⟩ := xl_first hX h
  exact (List.getElem?_eq_some_iff.1 e).1
theorem xl_lt {bs : List KB} {R : List KR} {gx gy : Int} {k : Nat} {r q : List Int} {a b : Int} {xl : List (List Int)} (hP : MadeP bs R gx gy) (hX : xl = XL bs R gx gy) (hk : 0 < k) (h1 : xl[k - 1]? = some q) (h2 : xl[k]? = some r) (ha : q[0]? = some a) (hb : r[0]? = some b) : a < b := by
  obtain ⟨f, hf, hfl, e⟩ := xl_first hX h1
  obtain ⟨f', hf', hfl', e'⟩ := xl_first hX h2
  rw [ha] at e; rw [hb] at e'
  injection e with e; injection e' with e'
  subst e e'
  refine idAt_lt (made_ord hP) ?_ hfl'
  have := firsts_sorted (linkE (freeB bs) R gx gy) (freeB bs).length
  obtain ⟨g1, g2⟩ := List.getElem?_eq_some_iff.1 hf
  obtain ⟨g3, g4⟩ := List.getElem?_eq_some_iff.1 hf'
  have := List.pairwise_iff_getElem.1 this (k - 1) k g1 g3 (by omega)
  rw [g2, g4] at this; exact this
theorem xl_in {bs : List KB} {R : List KR} {gx gy : Int} {k j : Nat} {r : List Int} {a b : Int} {xl : List (List Int)} (hP : MadeP bs R gx gy) (hX : xl = XL bs R gx gy) (hj : 1 ≤ j) (h : xl[k]? = some r) (ha : r[j - 1]? = some a) (hb : r[j]? = some b) : a < b := by
  obtain ⟨c, hc, rfl⟩ := xl_get hX h
  obtain ⟨f, hf, rfl⟩ := classes_get hc
  rw [List.getElem?_map] at ha hb
  obtain ⟨p, hp, rfl⟩ := Option.map_eq_some_iff.1 ha
  obtain ⟨q, hq, rfl⟩ := Option.map_eq_some_iff.1 hb
  obtain ⟨g1, g2⟩ := List.getElem?_eq_some_iff.1 hp
  obtain ⟨g3, g4⟩ := List.getElem?_eq_some_iff.1 hq
  have := List.pairwise_iff_getElem.1 (class_sorted (linkE (freeB bs) R gx gy) (freeB bs).length f) (j - 1) j g1 g3 (by omega)
  rw [g2, g4] at this
  exact idAt_lt (made_ord hP) this (class_mem.1 (List.mem_of_getElem? hq)).1
/-! how many they are -/
def lenS (l : List (List Int)) : Nat := (l.map List.length).sum
theorem lenS_next {l : List (List Int)} {k : Nat} {r : List Int} (h : l[k]? = some r) : lenS (l.take k) + r.length = lenS (l.take (k + 1)) := by
  unfold lenS
  rw [List.take_add_one, h, List.map_append, List.sum_append]; simp
theorem lenS_le (l : List (List Int)) (k : Nat) : lenS (l.take k) ≤ lenS l := by
  have : lenS l = lenS (l.take k ++ l.drop k) := by rw [List.take_append_drop]
  rw [this]; unfold lenS
  rw [List.map_append, List.sum_append]; omega
theorem class_flat {E : Nat → Nat → Prop} (hs : ∀ i j, E i j → E j i) (n : Nat) : (classes E n).flatten.Perm (List.range n) := by
  refine (List.perm_ext_iff_of_nodup ?_ List.nodup_range).2 fun a => ?_
  · unfold List.Nodup
    rw [List.pairwise_flatten]
    refine ⟨fun l hl => ?_, ?_⟩
    · obtain ⟨k, hk⟩ := List.getElem?_of_mem hl
      obtain ⟨f, _, rfl⟩ := classes_get hk
      exact class_nodup E n f
    · rw [List.pairwise_iff_getElem]
      intro i j hi hj hij x hx y hy e
      subst e
      have := (class_same hs (List.getElem?_eq_getElem hi) (List.getElem?_eq_getElem hj) hx hy).2 .refl
      omega
  · rw [List.mem_flatten, List.mem_range]
    constructor
    · rintro ⟨c, hc, ha⟩
      obtain ⟨k, hk⟩ := List.getElem?_of_mem hc
      exact class_lt hk ha
    · intro h
      obtain ⟨k, c, hk, hc⟩ := class_some hs h
      exact ⟨c, List.mem_of_getElem? hk, hc⟩
theorem xl_sum {bs : List KB} {R : List KR} {gx gy : Int} {xl : List (List Int)} (hX : xl = XL bs R gx gy) : lenS xl = (freeB bs).length := by
  subst hX
  have h := (class_flat (E := linkE (freeB bs) R gx gy) linkE_symm (freeB bs).length).length_eq
  rw [List.length_flatten, List.length_range] at h
  rw [← h]; unfold lenS XL CL
  rw [List.map_map]
  congr 1
  refine List.map_congr_left fun c _ => ?_
  show (c.map _).length = _
  rw [List.length_map]
/-! sides -/
def sideX (bits : Nat) (x : Int) : Bool := decide (bits / 2 ^ (min (x.toNat / 2) 16) % 2 = 1)
def sd (bs : List KB) (bits j : Nat) : Bool := sideX bits (idAt (freeB bs) j)
theorem sd_body {bs : List KB} {bits k : Nat} {x : KB} (hx : bs[k]? = some x) (h : x.fixed = false) : sd bs bits (fi bs k) = sideX bits x.id := by
  unfold sd; rw [idAt_eq (fi_get hx h)]
structure InnP (bs : List KB) (R : List KR) (gx gy : Int) (bits : Nat) (inn : List Int) (m : Nat) : Prop where
  len : inn.length = (CL bs R gx gy).length
  at_ : ∀ (i : Nat) (c : List Nat), (CL bs R gx gy)[i]? = some c → inn[i]? = some (((c.filter fun j => decide (j < m) && sd bs bits j).length : Nat) : Int)
structure CrP (bs : List KB) (R : List KR) (gx gy : Int) (bits : Nat) (cr : List Bool) (m q : Nat) : Prop where
  len : cr.length = (CL bs R gx gy).length
  at_ : ∀ (i : Nat) (c : List Nat), (CL bs R gx gy)[i]? = some c → ∀ p r : Nat, p ∈ c → p < r → r < (freeB bs).length → (p < m ∨ p = m ∧ r < q) → linkE (freeB bs) R gx gy p r → sd bs bits p ≠ sd bs bits r → cr[i]? = some true
theorem XL_len {bs : List KB} {R : List KR} {gx gy : Int} {xl : List (List Int)} (hX : xl = XL bs R gx gy) : xl.length = (CL bs R gx gy).length := by subst hX; unfold XL; rw [List.length_map]
theorem inn_start {bs : List KB} {R : List KR} {gx gy : Int} {bits : Nat} {xl : List (List Int)} (hX : xl = XL bs R gx gy) : InnP bs R gx gy bits (List.replicate xl.length 0) (fi bs 0) := by
  refine ⟨by rw [List.length_replicate, XL_len hX], fun i c hc => ?_⟩
  have hl := (List.getElem?_eq_some_iff.1 hc).1
  rw [List.getElem?_replicate, if_pos (by rw [XL_len hX]; exact hl)]
  have : (c.filter fun j => decide (j < fi bs 0) && sd bs bits j) = [] := List.filter_eq_nil_iff.2 fun j _ => by rw [fi_zero]; simp
  rw [this]; rfl
theorem cr_start {bs : List KB} {R : List KR} {gx gy : Int} {bits : Nat} {xl : List (List Int)} (hX : xl = XL bs R gx gy) : CrP bs R gx gy bits (List.replicate xl.length false) (fi bs 0) 0 :=
  ⟨by rw [List.length_replicate, XL_len hX], fun i c hc p r _ _ _ h => by rw [fi_zero] at h; omega⟩
theorem cnt_step {s : Nat → Bool} {m : Nat} : ∀ {c : List Nat}, c.Nodup → (c.filter fun j => decide (j < m + 1) && s j).length = (c.filter fun j => decide (j < m) && s j).length + if m ∈ c ∧ s m = true then 1 else 0
  | [], _ => by simp
  | a :: c, h => by
    obtain ⟨h1, h2⟩ := List.nodup_cons.1 h
    have ih := cnt_step (s := s) (m := m) h2
    rw [List.filter_cons, List.filter_cons]
    by_cases e : a = m
    · subst e
      rw [if_neg (c := (a ∈ c ∧ s a = true)) (fun q => h1 q.1)] at ih
      rw [if_neg (c := ((decide (a < a) && s a) = true)) (by simp)]
      cases hs : s a
      · rw [if_neg (by simp), if_neg (by simp), ih]
      · rw [if_pos (by simp), if_pos ⟨List.mem_cons_self, rfl⟩, List.length_cons, ih]
    · have e1 : (decide (a < m + 1) && s a) = (decide (a < m) && s a) := by
        congr 1; exact decide_eq_decide.2 (by omega)
      have e2 : (m ∈ a :: c ∧ s m = true) ↔ (m ∈ c ∧ s m = true) := by
        rw [List.mem_cons]
        exact ⟨fun ⟨q, r⟩ => ⟨q.resolve_left fun z => e z.symm, r⟩, fun ⟨q, r⟩ => ⟨.inr q, r⟩⟩
      rw [e1]
      simp only [e2]
      split
      · rw [List.length_cons, List.length_cons, ih]; omega
      · exact ih
theorem CL_nodup {bs : List KB} {R : List KR} {gx gy : Int} {i : Nat} {c : List Nat} (h : (CL bs R gx gy)[i]? = some c) : c.Nodup := by
  obtain ⟨f, _, rfl⟩ := classes_get h
  exact class_nodup _ _ f
theorem inn_no {bs : List KB} {R : List KR} {gx gy : Int} {bits m : Nat} {inn : List Int} (h : InnP bs R gx gy bits inn m) (hs : sd bs bits m = false) : InnP bs R gx gy bits inn (m + 1) :=
  ⟨h.len, fun i c hc => by rw [h.at_ i c hc, cnt_step (CL_nodup hc), if_neg (by rw [hs]; simp)]; rfl⟩
theorem inn_yes {bs : List KB} {R : List KR} {gx gy : Int} {bits m i : Nat} {c : List Nat} {v : Int} {inn : List Int} (h : InnP bs R gx gy bits inn m) (hc : (CL bs R gx gy)[i]? = some c) (hm : m ∈ c) (hs : sd bs bits m = true) (hv : inn[i]? = some v) : InnP bs R gx gy bits (inn.set i (v + 1)) (m + 1) := by
  refine ⟨by rw [List.length_set]; exact h.len, fun k d hd => ?_⟩
  rw [cnt_step (CL_nodup hd)]
  by_cases e : i = k
  · subst e
    rw [hc] at hd
    obtain rfl := Option.some.inj hd
    rw [List.getElem?_set_self (List.getElem?_eq_some_iff.1 hv).1, if_pos ⟨hm, hs⟩]
    rw [h.at_ i c hc] at hv
    rw [← Option.some.inj hv]; rfl
  · rw [List.getElem?_set_ne e, h.at_ k d hd, if_neg (fun q => e ((class_same linkE_symm hc hd hm q.1).2 .refl))]; rfl
theorem inn_bd {bs : List KB} {R : List KR} {gx gy : Int} {bits m i : Nat} {v : Int} {inn : List Int} (hP : MadeP bs R gx gy) (h : InnP bs R gx gy bits inn m) (hv : inn[i]? = some v) : 0 ≤ v ∧ v ≤ 16 := by
  have hl := (List.getElem?_eq_some_iff.1 hv).1
  rw [h.len] at hl
  have hc := List.getElem?_eq_getElem hl
  obtain ⟨f, _, e⟩ := classes_get hc
  have h1 := h.at_ i _ hc
  rw [hv] at h1
  have h2 := List.length_filter_le (fun j => decide (j < m) && sd bs bits j) ((CL bs R gx gy)[i])
  have h3 : ((CL bs R gx gy)[i]).length ≤ (freeB bs).length := by
    rw [e]; unfold classOf
    exact Nat.le_trans (List.length_filter_le _ _) (by rw [List.length_range]; exact Nat.le_refl _)
  have h4 := freeB_len bs
  have h5 := hP.few
  have h6 := Option.some.inj h1
  omega
theorem cr_first {bs : List KB} {R : List KR} {gx gy : Int} {bits m : Nat} {cr : List Bool} (h : CrP bs R gx gy bits cr m 0) : CrP bs R gx gy bits cr m (m + 1) :=
  ⟨h.len, fun i c hc p r hp hpr hr hq => h.at_ i c hc p r hp hpr hr (by omega)⟩
theorem cr_last {bs : List KB} {R : List KR} {gx gy : Int} {bits m : Nat} {cr : List Bool} (h : CrP bs R gx gy bits cr m (freeB bs).length) : CrP bs R gx gy bits cr (m + 1) 0 :=
  ⟨h.len, fun i c hc p r hp hpr hr hq => h.at_ i c hc p r hp hpr hr (by omega)⟩
theorem cr_no {bs : List KB} {R : List KR} {gx gy : Int} {bits m q : Nat} {cr : List Bool} (h : CrP bs R gx gy bits cr m q) (hn : linkE (freeB bs) R gx gy m q → sd bs bits m = sd bs bits q) : CrP bs R gx gy bits cr m (q + 1) :=
  ⟨h.len, fun i c hc p r hp hpr hr hq hl hs => by
    by_cases e : p = m ∧ r = q
    · obtain ⟨rfl, rfl⟩ := e; exact absurd (hn hl) hs
    · exact h.at_ i c hc p r hp hpr hr (by omega) hl hs⟩
theorem cr_yes {bs : List KB} {R : List KR} {gx gy : Int} {bits m q i : Nat} {c : List Nat} {cr : List Bool} (h : CrP bs R gx gy bits cr m q) (hc : (CL bs R gx gy)[i]? = some c) (hm : m ∈ c) : CrP bs R gx gy bits (cr.set i true) m (q + 1) := by
  refine ⟨by rw [List.length_set]; exact h.len, fun k d hd p r hp hpr hr hq hl hs => ?_⟩
  by_cases e : p = m ∧ r = q
  · obtain ⟨rfl, rfl⟩ := e
    have := (class_same linkE_symm hc hd hm hp).2 .refl
    subst this
    rw [List.getElem?_set_self (by rw [h.len]; exact (List.getElem?_eq_some_iff.1 hc).1)]
  · have h1 := h.at_ k d hd p r hp hpr hr (by omega) hl hs
    by_cases e2 : i = k
    · subst e2; rw [List.getElem?_set_self (List.getElem?_eq_some_iff.1 h1).1]
    · rw [List.getElem?_set_ne e2]; exact h1
theorem conn_cross {E : Nat → Nat → Prop} {s : Nat → Bool} {i j : Nat} (h : Conn E i j) (hs : s i ≠ s j) : ∃ p r, Conn E i p ∧ E p r ∧ s p ≠ s r := by
  induction h with
  | refl => exact absurd rfl hs
  | @step j k h1 h2 ih =>
    by_cases e : s i = s j
    · exact ⟨j, k, h1, h2, fun q => hs (e.trans q)⟩
    · exact ih e
theorem link_lt {bs : List KB} {R : List KR} {gx gy : Int} {p r : Nat} (hP : MadeP bs R gx gy) (h : linkE (freeB bs) R gx gy p r) : p < (freeB bs).length ∧ r < (freeB bs).length ∧ p ≠ r := by
  have hl := links_in (gx := gx) (gy := gy) (made_ord hP) (rs := R) fun r hr => (hP.ok.2.2.2.2.2 r hr).2.2.1
  rcases h with h | h
  · exact hl _ h
  · have := hl _ h; exact ⟨this.2.1, this.1, fun e => this.2.2 e.symm⟩
/-- an island that has bodies of both sides is crossed -/
theorem crossed {bs : List KB} {R : List KR} {gx gy : Int} {bits k : Nat} {xl : List (List Int)} {inn : List Int} {cr : List Bool} {r : List Int} {v : Int} {y : Bool} (hP : MadeP bs R gx gy) (hX : xl = XL bs R gx gy) (hi : InnP bs R gx gy bits inn (freeB bs).length) (hc : CrP bs R gx gy bits cr (freeB bs).length 0) (hr : xl[k]? = some r) (hv : inn[k]? = some v) (hy : cr[k]? = some y) (h0 : 0 < v) (h1 : v < ((r.length : Nat) : Int)) : y = true := by
  obtain ⟨c, hk, rfl⟩ := xl_get hX hr
  obtain ⟨f, _, e⟩ := classes_get hk
  have hlt : ∀ j ∈ c, j < (freeB bs).length := fun j hj => class_lt hk hj
  have h2 := hi.at_ k c hk
  rw [hv] at h2
  have h2 := Option.some.inj h2
  rw [List.length_map] at h1
  have hex : ∃ j ∈ c, sd bs bits j = true := by
    have hp : 0 < (c.filter fun j => decide (j < (freeB bs).length) && sd bs bits j).length := by omega
    obtain ⟨j, hj⟩ := List.exists_mem_of_length_pos hp
    obtain ⟨g1, g2⟩ := List.mem_filter.1 hj
    exact ⟨j, g1, by simpa using (Bool.and_eq_true _ _ ▸ g2).2⟩
  have hex2 : ∃ j ∈ c, sd bs bits j = false := by
    refine Classical.byContradiction fun hno => ?_
    have : (c.filter fun j => decide (j < (freeB bs).length) && sd bs bits j) = c := by
      rw [List.filter_eq_self]
      intro j hj
      cases hs : sd bs bits j
      · exact absurd ⟨j, hj, hs⟩ hno
      · rw [decide_eq_true (hlt j hj)]; rfl
    rw [this] at h2; omega
  obtain ⟨i, hi1, hi2⟩ := hex
  obtain ⟨j, hj1, hj2⟩ := hex2
  have hcn : Conn (linkE (freeB bs) R gx gy) i j := (class_same linkE_symm hk hk hi1 hj1).1 rfl
  obtain ⟨p, q, g1, g2, g3⟩ := conn_cross (s := sd bs bits) hcn (by rw [hi2, hj2]; decide)
  obtain ⟨g4, g5, g6⟩ := link_lt hP g2
  have hin : ∀ z, z < (freeB bs).length → Conn (linkE (freeB bs) R gx gy) i z → z ∈ c := fun z hz hcz => by
    rw [e] at hi1 ⊢; exact class_mem.2 ⟨hz, (class_mem.1 hi1).2.trans hcz⟩
  have hpc := hin p g4 g1
  have hqc := hin q g5 (g1.step g2)
  have : cr[k]? = some true := by
    rcases Nat.lt_or_gt_of_ne g6 with h | h
    · exact hc.at_ k c hk p q hpc h g5 (.inl g4) g2 g3
    · exact hc.at_ k c hk q p hqc h g4 (.inl g5) (linkE_symm _ _ g2) fun z => g3 z.symm
  rw [this] at hy
  exact (Option.some.inj hy).symm
/-! what the law takes for a link -/
def lkB (a b : KB) (gx gy : Int) (R : List KR) (r : Nat) : Bool := decide (touchA (reachA a gx gy) (reachA b gx gy)) || (R.take r).any fun z => decide (z.a = a.id) && decide (z.b = b.id)
theorem lk_zero (a b : KB) (gx gy : Int) (R : List KR) : lkB a b gx gy R 0 = decide (touchA (reachA a gx gy) (reachA b gx gy)) := by unfold lkB; simp
theorem lk_snoc {a b : KB} {gx gy : Int} {R : List KR} {r : Nat} {z : KR} (h : R[r]? = some z) : lkB a b gx gy R (r + 1) = (lkB a b gx gy R r || (decide (z.a = a.id) && decide (z.b = b.id))) := by
  unfold lkB
  rw [List.take_add_one, h, List.any_append, Bool.or_assoc]; simp
theorem rope_at {fb : List KB} {r : KR} {i j : Nat} {a b : KB} (ho : ordB fb) (ha : fb[i]? = some a) (hb : fb[j]? = some b) : ropeN fb r = some (i, j) ↔ r.a = a.id ∧ r.b = b.id := by
  have found : ∀ {k : Nat} {x : KB} {z : Int}, fb[k]? = some x → z = x.id → (findB fb z).isSome = true ∧ lbN fb z = k := fun {k x z} hx e => by
    have h1 : (findB fb z).isSome = true := by
      unfold findB; rw [List.find?_isSome]; exact ⟨x, List.mem_of_getElem? hx, by simp [e]⟩
    obtain ⟨b', hb', e'⟩ := lb_in ho h1
    refine ⟨h1, idAt_inj ho (List.getElem?_eq_some_iff.1 hb').1 (List.getElem?_eq_some_iff.1 hx).1 ?_⟩
    rw [idAt_eq hb', idAt_eq hx, e', e]
  unfold ropeN
  constructor
  · intro h
    split at h
    · rename_i h1
      obtain ⟨a', ha', ea⟩ := lb_in ho h1.1
      obtain ⟨b', hb', eb⟩ := lb_in ho h1.2
      have h2 := Option.some.inj h
      injection h2 with h3 h4
      rw [h3, ha] at ha'; rw [h4, hb] at hb'
      injection ha' with ha'; injection hb' with hb'
      subst ha' hb'
      exact ⟨ea.symm, eb.symm⟩
    · cases h
  · rintro ⟨e1, e2⟩
    obtain ⟨g1, g2⟩ := found ha e1
    obtain ⟨g3, g4⟩ := found hb e2
    rw [if_pos ⟨g1, g3⟩, g2, g4]
theorem lk_iff {bs : List KB} {R : List KR} {gx gy : Int} {k l : Nat} {a b : KB} (hP : MadeP bs R gx gy) (ha : bs[k]? = some a) (hb : bs[l]? = some b) (fa : a.fixed = false) (fb : b.fixed = false) (hkl : k < l) : lkB a b gx gy R R.length = true ↔ linkE (freeB bs) R gx gy (fi bs k) (fi bs l) := by
  have hlt : fi bs k < fi bs l := by have := fi_mono (bs := bs) (show k + 1 ≤ l from hkl); rw [fi_yes ha fa] at this; omega
  have ga := fi_get ha fa
  have gb := fi_get hb fb
  rw [linkE_iff hlt]
  unfold lkB
  rw [List.take_length, Bool.or_eq_true, decide_eq_true_eq, List.any_eq_true]
  constructor
  · rintro (h | ⟨r, hr, h⟩)
    · exact .inl ⟨a, b, ga, gb, h⟩
    · rw [Bool.and_eq_true, decide_eq_true_eq, decide_eq_true_eq] at h
      exact .inr ⟨r, hr, .inl ((rope_at (made_ord hP) ga gb).2 h)⟩
  · rintro (⟨a', b', ha', hb', h⟩ | ⟨r, hr, h | h⟩)
    · rw [ga] at ha'; rw [gb] at hb'
      injection ha' with ha'; injection hb' with hb'
      subst ha' hb'; exact .inl h
    · refine .inr ⟨r, hr, ?_⟩
      rw [Bool.and_eq_true, decide_eq_true_eq, decide_eq_true_eq]
      exact (rope_at (made_ord hP) ga gb).1 h
    · exfalso
      obtain ⟨e1, e2⟩ := (rope_at (made_ord hP) gb ga).1 h
      have h1 := (hP.ok.2.2.2.2.2 r hr).2.2.1
      have h2 := hP.bodies.1 k a ha
      have h3 := hP.bodies.1 l b hb
      omega
theorem place_link {bs : List KB} {R : List KR} {gx gy : Int} {k l i j : Nat} {c d : List Nat} (hc : (CL bs R gx gy)[i]? = some c) (hd : (CL bs R gx gy)[j]? = some d) (hk : fi bs k ∈ c) (hl : fi bs l ∈ d) (h : linkE (freeB bs) R gx gy (fi bs k) (fi bs l)) : i = j := (class_same linkE_symm hc hd hk hl).2 (.one h)
end Go.Isl
