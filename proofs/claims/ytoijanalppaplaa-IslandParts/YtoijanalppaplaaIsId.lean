/-
  Islands by the names of their bodies: what is in a list, and when lists of two scenes are the same. Own work; plain Lean.
-/
import Derived.Test.YtoijanalppaplaaIsLaw5
namespace Go.Isl
open Go.Sl Go.Brd Go.Stp Go.Proofs
/-- what can be come to by steps of E -/
inductive CnI (E : Int → Int → Prop) (x : Int) : Int → Prop
  | refl : CnI E x x
  | step {y z : Int} : CnI E x y → E y z → CnI E x z
theorem CnI.trans {E : Int → Int → Prop} {x y z : Int} (h : CnI E x y) (g : CnI E y z) : CnI E x z := by
  induction g with
  | refl => exact h
  | step _ e ih => exact ih.step e
theorem CnI.symm {E : Int → Int → Prop} (hs : ∀ x y, E x y → E y x) {x y : Int} (h : CnI E x y) : CnI E y x := by
  induction h with
  | refl => exact .refl
  | step _ e ih => exact (CnI.step .refl (hs _ _ e)).trans ih
theorem CnI.mono {E F : Int → Int → Prop} {x y : Int} (h : ∀ y z, CnI E x y → E y z → F y z) (c : CnI E x y) : CnI F x y := by
  induction c with
  | refl => exact .refl
  | step c e ih => exact ih.step (h _ _ c e)
theorem CnI.same {E F : Int → Int → Prop} {x y : Int} (h : ∀ y z, CnI E x y → (E y z ↔ F y z)) : CnI E x y ↔ CnI F x y := by
  refine ⟨CnI.mono fun y z c e => (h y z c).1 e, fun c => ?_⟩
  induction c with
  | refl => exact .refl
  | step _ e ih => exact ih.step ((h _ _ ih).2 e)
/-- two bodies that move are linked: by their names -/
def LkI (fb : List KB) (rs : List KR) (gx gy : Int) (x y : Int) : Prop := x ≠ y ∧ ∃ a ∈ fb, ∃ b ∈ fb, a.id = x ∧ b.id = y ∧ (touchA (reachA a gx gy) (reachA b gx gy) ∨ ∃ r ∈ rs, (r.a = x ∧ r.b = y) ∨ (r.a = y ∧ r.b = x))
theorem touch_symm {a b : KA} (h : touchA a b) : touchA b a := ⟨h.2.1, h.1, h.2.2.2, h.2.2.1⟩
theorem LkI.symm {fb : List KB} {rs : List KR} {gx gy x y : Int} (h : LkI fb rs gx gy x y) : LkI fb rs gx gy y x := by
  obtain ⟨h1, a, ha, b, hb, e1, e2, h⟩ := h
  exact ⟨fun e => h1 e.symm, b, hb, a, ha, e2, e1, h.imp touch_symm fun ⟨r, hr, q⟩ => ⟨r, hr, q.symm⟩⟩
theorem link_id {fb : List KB} {rs : List KR} {gx gy : Int} {i j : Nat} {a b : KB} (ho : ordB fb) (hr : ∀ r ∈ rs, r.a < r.b) (hi : fb[i]? = some a) (hj : fb[j]? = some b) : linkE fb rs gx gy i j ↔ LkI fb rs gx gy a.id b.id := by
  have main : ∀ {i j : Nat} {a b : KB}, i < j → fb[i]? = some a → fb[j]? = some b → (linkE fb rs gx gy i j ↔ LkI fb rs gx gy a.id b.id) := fun {i j a b} hij hi hj => by
    have hlt := ho.lt hij hi hj
    rw [linkE_iff hij]
    constructor
    · rintro (⟨a', b', ha', hb', h⟩ | ⟨r, hr', h | h⟩)
      · rw [hi] at ha'; rw [hj] at hb'
        injection ha' with ha'; injection hb' with hb'
        subst ha' hb'
        exact ⟨by omega, a, List.mem_of_getElem? hi, b, List.mem_of_getElem? hj, rfl, rfl, .inl h⟩
      · exact ⟨by omega, a, List.mem_of_getElem? hi, b, List.mem_of_getElem? hj, rfl, rfl, .inr ⟨r, hr', .inl ((rope_at ho hi hj).1 h)⟩⟩
      · exact ⟨by omega, a, List.mem_of_getElem? hi, b, List.mem_of_getElem? hj, rfl, rfl, .inr ⟨r, hr', .inr ((rope_at ho hj hi).1 h)⟩⟩
    · rintro ⟨_, a', ha', b', hb', e1, e2, h⟩
      obtain ⟨i', hi'⟩ := List.getElem?_of_mem ha'
      obtain ⟨j', hj'⟩ := List.getElem?_of_mem hb'
      have h1 : i' = i := idAt_inj ho (List.getElem?_eq_some_iff.1 hi').1 (List.getElem?_eq_some_iff.1 hi).1 (by rw [idAt_eq hi', idAt_eq hi, e1])
      have h2 : j' = j := idAt_inj ho (List.getElem?_eq_some_iff.1 hj').1 (List.getElem?_eq_some_iff.1 hj).1 (by rw [idAt_eq hj', idAt_eq hj, e2])
      subst h1 h2
      rw [hi] at hi'; rw [hj] at hj'
      injection hi' with hi'; injection hj' with hj'
      subst hi' hj'
      rcases h with h | ⟨r, hr', h | h⟩
      · exact .inl ⟨_, _, hi, hj, h⟩
      · exact .inr ⟨r, hr', .inl ((rope_at ho hi hj).2 h)⟩
      · exact .inr ⟨r, hr', .inr ((rope_at ho hj hi).2 h)⟩
  rcases Nat.lt_trichotomy i j with h | h | h
  · exact main h hi hj
  · subst h
    rw [hi] at hj
    obtain rfl := Option.some.inj hj
    have hl := links_in (gx := gx) (gy := gy) ho hr
    exact ⟨fun q => by rcases q with q | q <;> exact absurd rfl (hl _ q).2.2, fun q => absurd rfl q.1⟩
  · exact ⟨fun q => ((main h hj hi).1 (linkE_symm _ _ q)).symm, fun q => linkE_symm _ _ ((main h hj hi).2 q.symm)⟩
theorem conn_id {fb : List KB} {rs : List KR} {gx gy : Int} {i j : Nat} {a b : KB} (ho : ordB fb) (hr : ∀ r ∈ rs, r.a < r.b) (hi : fb[i]? = some a) (hj : fb[j]? = some b) : Conn (linkE fb rs gx gy) i j ↔ CnI (LkI fb rs gx gy) a.id b.id := by
  have hl := links_in (gx := gx) (gy := gy) ho hr
  constructor
  · intro h
    induction h generalizing b with
    | refl => rw [hi] at hj; obtain rfl := Option.some.inj hj; exact .refl
    | @step k l h1 h2 ih =>
      have hk : k < fb.length := by rcases h2 with q | q <;> have := hl _ q <;> omega
      exact (ih (List.getElem?_eq_getElem hk)).step ((link_id ho hr (List.getElem?_eq_getElem hk) hj).1 h2)
  · intro h
    have key : ∀ {y : Int}, CnI (LkI fb rs gx gy) a.id y → ∀ {j b}, fb[j]? = some b → b.id = y → Conn (linkE fb rs gx gy) i j := by
      intro y h
      induction h with
      | refl =>
        intro j b hj e
        have := idAt_inj ho (List.getElem?_eq_some_iff.1 hj).1 (List.getElem?_eq_some_iff.1 hi).1 (by rw [idAt_eq hj, idAt_eq hi, e])
        subst this; exact .refl
      | @step y z h1 h2 ih =>
        intro j b hj e
        obtain ⟨_, a', ha', _, _, e1, _, _⟩ := id h2
        obtain ⟨k, hk⟩ := List.getElem?_of_mem ha'
        exact (ih hk e1).step ((link_id ho hr hk hj).2 (by rw [e1, e]; exact h2))
    exact key h hj rfl
open Classical in
/-- the island of x, by names -/
noncomputable def clsI (fb : List KB) (rs : List KR) (gx gy : Int) (x : Int) : List Int := (fb.map (·.id)).filter fun y => decide (CnI (LkI fb rs gx gy) x y)
theorem ids_range (fb : List KB) : (List.range fb.length).map (idAt fb) = fb.map (·.id) := by
  refine List.ext_getElem (by simp) fun i h1 h2 => ?_
  rw [List.getElem_map, List.getElem_map, List.getElem_range]
  exact idAt_eq (List.getElem?_eq_getElem _)
theorem class_ids {fb : List KB} {rs : List KR} {gx gy : Int} {f : Nat} {a : KB} (ho : ordB fb) (hr : ∀ r ∈ rs, r.a < r.b) (hf : fb[f]? = some a) : (classOf (linkE fb rs gx gy) fb.length f).map (idAt fb) = clsI fb rs gx gy a.id := by
  unfold classOf clsI
  rw [← ids_range, List.filter_map]
  congr 1
  refine List.filter_congr fun j hj => ?_
  have hj := List.mem_range.1 hj
  refine decide_eq_decide.2 ?_
  rw [conn_id ho hr hf (List.getElem?_eq_getElem hj), ← idAt_eq (List.getElem?_eq_getElem hj)]
theorem cls_mem {fb : List KB} {rs : List KR} {gx gy x y : Int} (hx : x ∈ fb.map (·.id)) : y ∈ clsI fb rs gx gy x ↔ CnI (LkI fb rs gx gy) x y := by
  classical
  unfold clsI
  rw [List.mem_filter, decide_eq_true_eq]
  refine ⟨fun h => h.2, fun h => ⟨?_, h⟩⟩
  cases h with
  | refl => exact hx
  | step _ e => obtain ⟨_, _, _, b, hb, _, e2, _⟩ := e; exact List.mem_map.2 ⟨b, hb, e2⟩
theorem ids_sorted {fb : List KB} (ho : ordB fb) : (fb.map (·.id)).Pairwise (· < ·) := List.pairwise_map.2 (ordB_pair ho)
theorem cls_sorted {fb : List KB} {rs : List KR} {gx gy x : Int} (ho : ordB fb) : (clsI fb rs gx gy x).Pairwise (· < ·) := (ids_sorted ho).filter _
theorem sorted_ext {α : Type} {R : α → α → Prop} (hi : ∀ a, ¬ R a a) (ha : ∀ a b, R a b → ¬ R b a) : ∀ {l m : List α}, l.Pairwise R → m.Pairwise R → (∀ x, x ∈ l ↔ x ∈ m) → l = m
  | [], [], _, _, _ => rfl
  | [], b :: m, _, _, h => absurd ((h b).2 List.mem_cons_self) List.not_mem_nil
  | a :: l, [], _, _, h => absurd ((h a).1 List.mem_cons_self) List.not_mem_nil
  | a :: l, b :: m, hl, hm, h => by
    obtain ⟨l1, l2⟩ := List.pairwise_cons.1 hl
    obtain ⟨m1, m2⟩ := List.pairwise_cons.1 hm
    have e : a = b := by
      rcases List.mem_cons.1 ((h a).1 List.mem_cons_self) with e | e
      · exact e
      · rcases List.mem_cons.1 ((h b).2 List.mem_cons_self) with e2 | e2
        · exact e2.symm
        · exact absurd (m1 a e) (ha _ _ (l1 b e2))
    subst e
    congr 1
    refine sorted_ext hi ha l2 m2 fun x => ⟨fun hx => ?_, fun hx => ?_⟩
    · rcases List.mem_cons.1 ((h x).1 (List.mem_cons_of_mem _ hx)) with e | e
      · subst e; exact absurd (l1 x hx) (hi x)
      · exact e
    · rcases List.mem_cons.1 ((h x).2 (List.mem_cons_of_mem _ hx)) with e | e
      · subst e; exact absurd (m1 x hx) (hi x)
      · exact e
theorem ints_ext {l m : List Int} (hl : l.Pairwise (· < ·)) (hm : m.Pairwise (· < ·)) (h : ∀ x, x ∈ l ↔ x ∈ m) : l = m := sorted_ext (fun a => by omega) (fun a b => by omega) hl hm h
def headLt (r q : List Int) : Prop := ∃ a b, r[0]? = some a ∧ q[0]? = some b ∧ a < b
theorem lists_ext {l m : List (List Int)} (hl : l.Pairwise headLt) (hm : m.Pairwise headLt) (h : ∀ x, x ∈ l ↔ x ∈ m) : l = m :=
  sorted_ext (fun a ⟨x, y, h1, h2, h3⟩ => by rw [h1] at h2; injection h2 with h2; omega) (fun a b ⟨x, y, h1, h2, h3⟩ ⟨z, w, h4, h5, h6⟩ => by
    rw [h2] at h4; rw [h1] at h5; injection h4 with h4; injection h5 with h5; omega) hl hm h
/-- the same island in two scenes -/
theorem cls_same {fb fb' : List KB} {rs rs' : List KR} {gx gy gx' gy' x : Int} (ho : ordB fb) (ho' : ordB fb') (hx : x ∈ fb.map (·.id)) (hx' : x ∈ fb'.map (·.id)) (h : ∀ y z, CnI (LkI fb rs gx gy) x y → (LkI fb rs gx gy y z ↔ LkI fb' rs' gx' gy' y z)) : clsI fb rs gx gy x = clsI fb' rs' gx' gy' x :=
  ints_ext (cls_sorted ho) (cls_sorted ho') fun y => by rw [cls_mem hx, cls_mem hx', CnI.same h]
/-- of one scene: the islands of bodies that are joined -/
theorem cls_of {fb : List KB} {rs : List KR} {gx gy x y : Int} (ho : ordB fb) (hx : x ∈ fb.map (·.id)) (h : y ∈ clsI fb rs gx gy x) : y ∈ fb.map (·.id) ∧ clsI fb rs gx gy y = clsI fb rs gx gy x := by
  have hy : y ∈ fb.map (·.id) := (List.mem_filter.1 h).1
  have hc := (cls_mem hx).1 h
  exact ⟨hy, ints_ext (cls_sorted ho) (cls_sorted ho) fun z => by rw [cls_mem hy, cls_mem hx]; exact ⟨fun q => hc.trans q, fun q => (hc.symm fun _ _ => LkI.symm).trans q⟩⟩
theorem cls_self {fb : List KB} {rs : List KR} {gx gy x : Int} (hx : x ∈ fb.map (·.id)) : x ∈ clsI fb rs gx gy x := (cls_mem hx).2 .refl
/-- a scene whose islands are xl -/
structure IsS (fb : List KB) (rs : List KR) (gx gy : Int) (xl : List (List Int)) : Prop where
  ord : ordB fb
  rope : ∀ r ∈ rs, r.a < r.b
  eq : xl = listsC fb (linkE fb rs gx gy)
theorem IsS.mem {fb : List KB} {rs : List KR} {gx gy : Int} {xl : List (List Int)} (h : IsS fb rs gx gy xl) (r : List Int) : r ∈ xl ↔ ∃ x ∈ fb.map (·.id), r = clsI fb rs gx gy x := by
  rw [h.eq]
  constructor
  · intro hr
    obtain ⟨c, hc, rfl⟩ := List.mem_map.1 hr
    obtain ⟨f, hf, rfl⟩ := List.mem_map.1 hc
    have hl := (mem_firsts.1 hf).1
    have hg := List.getElem?_eq_getElem hl
    exact ⟨_, List.mem_map.2 ⟨_, List.getElem_mem hl, rfl⟩, class_ids h.ord h.rope hg⟩
  · rintro ⟨x, hx, rfl⟩
    obtain ⟨a, ha, rfl⟩ := List.mem_map.1 hx
    obtain ⟨i, hi⟩ := List.getElem?_of_mem ha
    have hil := (List.getElem?_eq_some_iff.1 hi).1
    obtain ⟨f, hfi, hc, hmin⟩ := first_of (E := linkE fb rs gx gy) linkE_symm i
    have hfl : f < fb.length := by omega
    have hg := List.getElem?_eq_getElem hfl
    refine List.mem_map.2 ⟨classOf (linkE fb rs gx gy) fb.length f, List.mem_map.2 ⟨f, mem_firsts.2 ⟨hfl, hmin⟩, rfl⟩, ?_⟩
    show (classOf _ _ f).map (idAt fb) = _
    rw [class_ids h.ord h.rope hg]
    have := (conn_id h.ord h.rope hg hi).1 hc
    exact (cls_of h.ord (List.mem_map.2 ⟨_, List.getElem_mem hfl, rfl⟩) ((cls_mem (List.mem_map.2 ⟨_, List.getElem_mem hfl, rfl⟩)).2 this)).2.symm
theorem IsS.heads {fb : List KB} {rs : List KR} {gx gy : Int} {xl : List (List Int)} (h : IsS fb rs gx gy xl) : xl.Pairwise headLt := by
  rw [h.eq]
  unfold listsC classes
  rw [List.pairwise_map, List.pairwise_map]
  refine List.Pairwise.imp_of_mem (fun {f g} hf hg hfg => ?_) (firsts_sorted (linkE fb rs gx gy) fb.length)
  refine ⟨idAt fb f, idAt fb g, ?_, ?_, idAt_lt h.ord hfg (mem_firsts.1 hg).1⟩
  · rw [List.getElem?_map, class_head linkE_symm hf]; rfl
  · rw [List.getElem?_map, class_head linkE_symm hg]; rfl
/-- where a body is placed stands its island -/
theorem IsS.place {fb : List KB} {rs : List KR} {gx gy x : Int} {xl : List (List Int)} (h : IsS fb rs gx gy xl) (hx : x ∈ fb.map (·.id)) : ∃ k : Nat, placeI xl x = ((k : Nat) : Int) ∧ xl[k]? = some (clsI fb rs gx gy x) := by
  obtain ⟨a, ha, rfl⟩ := List.mem_map.1 hx
  obtain ⟨i, hi⟩ := List.getElem?_of_mem ha
  obtain ⟨k, c, hk, hc⟩ := class_some (E := linkE fb rs gx gy) linkE_symm (List.getElem?_eq_some_iff.1 hi).1
  have h1 := place_class linkE_symm h.ord hk hc
  rw [idAt_eq hi] at h1
  refine ⟨k, by rw [h.eq]; exact h1, ?_⟩
  rw [h.eq]; unfold listsC
  rw [List.getElem?_map, hk]
  show some (c.map (idAt fb)) = _
  obtain ⟨f, hf, rfl⟩ := classes_get hk
  have hfl := (mem_firsts.1 (List.mem_of_getElem? hf)).1
  have hg := List.getElem?_eq_getElem hfl
  have hfm : (fb[f]).id ∈ fb.map (·.id) := List.mem_map.2 ⟨_, List.getElem_mem hfl, rfl⟩
  rw [class_ids h.ord h.rope hg]
  congr 1
  exact (cls_of h.ord hfm ((cls_mem hfm).2 ((conn_id h.ord h.rope hg hi).1 (class_mem.1 hc).2))).2.symm
theorem IsS.out {fb : List KB} {rs : List KR} {gx gy x : Int} {xl : List (List Int)} (h : IsS fb rs gx gy xl) (hx : ¬ x ∈ fb.map (·.id)) : placeI xl x = -1 := by
  rw [h.eq]
  exact place_out fun b hb e => hx (List.mem_map.2 ⟨b, hb, e⟩)
/-- an island stands where its bodies are placed -/
theorem IsS.at_ {fb : List KB} {rs : List KR} {gx gy x : Int} {xl : List (List Int)} {i : Nat} {r : List Int} (h : IsS fb rs gx gy xl) (hi : xl[i]? = some r) (hx : x ∈ r) : x ∈ fb.map (·.id) ∧ r = clsI fb rs gx gy x ∧ placeI xl x = ((i : Nat) : Int) := by
  obtain ⟨z, hz, e⟩ := (h.mem r).1 (List.mem_of_getElem? hi)
  rw [e] at hx
  obtain ⟨h1, h2⟩ := cls_of h.ord hz hx
  refine ⟨h1, by rw [e, h2], ?_⟩
  obtain ⟨k, hk, hk2⟩ := h.place h1
  rw [hk]
  have e2 : r = clsI fb rs gx gy x := by rw [e, h2]
  have hp := h.heads
  rw [List.pairwise_iff_getElem] at hp
  obtain ⟨g1, g2⟩ := List.getElem?_eq_some_iff.1 hi
  obtain ⟨g3, g4⟩ := List.getElem?_eq_some_iff.1 hk2
  have irr : ∀ q : List Int, ¬ headLt q q := fun q ⟨a, b, h1, h2, h3⟩ => by rw [h1] at h2; injection h2 with h2; omega
  rcases Nat.lt_trichotomy i k with q | q | q
  · have := hp i k g1 g3 q
    rw [g2, g4, e2] at this
    exact absurd this (irr _)
  · rw [q]
  · have := hp k i g3 g1 q
    rw [g2, g4, e2] at this
    exact absurd this (irr _)
theorem IsS.first {fb : List KB} {rs : List KR} {gx gy : Int} {xl : List (List Int)} {i : Nat} {r : List Int} (h : IsS fb rs gx gy xl) (hi : xl[i]? = some r) : 0 < r.length := by
  obtain ⟨z, hz, e⟩ := (h.mem r).1 (List.mem_of_getElem? hi)
  have := cls_self (rs := rs) (gx := gx) (gy := gy) hz
  rw [← e] at this
  exact List.length_pos_of_mem this
/-- two scenes that have the same bodies, and whose bodies are joined alike, have the same islands -/
theorem IsS.ext {fb fb' : List KB} {rs rs' : List KR} {gx gy gx' gy' : Int} {xl xl' : List (List Int)} (h : IsS fb rs gx gy xl) (h' : IsS fb' rs' gx' gy' xl') (he : ∀ r, (∃ x ∈ fb.map (·.id), r = clsI fb rs gx gy x) ↔ ∃ x ∈ fb'.map (·.id), r = clsI fb' rs' gx' gy' x) : xl = xl' :=
  lists_ext h.heads h'.heads fun r => by rw [h.mem, h'.mem]; exact he r
theorem IsS.of {bs : List KB} {rs : List KR} {gx gy : Int} {xl : List (List Int)} (h : okS bs rs gx gy) (e : xl = islR bs rs gx gy) : IsS (freeB bs) rs gx gy xl :=
  ⟨freeB_ord h.2.2.2.2.1, fun r hr => (h.2.2.2.2.2 r hr).2.2.1, by rw [e, islR, if_pos h]; exact islX_eq h⟩
end Go.Isl
