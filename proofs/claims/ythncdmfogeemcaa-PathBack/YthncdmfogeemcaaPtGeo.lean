/-
  Ways in a mesh, by the rooms themselves: what Find's answer means. Own work; plain Lean.
-/
import Derived.Test.YthncdmfogeemcaaPtMade
namespace Go.Pth
open Go.Sl Go.Brd
/-- there is a way of this length between the two points' nodes -/
def DW (l : List KA) (p q : KV) (L : Nat) : Prop := ∃ k, Wk (nrM l p q) (wtL (nodeL l p q)) ((portL l).length + 1) (portL l).length L k
theorem find_min {l : List KA} {p q : KV} {way : List KV} {n : Nat} {e : Int} (hM : okM l) (h : FindR l p q way n e) : (e = 0 ∧ DW l p q n ∧ ∀ L, DW l p q L → n ≤ L) ∨ (e = 6 ∧ n = 0 ∧ ∀ L, ¬ DW l p q L) := by
  have hN := nodeL_len l p q
  rcases h with ⟨h, _⟩ | ⟨_, out, hk, h⟩
  · exact absurd hM h
  · rcases h with ⟨h0, _, h1, h2⟩ | ⟨h0, _, h1, h2⟩
    · right
      refine ⟨h2, h1, fun L ⟨k, hw⟩ => ?_⟩
      have := (Mk.le hk hw).2.1
      omega
    · left
      refine ⟨h2, ⟨_, h1 ▸ Mk.wk' hk (by omega) h0⟩, fun L ⟨k, hw⟩ => ?_⟩
      have := (Mk.le hk hw).2.2
      unfold leM at this; simp only at this; omega
/-! the nodes by what they are -/
inductive Tg where
  | po (a b : KA)
  | be
  | en
def midA (a b : KA) : KV := ⟨((comA a b).lx + (comA a b).hx) / 2, ((comA a b).ly + (comA a b).hy) / 2⟩
def okT (l : List KA) : Tg → Prop
  | .po a b => a ∈ l ∧ b ∈ l ∧ a ≠ b ∧ touchA a b ∧ ¬ ((comA a b).lx = (comA a b).hx ∧ (comA a b).ly = (comA a b).hy)
  | _ => True
def ptT (p q : KV) : Tg → KV
  | .po a b => midA a b
  | .be => p
  | .en => q
def inT (l : List KA) (p q : KV) : Tg → KA → Prop
  | .po a b, x => x = a ∨ x = b
  | .be, x => x ∈ l ∧ hasP x p.x p.y
  | .en, x => x ∈ l ∧ hasP x q.x q.y
def dT (p q : KV) (u v : Tg) : Nat := lenV (ptT p q u).x (ptT p q u).y (ptT p q v).x (ptT p q v).y
def hopT (l : List KA) (p q : KV) (u v : Tg) : Prop := ∃ a, inT l p q u a ∧ inT l p q v a
/-- a way of one step or more -/
inductive Gw (l : List KA) (p q : KV) (u : Tg) : Tg → Nat → Prop where
  | one {v : Tg} : okT l u → okT l v → hopT l p q u v → Gw l p q u v (dT p q u v)
  | snoc {v w : Tg} {L : Nat} : Gw l p q u v L → okT l w → hopT l p q v w → Gw l p q u w (L + dT p q v w)
def Geo (l : List KA) (p q : KV) (L : Nat) : Prop := Gw l p q .en .be L
section
variable {l : List KA} {p q : KV}
theorem hopT.symm {u v : Tg} (h : hopT l p q u v) : hopT l p q v u := let ⟨a, x, y⟩ := h; ⟨a, y, x⟩
theorem dT_comm (u v : Tg) : dT p q u v = dT p q v u := lenV_comm _ _ _ _
theorem Gw.ok {u v : Tg} {L : Nat} (h : Gw l p q u v L) : okT l u ∧ okT l v := by
  induction h with
  | one a b _ => exact ⟨a, b⟩
  | snoc _ b _ ih => exact ⟨ih.1, b⟩
theorem Gw.trans {u v w : Tg} {L M : Nat} (h : Gw l p q u v L) (g : Gw l p q v w M) : Gw l p q u w (L + M) := by
  induction g with
  | one _ b c => exact .snoc h b c
  | snoc _ b c ih => rw [← Nat.add_assoc]; exact .snoc ih b c
theorem Gw.symm {u v : Tg} {L : Nat} (h : Gw l p q u v L) : Gw l p q v u L := by
  induction h with
  | one a b c => rw [dT_comm]; exact .one b a c.symm
  | @snoc v w L h b c ih => rw [dT_comm, Nat.add_comm]; exact (Gw.one b h.ok.2 c.symm).trans ih
/-! indices and areas -/
theorem pairT_mem : ∀ (L : List KT) (i k : Nat) (x y : KT), L[i]? = some x → L[k]? = some y → i < k → touchA x.ar y.ar → mkP x y ∈ pairsT L := by
  intro L
  induction L with
  | nil => intro i k x y h; simp at h
  | cons z L ih =>
    intro i k x y hx hy hik ht
    cases k with
    | zero => omega
    | succ k =>
      cases i with
      | zero =>
        have : z = x := by simpa using hx
        subst this
        exact List.mem_append_left _ (List.mem_map.2 ⟨y, List.mem_filter.2 ⟨List.mem_of_getElem? (by simpa using hy), decide_eq_true ht⟩, rfl⟩)
      | succ i => exact List.mem_append_right _ (ih i k x y (by simpa using hx) (by simpa using hy) (by omega) ht)
theorem okM_ne (hM : okM l) {i k : Nat} {a b : KA} (hi : l[i]? = some a) (hk : l[k]? = some b) (hik : i ≠ k) : a ≠ b := by
  have key : ∀ {i k : Nat} {a : KA}, l[i]? = some a → l[k]? = some a → i < k → False := by
    intro i k a hi hk hlt
    have ha := hM.2.1 a (List.mem_of_getElem? hi)
    have ht : touchA a a := by obtain ⟨⟨⟨a1, a2, a3⟩, a4, a5, a6⟩, _⟩ := ha; exact ⟨a2, a2, a5, a5⟩
    have hp : (⟨(i : Int), (k : Int)⟩ : KP) ∈ pairsA l := by
      rw [pairsA_eq]
      have h1 : (things l 0)[i]? = some ⟨(i : Int), a⟩ := by rw [things_get, hi, Nat.zero_add]; rfl
      have h2 : (things l 0)[k]? = some ⟨(k : Int), a⟩ := by rw [things_get, hk, Nat.zero_add]; rfl
      have := pairT_mem _ i k _ _ h1 h2 hlt ht
      rwa [show mkP ⟨(i : Int), a⟩ ⟨(k : Int), a⟩ = ⟨(i : Int), (k : Int)⟩ by unfold mkP; congr 1 <;> simp only <;> omega] at this
    have hf := hM.2.2 _ hp
    rw [comP_of hi hk] at hf
    unfold flatA comA at hf
    have := ha.2
    unfold flatA at this
    simp only at hf
    omega
  intro e; subst e
  rcases Nat.lt_or_ge i k with q | q
  · exact key hi hk q
  · exact key hk hi (by omega)
theorem okM_ix (hM : okM l) {i k : Nat} {a : KA} (hi : l[i]? = some a) (hk : l[k]? = some a) : i = k := by
  by_cases h : i = k
  · exact h
  · exact absurd rfl (okM_ne hM hi hk h)
theorem port_mem {i k : Nat} {a b : KA} (hi : l[i]? = some a) (hk : l[k]? = some b) (hik : i < k) (ht : touchA a b) (hf : ¬ ((comA a b).lx = (comA a b).hx ∧ (comA a b).ly = (comA a b).hy)) : (⟨i, k, (midA a b).x, (midA a b).y⟩ : KO) ∈ portL l := by
  refine List.mem_filterMap.2 ⟨⟨(i : Int), (k : Int)⟩, ?_, ?_⟩
  · rw [pairsA_eq]
    have h1 : (things l 0)[i]? = some ⟨(i : Int), a⟩ := by rw [things_get, hi, Nat.zero_add]; rfl
    have h2 : (things l 0)[k]? = some ⟨(k : Int), b⟩ := by rw [things_get, hk, Nat.zero_add]; rfl
    have := pairT_mem _ i k _ _ h1 h2 hik ht
    rwa [show mkP ⟨(i : Int), a⟩ ⟨(k : Int), b⟩ = ⟨(i : Int), (k : Int)⟩ by unfold mkP; congr 1 <;> simp only <;> omega] at this
  · unfold portO; rw [comP_of hi hk, if_neg hf]; rfl
theorem com_comm (a b : KA) : comA a b = comA b a := by unfold comA; congr 1 <;> omega
theorem mid_comm (a b : KA) : midA a b = midA b a := by unfold midA; rw [com_comm]
/-- node n is what t says -/
def IsT (l : List KA) (p q : KV) (n : Nat) (t : Tg) : Prop := n < (nodeL l p q).length ∧ vAt (nodeL l p q) n = ptT p q t ∧ ∀ r a, l[r]? = some a → (r ∈ (nAt (nodeL l p q) n).rs ↔ inT l p q t a)
theorem nAt_be : nAt (nodeL l p q) (portL l).length = ⟨p.x, p.y, roomF l p.x p.y⟩ := by
  unfold nAt nodeL
  rw [List.getD_eq_getElem?_getD, List.getElem?_append_right (by rw [List.length_map]; exact Nat.le_refl _), List.length_map, Nat.sub_self]; rfl
theorem nAt_en : nAt (nodeL l p q) ((portL l).length + 1) = ⟨q.x, q.y, roomF l q.x q.y⟩ := by
  unfold nAt nodeL
  rw [List.getD_eq_getElem?_getD, List.getElem?_append_right (by rw [List.length_map]; omega), List.length_map, show (portL l).length + 1 - (portL l).length = 1 by omega]; rfl
theorem nAt_po {n : Nat} {o : KO} (h : (portL l)[n]? = some o) : nAt (nodeL l p q) n = ⟨o.x, o.y, [o.a, o.b]⟩ := by
  have := (List.getElem?_eq_some_iff.1 h).1
  unfold nAt nodeL
  rw [List.getD_eq_getElem?_getD, List.getElem?_append_left (by rw [List.length_map]; exact this), List.getElem?_map, h]; rfl
theorem roomF_has {x y : Int} {r : Nat} {a : KA} (h : l[r]? = some a) : r ∈ roomF l x y ↔ a ∈ l ∧ hasP a x y := by
  rw [roomF_mem]
  constructor
  · rintro ⟨b, h1, h2⟩; rw [h] at h1; injection h1 with h1; subst h1; exact ⟨List.mem_of_getElem? h, h2⟩
  · rintro ⟨_, h2⟩; exact ⟨a, h, h2⟩
theorem is_be : IsT l p q (portL l).length .be := ⟨by rw [nodeL_len]; omega, by unfold vAt; rw [nAt_be]; rfl, fun r a h => by rw [nAt_be]; exact roomF_has h⟩
theorem is_en : IsT l p q ((portL l).length + 1) .en := ⟨by rw [nodeL_len]; omega, by unfold vAt; rw [nAt_en]; rfl, fun r a h => by rw [nAt_en]; exact roomF_has h⟩
theorem is_po (hM : okM l) {n i k : Nat} {a b : KA} (hi : l[i]? = some a) (hk : l[k]? = some b) (h : (portL l)[n]? = some ⟨i, k, (midA a b).x, (midA a b).y⟩) : IsT l p q n (.po a b) := by
  have hn := (List.getElem?_eq_some_iff.1 h).1
  refine ⟨by rw [nodeL_len]; omega, by unfold vAt; rw [nAt_po h]; rfl, fun r x hx => ?_⟩
  rw [nAt_po h]
  show r ∈ [i, k] ↔ x = a ∨ x = b
  simp only [List.mem_cons, List.not_mem_nil, or_false]
  constructor
  · rintro (rfl | rfl)
    · rw [hi] at hx; injection hx with hx; exact .inl hx.symm
    · rw [hk] at hx; injection hx with hx; exact .inr hx.symm
  · rintro (rfl | rfl)
    · exact .inl (okM_ix hM hx hi)
    · exact .inr (okM_ix hM hx hk)
/-- every node is something, everything is a node -/
theorem tag_of (hM : okM l) {n : Nat} (h : n < (nodeL l p q).length) : ∃ t, okT l t ∧ IsT l p q n t ∧ (n = (portL l).length → t = .be) := by
  rw [nodeL_len] at h
  by_cases h1 : n < (portL l).length
  · obtain ⟨o, ho⟩ : ∃ o, (portL l)[n]? = some o := ⟨_, List.getElem?_eq_getElem h1⟩
    obtain ⟨a, b, q1, q2, q3, q4, q5, q6, q7, q8⟩ := port_two (List.mem_of_getElem? ho)
    have e : o = ⟨o.a, o.b, (midA a b).x, (midA a b).y⟩ := by cases o; simp only at q6 q7; subst q6; subst q7; rfl
    exact ⟨.po a b, ⟨List.mem_of_getElem? q3, List.mem_of_getElem? q4, okM_ne hM q3 q4 (by omega), q5, q8⟩, is_po hM q3 q4 (by rw [← e]; exact ho), fun z => by omega⟩
  · by_cases h2 : n = (portL l).length
    · subst h2; exact ⟨.be, trivial, is_be, fun _ => rfl⟩
    · have : n = (portL l).length + 1 := by omega
      subst this; exact ⟨.en, trivial, is_en, fun z => by omega⟩
theorem touch_sym {a b : KA} (h : touchA a b) : touchA b a := ⟨h.2.1, h.1, h.2.2.2, h.2.2.1⟩
theorem node_of (hM : okM l) {t : Tg} (h : okT l t) : ∃ n, IsT l p q n t := by
  cases t with
  | be => exact ⟨_, is_be⟩
  | en => exact ⟨_, is_en⟩
  | po a b =>
    obtain ⟨h1, h2, h3, h4, h5⟩ := h
    obtain ⟨i, hi⟩ := List.getElem?_of_mem h1
    obtain ⟨k, hk⟩ := List.getElem?_of_mem h2
    rcases Nat.lt_trichotomy i k with z | z | z
    · obtain ⟨n, hn⟩ := List.getElem?_of_mem (port_mem hi hk z h4 h5)
      exact ⟨n, is_po hM hi hk hn⟩
    · subst z; rw [hi] at hk; exact absurd (Option.some.inj hk) h3
    · obtain ⟨n, hn⟩ := List.getElem?_of_mem (port_mem hk hi z (touch_sym h4) (by rw [com_comm]; exact h5))
      obtain ⟨e1, e2, e3⟩ := is_po (p := p) (q := q) hM hk hi hn
      exact ⟨n, e1, by rw [e2]; show midA b a = midA a b; exact mid_comm _ _, fun r x hx => (e3 r x hx).trans ⟨Or.symm, Or.symm⟩⟩
theorem in_l {t : Tg} {a : KA} (h : okT l t) (ha : inT l p q t a) : a ∈ l := by
  cases t with
  | be => exact ha.1
  | en => exact ha.1
  | po x y =>
    rcases ha with rfl | rfl
    · exact h.1
    · exact h.2.1
theorem is_hop {n m : Nat} {t u : Tg} (ht : okT l t) (hn : IsT l p q n t) (hm : IsT l p q m u) : (∃ r, r < l.length ∧ r ∈ (nAt (nodeL l p q) n).rs ∧ r ∈ (nAt (nodeL l p q) m).rs) ↔ hopT l p q t u := by
  constructor
  · rintro ⟨r, h1, h2, h3⟩
    have hr := List.getElem?_eq_getElem h1
    exact ⟨l[r], (hn.2.2 r _ hr).1 h2, (hm.2.2 r _ hr).1 h3⟩
  · rintro ⟨a, h1, h2⟩
    obtain ⟨r, hr⟩ := List.getElem?_of_mem (in_l ht h1)
    exact ⟨r, (List.getElem?_eq_some_iff.1 hr).1, (hn.2.2 r a hr).2 h1, (hm.2.2 r a hr).2 h2⟩
theorem wt_is {n m : Nat} {t u : Tg} (hn : IsT l p q n t) (hm : IsT l p q m u) : wtL (nodeL l p q) n m = dT p q t u := by
  have h1 := hn.2.1; have h2 := hm.2.1
  unfold vAt at h1 h2
  unfold wtL dT; rw [← h1, ← h2]
theorem dT_zero {u v : Tg} (h : ptT p q u = ptT p q v) : dT p q u v = 0 := by unfold dT; rw [h]; exact lenV_self _ _
theorem wk_geo (hM : okM l) {n L k : Nat} (w : Wk (nrM l p q) (wtL (nodeL l p q)) ((portL l).length + 1) n L k) : (n = (portL l).length + 1 ∧ L = 0) ∨ ∃ t, okT l t ∧ IsT l p q n t ∧ (n = (portL l).length → t = .be) ∧ Gw l p q .en t L := by
  induction w with
  | nil => exact .inl ⟨rfl, rfl⟩
  | @cons m k L c w hk ih =>
    right
    obtain ⟨h1, h2, r, h3, h4, h5⟩ := nr_mem.1 hk
    obtain ⟨t, ht, hi, hb⟩ := tag_of hM h1
    rcases ih with ⟨rfl, rfl⟩ | ⟨u, hu, hj, -, g⟩
    · refine ⟨t, ht, hi, hb, ?_⟩
      rw [Nat.zero_add, wt_is is_en hi]
      exact .one trivial ht ((is_hop (t := .en) trivial is_en hi).1 ⟨r, h3, h4, h5⟩)
    · refine ⟨t, ht, hi, hb, ?_⟩
      rw [wt_is hj hi]
      exact .snoc g ht ((is_hop hu hj hi).1 ⟨r, h3, h4, h5⟩)
theorem geo_wk (hM : okM l) {t : Tg} {L : Nat} (g : Gw l p q .en t L) : ∀ n, IsT l p q n t → ∃ k, Wk (nrM l p q) (wtL (nodeL l p q)) ((portL l).length + 1) n L k := by
  induction g with
  | @one v _ hv hh =>
    intro n hn
    by_cases e : n = (portL l).length + 1
    · subst e
      have : dT p q .en v = 0 := dT_zero (is_en.2.1.symm.trans hn.2.1)
      rw [this]; exact ⟨1, .nil⟩
    · refine ⟨_, by have h := Wk.cons (wt := wtL (nodeL l p q)) (Wk.nil (nr := nrM l p q) (e := (portL l).length + 1)) (k := n) (nr_mem.2 ⟨hn.1, e, (is_hop (t := .en) trivial is_en hn).2 hh⟩); rw [wt_is is_en hn, Nat.zero_add] at h; exact h⟩
  | @snoc v w L g hw hh ih =>
    intro n hn
    obtain ⟨m, hm⟩ := node_of (p := p) (q := q) hM g.ok.2
    obtain ⟨k, hk⟩ := ih m hm
    by_cases e : n = m
    · subst e
      rw [dT_zero (hm.2.1.symm.trans hn.2.1)]; exact ⟨k, hk⟩
    · refine ⟨_, by have h := Wk.cons hk (k := n) (nr_mem.2 ⟨hn.1, e, (is_hop g.ok.2 hm hn).2 hh⟩); rw [wt_is hm hn] at h; exact h⟩
theorem dw_geo (hM : okM l) {L : Nat} : DW l p q L ↔ Geo l p q L := by
  constructor
  · rintro ⟨k, w⟩
    rcases wk_geo hM w with ⟨h, _⟩ | ⟨t, _, _, hb, g⟩
    · omega
    · rw [hb rfl] at g; exact g
  · intro g
    exact geo_wk hM g _ is_be
end
/-- Find's answer -/
theorem find_geo {l : List KA} {p q : KV} {way : List KV} {n : Nat} {e : Int} (hM : okM l) (h : FindR l p q way n e) : (e = 0 ∧ Geo l p q n ∧ ∀ L, Geo l p q L → n ≤ L) ∨ (e = 6 ∧ n = 0 ∧ ∀ L, ¬ Geo l p q L) := by
  rcases find_min hM h with ⟨h1, h2, h3⟩ | ⟨h1, h2, h3⟩
  · exact .inl ⟨h1, (dw_geo hM).1 h2, fun L g => h3 L ((dw_geo hM).2 g)⟩
  · exact .inr ⟨h1, h2, fun L g => h3 L ((dw_geo hM).2 g)⟩
/-! other points, other meshes -/
section
variable {l l' : List KA} {p q p' q' : KV}
/-- a way is carried over -/
theorem Gw.map (f : Tg → Tg) (hok : ∀ t, okT l t → okT l' (f t)) (hin : ∀ t a, okT l t → inT l p q t a → inT l' p' q' (f t) a) (hpt : ∀ t, okT l t → ptT p' q' (f t) = ptT p q t) {u v : Tg} {L : Nat} (g : Gw l p q u v L) : Gw l' p' q' (f u) (f v) L := by
  have hop : ∀ {u v}, okT l u → okT l v → hopT l p q u v → hopT l' p' q' (f u) (f v) := fun hu hv ⟨a, h1, h2⟩ => ⟨a, hin _ a hu h1, hin _ a hv h2⟩
  have hd : ∀ {u v}, okT l u → okT l v → dT p q u v = dT p' q' (f u) (f v) := fun hu hv => by unfold dT; rw [hpt _ hu, hpt _ hv]
  induction g with
  | one a b c => rw [hd a b]; exact .one (hok _ a) (hok _ b) (hop a b c)
  | snoc g b c ih => rw [hd g.ok.2 b]; exact .snoc ih (hok _ b) (hop g.ok.2 b c)
def swpT : Tg → Tg
  | .po a b => .po a b
  | .be => .en
  | .en => .be
theorem geo_sym {L : Nat} : Geo l p q L → Geo l q p L := fun g =>
  (g.map (l' := l) (p' := q) (q' := p) swpT (fun t h => by cases t <;> exact h) (fun t a _ h => by cases t <;> exact h) (fun t _ => by cases t <;> rfl)).symm
/-- a third point that lies in one room only is passed by: the node ahead of it -/
theorem geo_cut {r : KV} (hin : ∀ t, okT l t → inR (ptT p q t).x ∧ inR (ptT p q t).y) (hr : inR r.x ∧ inR r.y) (h1 : ∀ a b, a ∈ l → hasP a r.x r.y → b ∈ l → hasP b r.x r.y → a = b) {t : Tg} {M : Nat} :
    Gw l r q .en t M → (t ≠ .be → ∃ L, Gw l p q .en t L ∧ L ≤ M) ∧ (t = .be → ∃ (v : Tg) (L : Nat), okT l v ∧ v ≠ .be ∧ (v = .en ∧ L = 0 ∨ Gw l p q .en v L) ∧ hopT l r q v .be ∧ L + dT r q v .be ≤ M) := by
  intro g
  have same : ∀ {v}, v ≠ .be → ptT r q v = ptT p q v := fun {v} h => by cases v with | po a b => rfl | be => exact absurd rfl h | en => rfl
  have sameI : ∀ {v a}, v ≠ .be → inT l r q v a → inT l p q v a := fun {v a} h x => by cases v with | po a b => exact x | be => exact absurd rfl h | en => exact x
  have sd : ∀ {u v}, u ≠ .be → v ≠ .be → dT r q u v = dT p q u v := fun hu hv => by unfold dT; rw [same hu, same hv]
  have sh : ∀ {u v}, u ≠ .be → v ≠ .be → hopT l r q u v → hopT l p q u v := fun hu hv ⟨a, x, y⟩ => ⟨a, sameI hu x, sameI hv y⟩
  induction g with
  | @one v a b c =>
    refine ⟨fun hv => ⟨_, .one trivial b (sh (by simp) hv c), by rw [sd (by simp) hv]; exact Nat.le_refl _⟩, fun hv => ?_⟩
    subst hv
    exact ⟨.en, 0, trivial, by simp, .inl ⟨rfl, rfl⟩, c, by omega⟩
  | @snoc v w M g b c ih =>
    refine ⟨fun hw => ?_, fun hw => ?_⟩
    · by_cases hv : v = .be
      · subst hv
        obtain ⟨x, L, hx, hxb, hL, hh, hle⟩ := ih.2 rfl
        obtain ⟨a, ha1, ha2⟩ := hh
        obtain ⟨a', hb1, hb2⟩ := c
        have e : a = a' := h1 a a' ha2.1 ha2.2 hb1.1 hb1.2
        subst e
        have hop : hopT l p q x w := ⟨a, sameI hxb ha1, sameI hw hb2⟩
        have ht : dT p q x w ≤ dT r q x .be + dT r q .be w := by
          have i1 := hin x hx; have i2 := hin w b
          unfold dT
          rw [same hxb, same hw]
          exact lenV_tri i1.1 i1.2 i2.1 i2.2 hr.1 hr.2
        rcases hL with ⟨rfl, rfl⟩ | hL
        · exact ⟨_, .one trivial b hop, by omega⟩
        · exact ⟨_, .snoc hL b hop, by omega⟩
      · obtain ⟨L, hL, hle⟩ := ih.1 hv
        exact ⟨_, .snoc hL b (sh hv hw c), by rw [sd hv hw]; omega⟩
    · subst hw
      by_cases hv : v = .be
      · subst hv
        obtain ⟨x, L, hx, hxb, hL, hh, hle⟩ := ih.2 rfl
        exact ⟨x, L, hx, hxb, hL, hh, by omega⟩
      · obtain ⟨L, hL, hle⟩ := ih.1 hv
        exact ⟨v, L, g.ok.2, hv, .inr hL, c, by omega⟩
theorem geo_tri {r : KV} (hin : ∀ t, okT l t → inR (ptT p q t).x ∧ inR (ptT p q t).y) (hr : inR r.x ∧ inR r.y) (h1 : ∀ a b, a ∈ l → hasP a r.x r.y → b ∈ l → hasP b r.x r.y → a = b) {A B : Nat} (g : Geo l p r A) (k : Geo l r q B) : ∃ L, Geo l p q L ∧ L ≤ A + B := by
  have hin2 : ∀ t, okT l t → inR (ptT q p t).x ∧ inR (ptT q p t).y := fun t ht => by
    have h := hin (swpT t) (by cases t <;> exact ht)
    cases t <;> exact h
  obtain ⟨x, L, hx, hxb, hL, ⟨a, ha1, ha2⟩, hle⟩ := (geo_cut (p := p) hin hr h1 k).2 rfl
  obtain ⟨y, M, hy, hyb, hM, ⟨b, hb1, hb2⟩, hle2⟩ := (geo_cut (p := q) hin2 hr h1 (geo_sym g)).2 rfl
  have e : a = b := h1 a b ha2.1 ha2.2 hb2.1 hb2.2
  subst e
  have hpx : ptT r q x = ptT p q x := by cases x with | po a b => rfl | be => exact absurd rfl hxb | en => rfl
  have hpy : ptT r p y = ptT p q (swpT y) := by cases y with | po a b => rfl | be => exact absurd rfl hyb | en => rfl
  have hy' : okT l (swpT y) := by cases y <;> exact hy
  have hop : hopT l p q x (swpT y) := ⟨a, by cases x with | po a b => exact ha1 | be => exact absurd rfl hxb | en => exact ha1, by cases y with | po a b => exact hb1 | be => exact absurd rfl hyb | en => exact hb1⟩
  have htr : dT p q x (swpT y) ≤ dT r q x .be + dT r p y .be := by
    have i1 := hin x hx; have i2 := hin _ hy'
    have := lenV_tri i1.1 i1.2 i2.1 i2.2 hr.1 hr.2
    unfold dT
    rw [hpx, hpy]
    refine Nat.le_trans this (Nat.add_le_add_left ?_ _)
    exact Nat.le_of_eq (lenV_comm _ _ _ _)
  have back : M = 0 ∧ swpT y = .be ∨ Gw l p q (swpT y) .be M := by
    rcases hM with ⟨rfl, rfl⟩ | hM
    · exact .inl ⟨rfl, rfl⟩
    · right
      have := hM.map (l' := l) (p' := p) (q' := q) swpT (fun t h => by cases t <;> exact h) (fun t a _ h => by cases t <;> exact h) (fun t _ => by cases t <;> rfl)
      exact this.symm
  have front : Gw l p q .en (swpT y) (L + dT p q x (swpT y)) := by
    rcases hL with ⟨rfl, rfl⟩ | hL
    · rw [Nat.zero_add]; exact .one trivial hy' hop
    · exact .snoc hL hy' hop
  rcases back with ⟨rfl, e⟩ | back
  · rw [e] at front htr; exact ⟨_, front, by omega⟩
  · exact ⟨_, front.trans back, by omega⟩
end
/-- what is in the range -/
theorem mid_in {a b : KA} (ha : okA a) (hb : okA b) : inR (midA a b).x ∧ inR (midA a b).y := by
  obtain ⟨⟨a1, a2, a3⟩, a4, a5, a6⟩ := ha
  obtain ⟨⟨b1, b2, b3⟩, b4, b5, b6⟩ := hb
  unfold inR midA comA; simp only; omega
theorem tag_in {l : List KA} {p q : KV} (hM : okM l) (hp : inR p.x ∧ inR p.y) (hq : inR q.x ∧ inR q.y) : ∀ t, okT l t → inR (ptT p q t).x ∧ inR (ptT p q t).y := fun t ht => by
  cases t with
  | be => exact hp
  | en => exact hq
  | po a b => exact mid_in (hM.2.1 a ht.1).1 (hM.2.1 b ht.2.1).1
/-! the law on ways back -/
section
variable {l : List KA} {p q r : KV} {w1 w2 w3 w4 : List KV} {n k a b : Nat} {e f g h : Int}
theorem find_sym (hM : okM l) (h1 : FindR l p q w1 n e) (h2 : FindR l q p w2 k f) : n = k ∧ e = f := by
  rcases find_geo hM h1 with ⟨a1, a2, a3⟩ | ⟨a1, a2, a3⟩
  · rcases find_geo hM h2 with ⟨b1, b2, b3⟩ | ⟨b1, b2, b3⟩
    · have := a3 _ (geo_sym b2); have := b3 _ (geo_sym a2); exact ⟨by omega, by rw [a1, b1]⟩
    · exact absurd (geo_sym a2) (b3 _)
  · rcases find_geo hM h2 with ⟨b1, b2, b3⟩ | ⟨b1, b2, b3⟩
    · exact absurd (geo_sym b2) (a3 _)
    · exact ⟨by omega, by rw [a1, b1]⟩
theorem find_err (hM : okM l) (h1 : FindR l p q w1 n e) : e = 0 ∨ e = 6 := by
  rcases find_geo hM h1 with ⟨a1, _⟩ | ⟨a1, _⟩
  · exact .inl a1
  · exact .inr a1
theorem room_one {x y : Int} (h : (roomF l x y).length = 1) {a b : KA} (ha : a ∈ l) (hap : hasP a x y) (hb : b ∈ l) (hbp : hasP b x y) : a = b := by
  obtain ⟨i, hi⟩ := List.getElem?_of_mem ha
  obtain ⟨k, hk⟩ := List.getElem?_of_mem hb
  have h1 := (roomF_has (x := x) (y := y) hi).2 ⟨ha, hap⟩
  have h2 := (roomF_has (x := x) (y := y) hk).2 ⟨hb, hbp⟩
  obtain ⟨z, hz⟩ := List.length_eq_one_iff.1 h
  rw [hz] at h1 h2
  rw [List.mem_singleton.1 h1] at hi; rw [List.mem_singleton.1 h2] at hk
  rw [hi] at hk; exact Option.some.inj hk
theorem find_tri (hM : okM l) (hp : inR p.x ∧ inR p.y) (hq : inR q.x ∧ inR q.y) (hr : inR r.x ∧ inR r.y) (h1 : FindR l p q w1 n e) (h3 : FindR l p r w3 a g) (h4 : FindR l r q w4 b h) (ho : (roomF l r.x r.y).length = 1) (hg : g = 0) (hh : h = 0) : e = 0 ∧ n ≤ a + b := by
  rcases find_geo hM h3 with ⟨_, a2, _⟩ | ⟨a1, _⟩
  · rcases find_geo hM h4 with ⟨_, b2, _⟩ | ⟨b1, _⟩
    · obtain ⟨L, gl, hL⟩ := geo_tri (tag_in hM hp hq) hr (fun a b ha hap hb hbp => room_one ho ha hap hb hbp) a2 b2
      rcases find_geo hM h1 with ⟨c1, c2, c3⟩ | ⟨c1, c2, c3⟩
      · exact ⟨c1, by have := c3 L gl; omega⟩
      · exact absurd gl (c3 L)
    · omega
  · omega
theorem find_own (hM : okM l) (h1 : FindR l p p w1 n e) : (e = 0 ↔ 0 < (roomF l p.x p.y).length) ∧ (e = 0 → n = 0 ∧ w1.length = 2) := by
  have direct : 0 < (roomF l p.x p.y).length → Geo l p p 0 := fun h => by
    obtain ⟨r, hr⟩ := List.exists_mem_of_length_pos h
    obtain ⟨a, ha, hap⟩ := roomF_mem.1 hr
    have := Gw.one (l := l) (p := p) (q := p) (u := .en) (v := .be) trivial trivial ⟨a, ⟨List.mem_of_getElem? ha, hap⟩, ⟨List.mem_of_getElem? ha, hap⟩⟩
    have z : dT p p .en .be = 0 := dT_zero rfl
    rw [z] at this; exact this
  have conv : ∀ {t L}, Gw l p p .en t L → 0 < (roomF l p.x p.y).length := by
    intro t L g
    have : ∃ a, a ∈ l ∧ hasP a p.x p.y := by
      induction g with
      | one _ _ c => obtain ⟨a, h1, _⟩ := c; exact ⟨a, h1⟩
      | snoc _ _ _ ih => exact ih
    obtain ⟨a, ha, hap⟩ := this
    obtain ⟨i, hi⟩ := List.getElem?_of_mem ha
    exact List.length_pos_of_mem ((roomF_has hi).2 ⟨ha, hap⟩)
  refine ⟨⟨fun he => ?_, fun hl => ?_⟩, fun he => ?_⟩
  · rcases find_geo hM h1 with ⟨_, a2, _⟩ | ⟨a1, _⟩
    · exact conv a2
    · omega
  · rcases find_geo hM h1 with ⟨a1, _⟩ | ⟨_, _, a3⟩
    · exact a1
    · exact absurd (direct hl) (a3 _)
  · have hl : 0 < (roomF l p.x p.y).length := by
      rcases find_geo hM h1 with ⟨_, a2, _⟩ | ⟨a1, _⟩
      · exact conv a2
      · omega
    rcases h1 with ⟨z, _⟩ | ⟨_, out, hk, z⟩
    · exact absurd hM z
    · rcases z with ⟨_, _, _, z⟩ | ⟨h0, z1, z2, z3⟩
      · omega
      · have hN := nodeL_len l p p
        obtain ⟨r, hr⟩ := List.exists_mem_of_length_pos hl
        have hx : Wk (nrM l p p) (wtL (nodeL l p p)) ((portL l).length + 1) (portL l).length (0 + wtL (nodeL l p p) ((portL l).length + 1) (portL l).length) 2 :=
          .cons .nil (nr_mem.2 ⟨by omega, by omega, r, roomF_lt hr, by rw [nAt_en]; exact hr, by rw [nAt_be]; exact hr⟩)
        rw [wt_is is_en is_be, dT_zero (p := p) (q := p) (u := .en) (v := .be) rfl] at hx
        have hle := (Mk.le hk hx).2.2
        unfold leM at hle
        simp only at hle
        have hpts : (mAt out (portL l).length).pts = 2 := by
          by_cases q1 : (mAt out (portL l).length).pts = 1
          · exfalso
            obtain ⟨m, m1, m2, m3, m4, m5⟩ := hk.fs (portL l).length (by omega) h0 (by omega)
            omega
          · omega
        refine ⟨by omega, ?_⟩
        have hw := Mk.way_len hk (fun a b ha h => nr_sym a b ha h) (fun a b => lenV_comm _ _ _ _) _ (portL l).length (by omega) h0 rfl
        rw [z1, List.length_cons, List.length_map]
        unfold wayM
        omega
end
end Go.Pth
