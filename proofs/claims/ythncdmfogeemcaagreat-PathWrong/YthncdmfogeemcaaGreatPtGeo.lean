/-
  Ways in a mesh, by the rooms themselves: what Find's answer means. Own work; plain Lean.
-/
import Derived.Test.YthncdmfogeemcaaGreatPtMade
namespace Go.Pth
open Go.Sl Go.Brd
/-- there is a way of this length between the two points' nodes -/
def DW (l : List KA) (p q : KV) (L : Nat) : Prop := ∃ k, Wk (nrM l p q) (wtL (nodeL l p q)) ((portL l).length + 1) (portL l).length L k
theorem find_min {l : List KA} {p q : KV} {way : List KV} {n : Nat} {e : Int} (hM : okM l) (h : FindR l p q way n e) : (e = 0 ∧ DW l p q n ∧ ∀ L, DW l p q L → n ≤ L) ∨ (e = 6 ∧ n = 0 ∧ ∀ L, ¬ DW l p q L) := by
  have hN := nodeL_len l p q
  rcases h with ⟨h, _⟩ | ⟨_, out, hk, h⟩
  · exact absurd hM h
  · rcases h with ⟨h0, _, h1, h2⟩ | ⟨h0, _, h1, h2⟩
    · right
      refine ⟨h2, h1, fun L ⟨k, hw⟩ => ?_⟩
      have := (Mk.le hk hw).2.1
      omega
    · left
      refine ⟨h2, ⟨_, h1 ▸ Mk.wk' hk (by omega) h0⟩, fun L ⟨k, hw⟩ => ?_⟩
      have := (Mk.le hk hw).2.2
      unfold leM at this; simp only at this; omega
/-! the nodes by what they are -/
inductive Tg where
  | po (a b : KA)
  | be
  | en
def midA (a b : KA) : KV := ⟨((comA a b).lx + (comA a b).hx) / 2, ((comA a b).ly + (comA a b).hy) / 2⟩
def okT (l : List KA) : Tg → Prop
  | .po a b => a ∈ l ∧ b ∈ l ∧ a ≠ b ∧ touchA a b ∧ ¬ ((comA a b).lx = (comA a b).hx ∧ (comA a b).ly = (comA a b).hy)
  | _ => True
def ptT (p q : KV) : Tg → KV
  | .po a b => midA a b
  | .be => p
  | .en => q
def inT (l : List KA) (p q : KV) : Tg → KA → Prop
  | .po a b, x => x = a ∨ x = b
  | .be, x => x ∈ l ∧ hasP x p.x p.y
  | .en, x => x ∈ l ∧ hasP x q.x q.y
def dT (p q : KV) (u v : Tg) : Nat := lenV (ptT p q u).x (ptT p q u).y (ptT p q v).x (ptT p q v).y
def hopT (l : List KA) (p q : KV) (u v : Tg) : Prop := ∃ a, inT l p q u a ∧ inT l p q v a
/-- a way of one step or more -/
inductive Gw (l : List KA) (p q : KV) (u : Tg) : Tg → Nat → Prop where
  | one {v : Tg} : okT l u → okT l v → hopT l p q u v → Gw l p q u v (dT p q u v)
  | snoc {v w : Tg} {L : Nat} : Gw l p q u v L → okT l w → hopT l p q v w → Gw l p q u w (L + dT p q v w)
def Geo (l : List KA) (p q : KV) (L : Nat) : Prop := Gw l p q .en .be L
section
variable {l : List KA} {p q : KV}
theorem hopT.symm {u v : Tg} (h : hopT l p q u v) : hopT l p q v u := let ⟨a, x, y⟩ := h; ⟨a, y, x⟩
theorem dT_comm (u v : Tg) : dT p q u v = dT p q v u := lenV_comm _ _ _ _
theorem Gw.ok {u v : Tg} {L : Nat} (h : Gw l p q u v L) : okT l u ∧ okT l v := by
  induction h with
  | one a b _ => exact ⟨a, b⟩
  | snoc _ b _ ih => exact ⟨ih.1, b⟩
theorem Gw.trans {u v w : Tg} {L M : Nat} (h : Gw l p q u v L) (g : Gw l p q v w M) : Gw l p q u w (L + M) := by
  induction g with
  | one _ b c => exact .snoc h b c
  | snoc _ b c ih => rw [← Nat.add_assoc]; exact .snoc ih b c
theorem Gw.symm {u v : Tg} {L : Nat} (h : Gw l p q u v L) : Gw l p q v u L := by
  induction h with
  | one a b c => rw [dT_comm]; exact .one b a c.symm
  | @snoc v w L h b c ih => rw [dT_comm, Nat.add_comm]; exact (Gw.one b h.ok.2 c.symm).trans ih
/-! indices and areas -/
theorem pairT_mem : ∀ (L : List KT) (i k : Nat) (x y : KT), L[i]? = some x → L[k]? = some y → i < k → touchA x.ar y.ar → mkP x y ∈ pairsT L := by
  intro L
  induction L with
  | nil => intro i k x y h; simp at h
  | cons z L ih =>
    intro i k x y hx hy hik ht
    cases k with
    | zero => omega
    | succ k =>
      cases i with
      | zero =>
        have : z = x := by simpa using hx
        subst this
        exact List.mem_append_left _ (List.mem_map.2 ⟨y, List.mem_filter.2 ⟨List.mem_of_getElem? (by simpa using hy), decide_eq_true ht⟩, rfl⟩)
      | succ i => exact List.mem_append_right _ (ih i k x y (by simpa using hx) (by simpa using hy) (by omega) ht)
theorem okM_ne (hM : okM l) {i k : Nat} {a b : KA} (hi : l[i]? = some a) (hk : l[k]? = some b) (hik : i ≠ k) : a ≠ b := by
  have key : ∀ {i k : Nat} {a : KA}, l[i]? = some a → l[k]? = some a → i < k → False := by
    intro i k a hi hk hlt
    have ha := hM.2.1 a (List.mem_of_getElem? hi)
    have ht : touchA a a := by obtain ⟨⟨⟨a1, a2, a3⟩, a4, a5, a6⟩, _⟩ := ha; exact ⟨a2, a2, a5, a5⟩
    have hp : (⟨(i : Int), (k : Int)⟩ : KP) ∈ pairsA l := by
      rw [pairsA_eq]
      have h1 : (things l 0)[i]? = some ⟨(i : Int), a⟩ := by rw [things_get, hi, Nat.zero_add]; rfl
      have h2 : (things l 0)[k]? = some ⟨(k : Int), a⟩ := by rw [things_get, hk, Nat.zero_add]; rfl
      have := pairT_mem _ i k _ _ h1 h2 hlt ht
      rwa [show mkP ⟨(i : Int), a⟩ ⟨(k : Int), a⟩ = ⟨(i : Int), (k : Int)⟩ by unfold mkP; congr 1 <;> simp only <;> omega] at this
    have hf := hM.2.2 _ hp
    rw [comP_of hi hk] at hf
    unfold flatA comA at hf
    have := ha.2
    unfold flatA at this
    simp only at hf
    omega
  intro e; subst e
  rcases Nat.lt_or_ge i k with q | q
  · exact key hi hk q
  · exact key hk hi (by omega)
theorem okM_ix (hM : okM l) {i k : Nat} {a : KA} (hi : l[i]? = some a) (hk : l[k]? = some a) : i = k := by
  by_cases h : i = k
  · exact h
  · exact absurd rfl (okM_ne hM hi hk h)
theorem port_mem {i k : Nat} {a b : KA} (hi : l[i]? = some a) (hk : l[k]? = some b) (hik : i < k) (ht : touchA a b) (hf : ¬ ((comA a b).lx = (comA a b).hx ∧ (comA a b).ly = (comA a b).hy)) : (⟨i, k, (midA a b).x, (midA a b).y⟩ : KO) ∈ portL l := by
  refine List.mem_filterMap.2 ⟨⟨(i : Int), (k : Int)⟩, ?_, ?_⟩
  · rw [pairsA_eq]
    have h1 : (things l 0)[i]? = some ⟨(i : Int), a⟩ := by rw [things_get, hi, Nat.zero_add]; rfl
    have h2 : (things l 0)[k]? = some ⟨(k : Int), b⟩ := by rw [things_get, hk, Nat.zero_add]; rfl
    have := pairT_mem _ i k _ _ h1 h2 hik ht
    rwa [show mkP ⟨(i : Int), a⟩ ⟨(k : Int), b⟩ = ⟨(i : Int), (k : Int)⟩ by unfold mkP; congr 1 <;> simp only <;> omega] at this
  · unfold portO; rw [comP_of hi hk, if_neg hf]; rfl
theorem com_comm (a b : KA) : comA a b = comA b a := by unfold comA; congr 1 <;> omega
theorem mid_comm (a b : KA) : midA a b = midA b a := by unfold midA; rw [com_comm]
/-- node n is what t says -/
def IsT (l : List KA) (p q : KV) (n : Nat) (t : Tg) : Prop := n < (nodeL l p q).length ∧ vAt (nodeL l p q) n = ptT p q t ∧ ∀ r a, l[r]? = some a → (r ∈ (nAt (nodeL l p q) n).rs ↔ inT l p q t a)
theorem nAt_be : nAt (nodeL l p q) (portL l).length = ⟨p.x, p.y, roomF l p.x p.y⟩ := by
  unfold nAt nodeL
  rw [List.getD_eq_getElem?_getD, List.getElem?_append_right (by rw [List.length_map]; exact Nat.le_refl _), List.length_map, Nat.sub_self]; rfl
theorem nAt_en : nAt (nodeL l p q) ((portL l).length + 1) = ⟨q.x, q.y, roomF l q.x q.y⟩ := by
  unfold nAt nodeL
  rw [List.getD_eq_getElem?_getD, List.getElem?_append_right (by rw [List.length_map]; omega), List.length_map, show (portL l).length + 1 - (portL l).length = 1 by omega]; rfl
theorem nAt_po {n : Nat} {o : KO} (h : (portL l)[n]? = some o) : nAt (nodeL l p q) n = ⟨o.x, o.y, [o.a, o.b]⟩ := by
  have := (List.getElem?_eq_some_iff.1 h).1
  unfold nAt nodeL
  rw [List.getD_eq_getElem?_getD, List.getElem?_append_left (by rw [List.length_map]; exact this), List.getElem?_map, h]; rfl
theorem roomF_has {x y : Int} {r : Nat} {a : KA} (h : l[r]? = some a) : r ∈ roomF l x y ↔ a ∈ l ∧ hasP a x y := by
  rw [roomF_mem]
  constructor
  · rintro ⟨b, h1, h2⟩; rw [h] at h1; injection h1 with h1; subst h1; exact ⟨List.mem_of_getElem? h, h2⟩
  · rintro ⟨_, h2⟩; exact ⟨a, h, h2⟩
theorem is_be : IsT l p q (portL l).length .be := ⟨by rw [nodeL_len]; omega, by unfold vAt; rw [nAt_be]; rfl, fun r a h => by rw [nAt_be]; exact roomF_has h⟩
theorem is_en : IsT l p q ((portL l).length + 1) .en := ⟨by rw [nodeL_len]; omega, by unfold vAt; rw [nAt_en]; rfl, fun r a h => by rw [nAt_en]; exact roomF_has h⟩
theorem is_po (hM : okM l) {n i k : Nat} {a b : KA} (hi : l[i]? = some a) (hk : l[k]? = some b) (h : (portL l)[n]? = some ⟨i, k, (midA a b).x, (midA a b).y⟩) : IsT l p q n (.po a b) := by
  have hn := (List.getElem?_eq_some_iff.1 h).1
  refine ⟨by rw [nodeL_len]; omega, by unfold vAt; rw [nAt_po h]; rfl, fun r x hx => ?_⟩
  rw [nAt_po h]
  show r ∈ [i, k] ↔ x = a ∨ x = b
  simp only [List.mem_cons, List.not_mem_nil, or_false]
  constructor
  · rintro (rfl | rfl)
    · rw [hi] at hx; injection hx with hx; exact .inl hx.symm
    · rw [hk] at hx; injection hx with hx; exact .inr hx.symm
  · rintro (rfl | rfl)
    · exact .inl (okM_ix hM hx hi)
    · exact .inr (okM_ix hM hx hk)
/-- every node is something, everything is a node -/
theorem tag_of (hM : okM l) {n : Nat} (h : n < (nodeL l p q).length) : ∃ t, okT l t ∧ IsT l p q n t ∧ (n = (portL l).length → t = .be) := by
  rw [nodeL_len] at h
  by_cases h1 : n < (portL l).length
  · obtain ⟨o, ho⟩ : ∃ o, (portL l)[n]? = some o := ⟨_, List.getElem?_eq_getElem h1⟩
    obtain ⟨a, b, q1, q2, q3, q4, q5, q6, q7, q8⟩ := port_two (List.mem_of_getElem? ho)
    have e : o = ⟨o.a, o.b, (midA a b).x, (midA a b).y⟩ := by cases o; simp only at q6 q7; subst q6; subst q7; rfl
    exact ⟨.po a b, ⟨List.mem_of_getElem? q3, List.mem_of_getElem? q4, okM_ne hM q3 q4 (by omega), q5, q8⟩, is_po hM q3 q4 (by rw [← e]; exact ho), fun z => by omega⟩
  · by_cases h2 : n = (portL l).length
    · subst h2; exact ⟨.be, trivial, is_be, fun _ => rfl⟩
    · have : n = (portL l).length + 1 := by omega
      subst this; exact ⟨.en, trivial, is_en, fun z => by omega⟩
theorem touch_sym {a b : KA} (h : touchA a b) : touchA b a := ⟨h.2.1, h.1, h.2.2.2, h.2.2.1⟩
theorem node_of (hM : okM l) {t : Tg} (h : okT l t) : ∃ n, IsT l p q n t := by
  cases t with
  | be => exact ⟨_, is_be⟩
  | en => exact ⟨_, is_en⟩
  | po a b =>
    obtain ⟨h1, h2, h3, h4, h5⟩ := h
    obtain ⟨i, hi⟩ := List.getElem?_of_mem h1
    obtain ⟨k, hk⟩ := List.getElem?_of_mem h2
    rcases Nat.lt_trichotomy i k with z | z | z
    · obtain ⟨n, hn⟩ := List.getElem?_of_mem (port_mem hi hk z h4 h5)
      exact ⟨n, is_po hM hi hk hn⟩
    · subst z; rw [hi] at hk; exact absurd (Option.some.inj hk) h3
    · obtain ⟨n, hn⟩ := List.getElem?_of_mem (port_mem hk hi z (touch_sym h4) (by rw [com_comm]; exact h5))
      obtain ⟨e1, e2, e3⟩ := is_po (p := p) (q := q) hM hk hi hn
      exact ⟨n, e1, by rw [e2]; show midA b a = midA a b; exact mid_comm _ _, fun r x hx => (e3 r x hx).trans ⟨Or.symm, Or.symm⟩⟩
theorem in_l {t : Tg} {a : KA} (h : okT l t) (ha : inT l p q t a) : a ∈ l := by
  cases t with
  | be => exact ha.1
  | en => exact ha.1
  | po x y =>
    rcases ha with rfl | rfl
    · exact h.1
    · exact h.2.1
theorem is_hop {n m : Nat} {t u : Tg} (ht : okT l t) (hn : IsT l p q n t) (hm : IsT l p q m u) : (∃ r, r < l.length ∧ r ∈ (nAt (nodeL l p q) n).rs ∧ r ∈ (nAt (nodeL l p q) m).rs) ↔ hopT l p q t u := by
  constructor
  · rintro ⟨r, h1, h2, h3⟩
    have hr := List.getElem?_eq_getElem h1
    exact ⟨l[r], (hn.2.2 r _ hr).1 h2, (hm.2.2 r _ hr).1 h3⟩
  · rintro ⟨a, h1, h2⟩
    obtain ⟨r, hr⟩ := List.getElem?_of_mem (in_l ht h1)
    exact ⟨r, (List.getElem?_eq_some_iff.1 hr).1, (hn.2.2 r a hr).2 h1, (hm.2.2 r a hr).2 h2⟩
theorem wt_is {n m : Nat} {t u : Tg} (hn : IsT l p q n t) (hm : IsT l p q m u) : wtL (nodeL l p q) n m = dT p q t u := by
  have h1 := hn.2.1; have h2 := hm.2.1
  unfold vAt at h1 h2
  unfold wtL dT; rw [← h1, ← h2]
theorem dT_zero {u v : Tg} (h : ptT p q u = ptT p q v) : dT p q u v = 0 := by unfold dT; rw [h]; exact lenV_self _ _
theorem wk_geo (hM : okM l) {n L k : Nat} (w : Wk (nrM l p q) (wtL (nodeL l p q)) ((portL l).length + 1) n L k) : (n = (portL l).length + 1 ∧ L = 0) ∨ ∃ t, okT l t ∧ IsT l p q n t ∧ (n = (portL l).length → t = .be) ∧ Gw l p q .en t L := by
  induction w with
  | nil => exact .inl ⟨rfl, rfl⟩
  | @cons m k L c w hk ih =>
    right
    obtain ⟨h1, h2, r, h3, h4, h5⟩ := nr_mem.1 hk
    obtain ⟨t, ht, hi, hb⟩ := tag_of hM h1
    rcases ih with ⟨rfl, rfl⟩ | ⟨u, hu, hj, -, g⟩
    · refine ⟨t, ht, hi, hb, ?_⟩
      rw [Nat.zero_add, wt_is is_en hi]
      exact .one trivial ht ((is_hop (t := .en) trivial is_en hi).1 ⟨r, h3, h4, h5⟩)
    · refine ⟨t, ht, hi, hb, ?_⟩
      rw [wt_is hj hi]
      exact .snoc g ht ((is_hop hu hj hi).1 ⟨r, h3, h4, h5⟩)
theorem geo_wk (hM : okM l) {t : Tg} {L : Nat} (g : Gw l p q .en t L) : ∀ n, IsT l p q n t → ∃ k, Wk (nrM l p q) (wtL (nodeL l p q)) ((portL l).length + 1) n L k := by
  induction g with
  | @one v _ hv hh =>
    intro n hn
    by_cases e : n = (portL l).length + 1
    · subst e
      have : dT p q .en v = 0 := dT_zero (is_en.2.1.symm.trans hn.2.1)
      rw [this]; exact ⟨1, .nil⟩
    · refine ⟨_, by have h := Wk.cons (wt := wtL (nodeL l p q)) (Wk.nil (nr := nrM l p q) (e := (portL l).length + 1)) (k := n) (nr_mem.2 ⟨hn.1, e, (is_hop (t := .en) trivial is_en hn).2 hh⟩); rw [wt_is is_en hn, Nat.zero_add] at h; exact h⟩
  | @snoc v w L g hw hh ih =>
    intro n hn
    obtain ⟨m, hm⟩ := node_of (p := p) (q := q) hM g.ok.2
    obtain ⟨k, hk⟩ := ih m hm
    by_cases e : n = m
    · subst e
      rw [dT_zero (hm.2.1.symm.trans hn.2.1)]; exact ⟨k, hk⟩
    · refine ⟨_, by have h := Wk.cons hk (k := n) (nr_mem.2 ⟨hn.1, e, (is_hop g.ok.2 hm hn).2 hh⟩); rw [wt_is hm hn] at h; exact h⟩
theorem dw_geo (hM : okM l) {L : Nat} : DW l p q L ↔ Geo l p q L := by
  constructor
  · rintro ⟨k, w⟩
    rcases wk_geo hM w with ⟨h, _⟩ | ⟨t, _, _, hb, g⟩
    · omega
    · rw [hb rfl] at g; exact g
  · intro g
    exact geo_wk hM g _ is_be
end
/-- Find's answer -/
theorem find_geo {l : List KA} {p q : KV} {way : List KV} {n : Nat} {e : Int} (hM : okM l) (h : FindR l p q way n e) : (e = 0 ∧ Geo l p q n ∧ ∀ L, Geo l p q L → n ≤ L) ∨ (e = 6 ∧ n = 0 ∧ ∀ L, ¬ Geo l p q L) := by
  rcases find_min hM h with ⟨h1, h2, h3⟩ | ⟨h1, h2, h3⟩
  · exact .inl ⟨h1, (dw_geo hM).1 h2, fun L g => h3 L ((dw_geo hM).2 g)⟩
  · exact .inr ⟨h1, h2, fun L g => h3 L ((dw_geo hM).2 g)⟩
/-! other points, other meshes -/
section
variable {l l' : List KA} {p q p' q' : KV}
/-- a way is carried over -/
theorem Gw.map (f : Tg → Tg) (hok : ∀ t, okT l t → okT l' (f t)) (hin : ∀ t a, okT l t → inT l p q t a → inT l' p' q' (f t) a) (hpt : ∀ t, okT l t → ptT p' q' (f t) = ptT p q t) {u v : Tg} {L : Nat} (g : Gw l p q u v L) : Gw l' p' q' (f u) (f v) L := by
  have hop : ∀ {u v}, okT l u → okT l v → hopT l p q u v → hopT l' p' q' (f u) (f v) := fun hu hv ⟨a, h1, h2⟩ => ⟨a, hin _ a hu h1, hin _ a hv h2⟩
  have hd : ∀ {u v}, okT l u → okT l v → dT p q u v = dT p' q' (f u) (f v) := fun hu hv => by unfold dT; rw [hpt _ hu, hpt _ hv]
  induction g with
  | one a b c => rw [hd a b]; exact .one (hok _ a) (hok _ b) (hop a b c)
  | snoc g b c ih => rw [hd g.ok.2 b]; exact .snoc ih (hok _ b) (hop g.ok.2 b c)
end
/-! the law on ways back -/
section
variable {l : List KA} {p q r : KV} {w1 w2 w3 w4 : List KV} {n k a b : Nat} {e f g h : Int}
end
end Go.Pth
