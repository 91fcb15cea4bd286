/-
 The reference's islands, in plain terms: numbers that are lowered until linked bodies have the same one. Own work; plain Lean.
-/
import Derived.Test.YtoijanalppaplaaGreatIsId
import Derived.Test.YtoijanalppaplaaGreatIs17
namespace Go.Isl
open Go.Sl Go.Brd Go.Stp Go.Proofs
theorem touch_comR {a b : KA} (ha : okA a) (hb : okA b) : okA (comA a b) ↔ touchA a b := by
 obtain ⟨⟨a1, a2, a3⟩, a4, a5, a6⟩ := ha
 obtain ⟨⟨b1, b2, b3⟩, b4, b5, b6⟩ := hb
 unfold okA okSpan comA touchA
 simp only
 omega
/-- the pair of two things -/
def mkP (x y : KT) : KP := ⟨min x.id y.id, max x.id y.id⟩
theorem okS_ord {bs : List KB} {rs : List KR} {gx gy : Int} (h : okS bs rs gx gy) : ordB bs := h.2.2.2.2.1
theorem meet_touchR {a b : KA} (ha : okA a) (hb : okA b) : meetA a b ↔ touchA a b := ⟨fun h => (touch_comR ha hb).1 h.2.2, fun h => ⟨ha, hb, (touch_comR ha hb).2 h⟩⟩
/-- links[i][k] -/
def lnk (bs : List KB) (rs : List KR) (gx gy : Int) (i k : Nat) : Bool :=
 match bs[i]?, bs[k]? with
 | some a, some b => decide (i ≠ k) && (!a.fixed && (!b.fixed && decide (lkP rs gx gy a b)))
 | _, _ => false
theorem lnk_at {bs : List KB} {rs : List KR} {gx gy : Int} {i k : Nat} {a b : KB} (hi : bs[i]? = some a) (hk : bs[k]? = some b) : lnk bs rs gx gy i k = (decide (i ≠ k) && (!a.fixed && (!b.fixed && decide (lkP rs gx gy a b)))) := by
 unfold lnk; rw [hi, hk]
theorem lnk_iff {bs : List KB} {rs : List KR} {gx gy : Int} {i k : Nat} : lnk bs rs gx gy i k = true ↔ ∃ a b, bs[i]? = some a ∧ bs[k]? = some b ∧ i ≠ k ∧ a.fixed = false ∧ b.fixed = false ∧ lkP rs gx gy a b := by
 constructor
 ·intro h
  unfold lnk at h
  split at h
  ·rename_i a b hi hk
   simp only [Bool.and_eq_true, decide_eq_true_eq, Bool.not_eq_true'] at h
   exact ⟨a, b, hi, hk, h.1, h.2.1, h.2.2.1, h.2.2.2⟩
  ·cases h
 ·rintro ⟨a, b, hi, hk, h1, h2, h3, h4⟩
  rw [lnk_at hi hk]; simp [h1, h2, h3, h4]
theorem ropeP_symm {a b : KB} {r : KR} (h : ropeP a b r) : ropeP b a r := by unfold ropeP at *; omega
theorem meet_symmR {a b : KA} (h : meetA a b) : meetA b a := (meet_touchR h.2.1 h.1).2 (touch_symm ((meet_touchR h.1 h.2.1).1 h))
theorem lnk_symm {bs : List KB} {rs : List KR} {gx gy : Int} {i k : Nat} (h : lnk bs rs gx gy i k = true) : lnk bs rs gx gy k i = true := by
 obtain ⟨a, b, hi, hk, h1, h2, h3, h4⟩ := lnk_iff.1 h
 exact lnk_iff.2 ⟨b, a, hk, hi, fun e => h1 e.symm, h3, h2, h4.imp (fun ⟨r, hr, q⟩ => ⟨r, hr, ropeP_symm q⟩) meet_symmR⟩
/-- the numbers while they are lowered -/
structure NumI (bs : List KB) (rs : List KR) (gx gy : Int) (ns : List Int) : Prop where
 len : ns.length = bs.length
 num : ∀ (i : Nat) (x : Int), ns[i]? = some x → ∃ m : Nat, x = m ∧ m ≤ i ∧ Conn (fun i k => lnk bs rs gx gy i k = true) i m
theorem NumI.set {bs : List KB} {rs : List KR} {gx gy : Int} {ns : List Int} {i k : Nat} {x y : Int} (h : NumI bs rs gx gy ns) (hl : lnk bs rs gx gy i k = true) (hx : ns[i]? = some x) (hy : ns[k]? = some y) (hyx : y < x) : NumI bs rs gx gy (ns.set i y) := by
 refine ⟨by rw [List.length_set]; exact h.len, fun j z hz => ?_⟩
 by_cases e : j = i
 ·subst e
  rw [List.getElem?_set_self (List.getElem?_eq_some_iff.1 hx).1] at hz
  injection hz with hz
  subst hz
  obtain ⟨m, e1, h1, h2⟩ := h.num _ _ hy
  obtain ⟨m', e1', h1', _⟩ := h.num _ _ hx
  exact ⟨m, e1, by omega, (Conn.one (E := fun i k => lnk bs rs gx gy i k = true) hl).trans h2⟩
 ·rw [List.getElem?_set_ne (fun q => e q.symm)] at hz
  exact h.num _ _ hz
def sumN (ns : List Int) : Nat := (ns.map Int.toNat).sum
theorem sum_set {ns : List Int} {i : Nat} {x y : Int} (hx : ns[i]? = some x) (h0 : 0 ≤ y) (hyx : y < x) : sumN (ns.set i y) < sumN ns := by
 induction ns generalizing i with
 | nil => cases hx
 | cons a l ih =>
  cases i with
  | zero =>
   injection hx with hx
   subst hx
   show (y.toNat :: l.map Int.toNat).sum < (a.toNat :: l.map Int.toNat).sum
   rw [List.sum_cons, List.sum_cons]
   omega
  | succ i =>
   have := ih (i := i) (by simpa using hx)
   unfold sumN at this ⊢
   rw [List.set_cons_succ, List.map_cons, List.map_cons, List.sum_cons, List.sum_cons]
   omega
/-- no link of a body before i, and none of i before k, wants a lower number -/
def StabT (bs : List KB) (rs : List KR) (gx gy : Int) (ns : List Int) (i k : Nat) : Prop :=
 ∀ i' k' x y, (i' < i ∨ i' = i ∧ k' < k) → lnk bs rs gx gy i' k' = true → ns[i']? = some x → ns[k']? = some y → ¬ y < x
theorem stab_zero {bs : List KB} {rs : List KR} {gx gy : Int} {ns : List Int} : StabT bs rs gx gy ns 0 0 := fun i' k' x y h => by omega
theorem stab_row {bs : List KB} {rs : List KR} {gx gy : Int} {ns : List Int} {i k : Nat} (hl : ns.length = bs.length) (hk : bs.length ≤ k) (h : StabT bs rs gx gy ns i k) : StabT bs rs gx gy ns (i + 1) 0 := fun i' k' x y q e hx hy => by
 have := (List.getElem?_eq_some_iff.1 hy).1
 exact h i' k' x y (by omega) e hx hy
theorem stab_next {bs : List KB} {rs : List KR} {gx gy : Int} {ns : List Int} {i k : Nat} (h : StabT bs rs gx gy ns i k) (hn : ∀ x y, lnk bs rs gx gy i k = true → ns[i]? = some x → ns[k]? = some y → ¬ y < x) : StabT bs rs gx gy ns i (k + 1) := fun i' k' x y q e hx hy => by
 by_cases c : i' = i ∧ k' = k
 ·obtain ⟨rfl, rfl⟩ := c; exact hn x y e hx hy
 ·exact h i' k' x y (by omega) e hx hy
theorem stab_all {bs : List KB} {rs : List KR} {gx gy : Int} {ns : List Int} {i : Nat} (hl : ns.length = bs.length) (hi : bs.length ≤ i) (h : StabT bs rs gx gy ns i 0) : ∀ i' k' x y, lnk bs rs gx gy i' k' = true → ns[i']? = some x → ns[k']? = some y → ¬ y < x := fun i' k' x y e hx hy => by
 have := (List.getElem?_eq_some_iff.1 hx).1
 exact h i' k' x y (by omega) e hx hy
/-- the names of those that have a number -/
def grpT (bs : List KB) (ns : List Int) (f k : Nat) : List Int := (List.range k).filterMap fun i => match bs[i]?, ns[i]? with | some b, some x => if x = (f : Int) ∧ b.fixed = false then some b.id else none | _, _ => none
theorem grp_yes {bs : List KB} {ns : List Int} {f k : Nat} {b : KB} {x : Int} (hb : bs[k]? = some b) (hx : ns[k]? = some x) (h1 : x = (f : Int)) (h2 : b.fixed = false) : grpT bs ns f k ++ [b.id] = grpT bs ns f (k + 1) := by
 unfold grpT; rw [List.range_succ, List.filterMap_append]; simp [hb, hx, h1, h2]
theorem grp_no {bs : List KB} {ns : List Int} {f k : Nat} {b : KB} {x : Int} (hb : bs[k]? = some b) (hx : ns[k]? = some x) (h : ¬ (x = (f : Int) ∧ b.fixed = false)) : grpT bs ns f k = grpT bs ns f (k + 1) := by
 unfold grpT; rw [List.range_succ, List.filterMap_append]; simp only [List.filterMap_cons, hb, hx, if_neg h, List.filterMap_nil, List.append_nil]
theorem grp_len (bs : List KB) (ns : List Int) (f k : Nat) : (grpT bs ns f k).length ≤ k := by
 have := List.length_filterMap_le (fun i => match bs[i]?, ns[i]? with | some b, some x => if x = (f : Int) ∧ b.fixed = false then some b.id else none | _, _ => none) (List.range k)
 rw [List.length_range] at this; exact this
theorem grp_mem {bs : List KB} {ns : List Int} {f k : Nat} {z : Int} : z ∈ grpT bs ns f k ↔ ∃ i b, i < k ∧ bs[i]? = some b ∧ ns[i]? = some (f : Int) ∧ b.fixed = false ∧ b.id = z := by
 unfold grpT
 rw [List.mem_filterMap]
 constructor
 ·rintro ⟨i, hi, h⟩
  split at h
  ·rename_i b x hb hx
   by_cases c : x = (f : Int) ∧ b.fixed = false
   ·rw [if_pos c] at h; injection h with h; exact ⟨i, b, List.mem_range.1 hi, hb, by rw [hx, c.1], c.2, h⟩
   ·rw [if_neg c] at h; cases h
  ·cases h
 ·rintro ⟨i, b, hi, hb, hx, hf, e⟩
  exact ⟨i, List.mem_range.2 hi, by rw [hb, hx]; simp [hf, e]⟩
theorem grp_sorted {bs : List KB} {ns : List Int} {f : Nat} (ho : ordB bs) : ∀ k, (grpT bs ns f k).Pairwise (· < ·)
 | 0 => List.Pairwise.nil
 | k + 1 => by
  have ih := grp_sorted (ns := ns) (f := f) ho k
  cases hb : bs[k]? with
  | none => unfold grpT at ih ⊢; rw [List.range_succ, List.filterMap_append]; simpa [hb] using ih
  | some b =>
   cases hx : ns[k]? with
   | none => unfold grpT at ih ⊢; rw [List.range_succ, List.filterMap_append]; simpa [hb, hx] using ih
   | some x =>
    by_cases c : x = (f : Int) ∧ b.fixed = false
    ·rw [← grp_yes hb hx c.1 c.2]
     refine List.pairwise_append.2 ⟨ih, by simp, fun y hy z hz => ?_⟩
     rw [List.mem_singleton.1 hz]
     obtain ⟨i, a, hi, ha, _, _, e⟩ := grp_mem.1 hy
     rw [← e]; exact ho.lt hi ha hb
    ·rw [← grp_no hb hx c]; exact ih
/-- the lists of the numbers below m -/
def outT (bs : List KB) (ns : List Int) (m : Nat) : List (List Int) := (List.range m).filterMap fun f => if 0 < (grpT bs ns f bs.length).length then some (grpT bs ns f bs.length) else none
theorem out_yes {bs : List KB} {ns : List Int} {m : Nat} (h : 0 < (grpT bs ns m bs.length).length) : outT bs ns m ++ [grpT bs ns m bs.length] = outT bs ns (m + 1) := by
 unfold outT; rw [List.range_succ, List.filterMap_append]; simp only [List.filterMap_cons, if_pos h, List.filterMap_nil]
theorem out_no {bs : List KB} {ns : List Int} {m : Nat} (h : ¬ 0 < (grpT bs ns m bs.length).length) : outT bs ns m = outT bs ns (m + 1) := by
 unfold outT; rw [List.range_succ, List.filterMap_append]; simp only [List.filterMap_cons, if_neg h, List.filterMap_nil, List.append_nil]
/-! what the numbers are when nothing is left to do -/
section
variable {bs : List KB} {rs : List KR} {gx gy : Int} {ns : List Int}
theorem ids_inj {i j : Nat} {a b : KB} (ho : ordB bs) (hi : bs[i]? = some a) (hj : bs[j]? = some b) (e : a.id = b.id) : i = j := by
 rcases Nat.lt_trichotomy i j with q | q | q
 ·have := ho.lt q hi hj; omega
 ·exact q
 ·have := ho.lt q hj hi; omega
theorem lk_id {i k : Nat} {a b : KB} (h : okS bs rs gx gy) (hi : bs[i]? = some a) (hk : bs[k]? = some b) (fa : a.fixed = false) (fb : b.fixed = false) : lnk bs rs gx gy i k = true ↔ LkI (freeB bs) rs gx gy a.id b.id := by
 obtain ⟨h1, h2, h3, h4, h5, h6⟩ := id h
 have ma : a ∈ freeB bs := List.mem_filter.2 ⟨List.mem_of_getElem? hi, by simp [fa]⟩
 have mb : b ∈ freeB bs := List.mem_filter.2 ⟨List.mem_of_getElem? hk, by simp [fb]⟩
 have oa := reach_okA (h4 _ (List.mem_of_getElem? hi)) h3
 have ob := reach_okA (h4 _ (List.mem_of_getElem? hk)) h3
 have key : lkP rs gx gy a b ↔ (touchA (reachA a gx gy) (reachA b gx gy) ∨ ∃ r ∈ rs, (r.a = a.id ∧ r.b = b.id) ∨ (r.a = b.id ∧ r.b = a.id)) := by
  unfold lkP; rw [meet_touchR oa ob]; exact Or.comm
 constructor
 ·intro q
  obtain ⟨a', b', hi', hk', n1, _, _, q⟩ := lnk_iff.1 q
  rw [hi] at hi'; rw [hk] at hk'; injection hi' with hi'; injection hk' with hk'
  subst hi'; subst hk'
  exact ⟨fun e => n1 (ids_inj h5 hi hk e), a, ma, b, mb, rfl, rfl, key.1 q⟩
 ·rintro ⟨n1, a', ma', b', mb', e1, e2, q⟩
  obtain ⟨i', hi'⟩ := List.getElem?_of_mem (List.mem_filter.1 ma').1
  obtain ⟨k', hk'⟩ := List.getElem?_of_mem (List.mem_filter.1 mb').1
  have := ids_inj h5 hi' hi e1
  subst this
  have := ids_inj h5 hk' hk e2
  subst this
  rw [hi] at hi'; rw [hk] at hk'; injection hi' with hi'; injection hk' with hk'
  subst hi'; subst hk'
  exact lnk_iff.2 ⟨a, b, hi, hk, fun e => n1 (by subst e; rw [hi] at hk; injection hk with hk; rw [hk]), fa, fb, key.2 q⟩
theorem num_conn (hn : NumI bs rs gx gy ns) (hst : ∀ i' k' x y, lnk bs rs gx gy i' k' = true → ns[i']? = some x → ns[k']? = some y → ¬ y < x) {i j : Nat} {x : Int} (hx : ns[i]? = some x) (hc : Conn (fun i k => lnk bs rs gx gy i k = true) i j) : ns[j]? = some x := by
 induction hc with
 | refl => exact hx
 | @step j k _ e ih =>
  have hkl : k < ns.length := by
   obtain ⟨_, b, _, hk, _⟩ := lnk_iff.1 e
   have := (List.getElem?_eq_some_iff.1 hk).1
   rw [hn.len]; exact this
  have hk := List.getElem?_eq_getElem hkl
  have h1 := hst j k _ _ e ih hk
  have h2 := hst k j _ _ (lnk_symm e) hk ih
  rw [hk]; congr 1; omega
theorem conn_cn (h : okS bs rs gx gy) {i j : Nat} {a b : KB} (hi : bs[i]? = some a) (hj : bs[j]? = some b) (hc : Conn (fun i k => lnk bs rs gx gy i k = true) i j) : CnI (LkI (freeB bs) rs gx gy) a.id b.id := by
 induction hc generalizing b with
 | refl => rw [hi] at hj; injection hj with hj; rw [hj]; exact .refl
 | @step j k _ e ih =>
  obtain ⟨a', b', h1, h2, _, f1, f2, _⟩ := lnk_iff.1 e
  rw [hj] at h2; injection h2 with h2; subst h2
  exact (ih h1).step ((lk_id h h1 hj f1 f2).1 e)
theorem cn_conn (h : okS bs rs gx gy) {i : Nat} {a : KB} {y : Int} (hi : bs[i]? = some a) (hc : CnI (LkI (freeB bs) rs gx gy) a.id y) : ∀ j b, bs[j]? = some b → b.id = y → Conn (fun i k => lnk bs rs gx gy i k = true) i j := by
 induction hc with
 | refl => intro j b hj e; rw [ids_inj (okS_ord h) hj hi e]; exact .refl
 | @step y z _ e ih =>
  intro j b hj ez
  obtain ⟨_, a', ma', b', mb', e1, e2, _⟩ := id e
  obtain ⟨p, hp⟩ := List.getElem?_of_mem (List.mem_filter.1 ma').1
  obtain ⟨q, hq⟩ := List.getElem?_of_mem (List.mem_filter.1 mb').1
  have f1 : a'.fixed = false := by have := (List.mem_filter.1 ma').2; simpa using this
  have f2 : b'.fixed = false := by have := (List.mem_filter.1 mb').2; simpa using this
  have := ids_inj (okS_ord h) hj hq (by rw [ez, e2])
  subst this
  exact (ih p a' hp e1).step ((lk_id h hp hq f1 f2).2 (by rw [e1, e2]; exact e))
theorem conn_free {i j : Nat} {a b : KB} (hi : bs[i]? = some a) (hj : bs[j]? = some b) (fa : a.fixed = false) (hc : Conn (fun i k => lnk bs rs gx gy i k = true) i j) : b.fixed = false := by
 cases hc with
 | refl => rw [hi] at hj; injection hj with hj; rw [← hj]; exact fa
 | step _ e => obtain ⟨_, b', _, h2, _, _, f2, _⟩ := lnk_iff.1 e; rw [hj] at h2; injection h2 with h2; rw [h2]; exact f2
/-- one group is the island of its first body -/
theorem grp_cls (h : okS bs rs gx gy) (hn : NumI bs rs gx gy ns) (hst : ∀ i' k' x y, lnk bs rs gx gy i' k' = true → ns[i']? = some x → ns[k']? = some y → ¬ y < x) {f : Nat} {a : KB} (hf : bs[f]? = some a) (fa : a.fixed = false) (hnf : ns[f]? = some (f : Int)) : grpT bs ns f bs.length = clsI (freeB bs) rs gx gy a.id := by
 have ma : a.id ∈ (freeB bs).map (·.id) := List.mem_map.2 ⟨a, List.mem_filter.2 ⟨List.mem_of_getElem? hf, by simp [fa]⟩, rfl⟩
 refine ints_ext (grp_sorted (okS_ord h) _) (cls_sorted (freeB_ord (okS_ord h))) fun z => ?_
 rw [grp_mem, cls_mem ma]
 constructor
 ·rintro ⟨i, b, hi, hb, hx, fb, rfl⟩
  obtain ⟨m, e, _, hc⟩ := hn.num _ _ hx
  have : m = f := by omega
  subst this
  exact conn_cn h hf hb (hc.symm fun _ _ => lnk_symm)
 ·intro hc
  have hz : z ∈ (freeB bs).map (·.id) := by
   have := (cls_mem (rs := rs) (gx := gx) (gy := gy) ma).2 hc
   exact (List.mem_filter.1 this).1
  obtain ⟨b, mb, rfl⟩ := List.mem_map.1 hz
  obtain ⟨j, hj⟩ := List.getElem?_of_mem (List.mem_filter.1 mb).1
  exact ⟨j, b, (List.getElem?_eq_some_iff.1 hj).1, hj, num_conn hn hst hnf (cn_conn h hf hc j b hj rfl), by have := (List.mem_filter.1 mb).2; simpa using this, rfl⟩
theorem grp_head (h : okS bs rs gx gy) (hn : NumI bs rs gx gy ns) {f : Nat} {a : KB} (hf : bs[f]? = some a) (fa : a.fixed = false) (hnf : ns[f]? = some (f : Int)) : (grpT bs ns f bs.length)[0]? = some a.id := by
 have hm : a.id ∈ grpT bs ns f bs.length := grp_mem.2 ⟨f, a, (List.getElem?_eq_some_iff.1 hf).1, hf, hnf, fa, rfl⟩
 have hs := grp_sorted (ns := ns) (f := f) (okS_ord h) bs.length
 cases e : grpT bs ns f bs.length with
 | nil => rw [e] at hm; cases hm
 | cons z l =>
  have hz : z ∈ grpT bs ns f bs.length := by rw [e]; exact List.mem_cons_self
  obtain ⟨i, b, hi, hb, hx, _, rfl⟩ := grp_mem.1 hz
  obtain ⟨m, e1, h1, _⟩ := hn.num _ _ hx
  rw [e] at hm hs
  rcases List.mem_cons.1 hm with q | q
  ·rw [q]; rfl
  ·have h2 := (List.pairwise_cons.1 hs).1 _ q
   have h3 : f ≤ i := by omega
   rcases Nat.lt_or_eq_of_le h3 with c | c
   ·have := (okS_ord h).lt c hf hb; omega
   ·subst c; rw [hf] at hb; injection hb with hb; rw [hb] at h2; omega
/-- a group with a body: its number is that of its first body -/
theorem grp_some (h : okS bs rs gx gy) (hn : NumI bs rs gx gy ns) (hst : ∀ i' k' x y, lnk bs rs gx gy i' k' = true → ns[i']? = some x → ns[k']? = some y → ¬ y < x) {f : Nat} (hp : 0 < (grpT bs ns f bs.length).length) : ∃ a, bs[f]? = some a ∧ a.fixed = false ∧ ns[f]? = some (f : Int) := by
 obtain ⟨z, hz⟩ := List.exists_mem_of_length_pos hp
 obtain ⟨i, b, hi, hb, hx, fb, rfl⟩ := grp_mem.1 hz
 obtain ⟨m, e1, h1, hc⟩ := hn.num _ _ hx
 have : m = f := by omega
 subst this
 have hfl : m < bs.length := by omega
 have hf := List.getElem?_eq_getElem hfl
 exact ⟨_, hf, conn_free hb hf fb hc, num_conn hn hst hx hc⟩
theorem ref_isl (h : okS bs rs gx gy) (hn : NumI bs rs gx gy ns) (hst : ∀ i' k' x y, lnk bs rs gx gy i' k' = true → ns[i']? = some x → ns[k']? = some y → ¬ y < x) : outT bs ns bs.length = islR bs rs gx gy := by
 have hI := IsS.of h rfl
 have hex : ∀ r, r ∈ outT bs ns bs.length ↔ ∃ f a, f < bs.length ∧ bs[f]? = some a ∧ a.fixed = false ∧ ns[f]? = some (f : Int) ∧ r = grpT bs ns f bs.length := by
  intro r
  unfold outT
  rw [List.mem_filterMap]
  constructor
  ·rintro ⟨f, hf, e⟩
   by_cases c : 0 < (grpT bs ns f bs.length).length
   ·rw [if_pos c] at e
    injection e with e
    obtain ⟨a, h1, h2, h3⟩ := grp_some h hn hst c
    exact ⟨f, a, List.mem_range.1 hf, h1, h2, h3, e.symm⟩
   ·rw [if_neg c] at e; cases e
  ·rintro ⟨f, a, hf, h1, h2, h3, rfl⟩
   refine ⟨f, List.mem_range.2 hf, if_pos ?_⟩
   exact List.length_pos_of_mem (grp_mem.2 ⟨f, a, hf, h1, h3, h2, rfl⟩)
 refine lists_ext ?_ hI.heads fun r => ?_
 ·unfold outT
  rw [List.pairwise_filterMap]
  refine List.pairwise_lt_range.imp_of_mem fun {f g} hf hg hfg r hr q hq => ?_
  by_cases c : 0 < (grpT bs ns f bs.length).length
  ·by_cases d : 0 < (grpT bs ns g bs.length).length
   ·rw [if_pos c] at hr; rw [if_pos d] at hq
    injection hr with hr; injection hq with hq
    obtain ⟨a, h1, h2, h3⟩ := grp_some h hn hst c
    obtain ⟨b, k1, k2, k3⟩ := grp_some h hn hst d
    exact ⟨a.id, b.id, by rw [← hr]; exact grp_head h hn h1 h2 h3, by rw [← hq]; exact grp_head h hn k1 k2 k3, (okS_ord h).lt hfg h1 k1⟩
   ·rw [if_neg d] at hq; cases hq
  ·rw [if_neg c] at hr; cases hr
 ·rw [hex, hI.mem]
  constructor
  ·rintro ⟨f, a, hf, h1, h2, h3, rfl⟩
   exact ⟨a.id, List.mem_map.2 ⟨a, List.mem_filter.2 ⟨List.mem_of_getElem? h1, by simp [h2]⟩, rfl⟩, grp_cls h hn hst h1 h2 h3⟩
  ·rintro ⟨x, hx, rfl⟩
   obtain ⟨b, mb, rfl⟩ := List.mem_map.1 hx
   obtain ⟨j, hj⟩ := List.getElem?_of_mem (List.mem_filter.1 mb).1
   have fb : b.fixed = false := by have := (List.mem_filter.1 mb).2; simpa using this
   have hjl : j < ns.length := by rw [hn.len]; exact (List.getElem?_eq_some_iff.1 hj).1
   have hnj := List.getElem?_eq_getElem hjl
   obtain ⟨m, e1, h1, hc⟩ := hn.num _ _ hnj
   have hml : m < bs.length := by have := hn.len; omega
   have hm := List.getElem?_eq_getElem hml
   have hnm := num_conn hn hst hnj hc
   rw [e1] at hnm
   have fm := conn_free hj hm fb hc
   refine ⟨m, _, hml, hm, fm, hnm, ?_⟩
   rw [grp_cls h hn hst hm fm hnm]
   have hcn := conn_cn h hj hm hc
   exact ((cls_of (freeB_ord (okS_ord h)) hx ((cls_mem hx).2 hcn)).2).symm
end
end Go.Isl
