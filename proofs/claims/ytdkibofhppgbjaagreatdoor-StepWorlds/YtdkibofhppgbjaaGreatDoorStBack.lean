/-
  A world with the bodies of a scene, in plain terms; entities as they are put together. Own work; plain Lean.
-/
import Derived.Test.YtdkibofhppgbjaaGreatDoorStWorld
namespace Go.Stp
open Go.Sl
/-- the header of an entity -/
structure KHd where
  id : Int
  p : Option Addr
  n : Nat
  c : Nat
abbrev HdF : Fl KHd := ⟨2, fun e => [Ix e.id, .slice e.p e.n e.c], fun _ => rfl, fun _ => rfl, by decide⟩
/-- the components of entities, in a part of one's own -/
def HGood (h : PHeap) (hs : List KHd) (zs : List KEnt) : Prop := hs.length = zs.length ∧ ∀ (j : Nat) v z, hs[j]? = some v → zs[j]? = some z → v.id = z.id ∧ Sl CompR h (.slice v.p v.n v.c) z.comps
def goodR (hs : List KHd) (zs : List KEnt) : Res := fun h => HGood h hs zs
theorem good_nil : goodR [] [] fun _ => none := ⟨rfl, fun j v z h => by simp at h⟩
theorem HGood.mono {h h' : PHeap} {hs : List KHd} {zs : List KEnt} (s : Sub h h') (g : HGood h hs zs) : HGood h' hs zs := ⟨g.1, fun j v z a b => ⟨(g.2 j v z a b).1, Sl.mono CompR _ _ _ _ s (g.2 j v z a b).2⟩⟩
theorem HGood.snoc {h : PHeap} {hs : List KHd} {zs : List KEnt} (g : HGood h hs zs) {v : KHd} {z : KEnt} (e : v.id = z.id) (hz : Sl CompR h (.slice v.p v.n v.c) z.comps) : HGood h (hs ++ [v]) (zs ++ [z]) := by
  refine ⟨by simp [g.1], fun j u y hu hy => ?_⟩
  by_cases hj : j < hs.length
  · rw [List.getElem?_append_left hj] at hu
    rw [List.getElem?_append_left (by rw [← g.1]; exact hj)] at hy
    exact g.2 j u y hu hy
  · have hl := (List.getElem?_eq_some_iff.1 hu).1
    obtain rfl : j = hs.length := by simp at hl; omega
    rw [List.getElem?_append_right (Nat.le_refl _)] at hu
    rw [g.1, List.getElem?_append_right (Nat.le_refl _)] at hy
    simp at hu hy
    rw [← hu, ← hy]; exact ⟨e, hz⟩
theorem good_merge {T c m : Nat} {p : Option Addr} {cs : List KComp} {hs : List KHd} {zs : List KEnt} {i : Int} (hm : cs.length = m) : ∀ a, Sat [rowF CompF T p c cs, goodR hs zs] a → goodR (hs ++ [⟨i, p, m, c⟩]) (zs ++ [⟨i, cs⟩]) a := fun a ha => by
  subst hm
  obtain ⟨a1, s1, h1⟩ := ha.each _ List.mem_cons_self
  obtain ⟨a2, s2, h2⟩ := ha.each _ (List.mem_cons_of_mem _ List.mem_cons_self)
  exact (HGood.mono s2 h2).snoc rfl (Sl.mono CompR _ _ _ _ s1 (rowF_sl h1))
/-- entities that lie in a part of one's own -/
def entsR (p : Option Addr) (c : Nat) (zs : List KEnt) : Res := fun h => Sl EntR h (.slice p zs.length c) zs
theorem ents_of_good {h : PHeap} {c : Nat} {p : Option Addr} {hs : List KHd} {zs : List KEnt} (h3 : Sl HdF.R h (.slice p hs.length c) hs) (h4 : HGood h hs zs) : Sl EntR h (.slice p zs.length c) zs := by
  obtain ⟨-, l1, l2, he⟩ := Sl.parts h3
  rw [h4.1] at l1
  refine ⟨p, c, rfl, l1, l2, fun j x hj => ?_⟩
  have hl := (List.getElem?_eq_some_iff.1 hj).1
  have hv : hs[j]? = some (hs[j]'(by rw [h4.1]; exact hl)) := List.getElem?_eq_getElem _
  generalize hs[j]'(by rw [h4.1]; exact hl) = v at hv
  obtain ⟨q1, cs, q2, q3⟩ := he j v hv
  obtain ⟨e, hs⟩ := h4.2 j v x hv hj
  have q3 : cs = [Ix v.id, .slice v.p v.n v.c] := q3
  exact ⟨q1, cs, q2, .slice v.p v.n v.c, by rw [q3, e], hs⟩
theorem ents_merge {T c : Nat} {p : Option Addr} {hs : List KHd} {zs : List KEnt} : ∀ a, Sat [rowF HdF T p c hs, goodR hs zs] a → entsR p c zs a := fun a ha => by
  obtain ⟨a1, s1, h1⟩ := ha.each _ List.mem_cons_self
  obtain ⟨a2, s2, h2⟩ := ha.each _ (List.mem_cons_of_mem _ List.mem_cons_self)
  exact ents_of_good (Sl.mono _ _ _ _ _ s1 (rowF_sl h1)) (HGood.mono s2 h2)
section
variable {P : Program} {ro : Option Nat} {n : Nat} {ds : List Deferred} {β : Base} {Q : Exit → Act → World → Prop} {f : Fm}
theorem f_merge {e : Exit} {L M : List Res} {r : Res} (hr : ∀ a, Sat L a → r a) (k : Fin n ds β Q e f (r :: M)) : Fin n ds β Q e f (L ++ M) := fun a w ha hw => k a w ha (St.merge hw hr)
theorem c_merge {c : Code} {L M : List Res} {r : Res} (hr : ∀ a, Sat L a → r a) (k : RunC P ro n ds β c Q f (r :: M)) : RunC P ro n ds β c Q f (L ++ M) := fun a w ha hw => k a w ha (St.merge hw hr)
end
theorem k_ents {β : Base} {L : List Res} {p : Option Addr} {c : Nat} {zs : List KEnt} (i : Nat) (hi : L[i]? = some (entsR p c zs)) : Knows β L (fun h => Sl EntR h (.slice p zs.length c) zs) := Knows.of_res i hi (Sl.mono _ _ _) fun _ h => h
/-! components changed -/
def setV0 (c : KComp) (a : Int) : KComp := { c with v0 := a }
def setV1 (c : KComp) (a : Int) : KComp := { c with v1 := a }
abbrev clampC (x : Int) : Int := max (min x 1048576) (-1048576)
def flyOk (p v : KComp) : Prop := (-1099511627776 ≤ min p.v0 v.v0 ∧ max p.v0 v.v0 ≤ 1099511627776) ∧ -1099511627776 ≤ min p.v1 v.v1 ∧ max p.v1 v.v1 ≤ 1099511627776
instance (p v : KComp) : Decidable (flyOk p v) := by unfold flyOk; infer_instance
def flyP (p v : KComp) : KComp := if flyOk p v then setV1 (setV0 p (clampC (p.v0 + v.v0))) (clampC (p.v1 + v.v1)) else p
def flyV (p v : KComp) : KComp := if flyOk p v then { v with v0 := if clampC (p.v0 + v.v0) = p.v0 + v.v0 then v.v0 else 0, v1 := if clampC (p.v1 + v.v1) = p.v1 + v.v1 then v.v1 else 0 } else v
def flyC (cs : List KComp) (i j : Nat) (p v : KComp) : List KComp := (cs.set i (flyP p v)).set j (flyV p v)
theorem fly_no {cs : List KComp} {i j : Nat} {p v : KComp} (hi : cs[i]? = some p) (hj : cs[j]? = some v) (h : ¬ flyOk p v) : flyC cs i j p v = cs := by
  unfold flyC flyP flyV
  rw [if_neg h, if_neg h, set_self hi, set_self hj]
theorem fly_yes {cs : List KComp} {i j : Nat} {p v : KComp} (h : flyOk p v) : flyC cs i j p v = (cs.set i (setV1 (setV0 p (clampC (p.v0 + v.v0))) (clampC (p.v1 + v.v1)))).set j { v with v0 := if clampC (p.v0 + v.v0) = p.v0 + v.v0 then v.v0 else 0, v1 := if clampC (p.v1 + v.v1) = p.v1 + v.v1 then v.v1 else 0 } := by
  unfold flyC flyP flyV
  rw [if_pos h, if_pos h]
theorem set_ne {α : Type} {l : List α} {i j : Nat} {x z : α} (h : i ≠ j) (hx : l[i]? = some x) : (l.set j z)[i]? = some x := by rw [List.getElem?_set_ne (Ne.symm h)]; exact hx
theorem set_swap {α : Type} {i j : Nat} (h : i ≠ j) (l : List α) (a b : α) : (l.set j b).set i a = (l.set i a).set j b := List.set_comm _ _ (Ne.symm h)
def setP (cs ds : List KComp) (k : UInt8) (a b : Int) : List KComp :=
  match idxC cs k, firstC cs k with
  | some i, some c => ds.set i (setV1 (setV0 c a) b)
  | _, _ => ds
def backC (B : List KB) (id : Int) (cs : List KComp) : List KComp :=
  match bodyOf id cs with
  | none => match idxC cs 1, firstC cs 1, idxC cs 2, firstC cs 2, idxC cs 3 with
    | some i, some p, some j, some v, none => flyC cs i j p v
    | _, _, _, _, _ => cs
  | some b => match findB B id with
    | none => cs
    | some o => if b.fixed then setP cs cs 1 o.x o.y else setP cs (setP cs cs 1 o.x o.y) 2 o.vx o.vy
def backE (B : List KB) (e : KEnt) : KEnt := ⟨e.id, backC B e.id e.comps⟩
theorem back_next {B : List KB} {es : List KEnt} {k : Nat} {e : KEnt} (h : es[k]? = some e) {cs : List KComp} (hc : cs = backC B e.id e.comps) : (es.take k).map (backE B) ++ [⟨e.id, cs⟩] = (es.take (k + 1)).map (backE B) := by
  rw [List.take_add_one, h, List.map_append, hc]; rfl
theorem len_setP (cs ds : List KComp) (k : UInt8) (a b : Int) : (setP cs ds k a b).length = ds.length := by unfold setP; split <;> simp
theorem back_len (B : List KB) (id : Int) (cs : List KComp) : (backC B id cs).length = cs.length := by
  unfold backC
  split
  · split
    · simp [flyC]
    · rfl
  · split
    · rfl
    · split <;> simp [len_setP]
theorem back_fly {B : List KB} {id : Int} {cs : List KComp} {i j : Nat} {p v : KComp} (h0 : (bodyOf id cs).isSome = false) (h1 : idxC cs 1 = some i) (h2 : firstC cs 1 = some p) (h3 : idxC cs 2 = some j) (h4 : firstC cs 2 = some v) (h5 : idxC cs 3 = none) : flyC cs i j p v = backC B id cs := by
  have h0 : bodyOf id cs = none := by cases hn : bodyOf id cs with | none => rfl | some b => rw [hn] at h0; cases h0
  unfold backC; rw [h0, h1, h2, h3, h4, h5]
theorem back_no {B : List KB} {id : Int} {cs : List KComp} (h0 : (bodyOf id cs).isSome = false) (h : idxC cs 1 = none ∨ idxC cs 2 = none ∨ ∃ k, idxC cs 3 = some k) : cs = backC B id cs := by
  have h0 : bodyOf id cs = none := by cases hn : bodyOf id cs with | none => rfl | some b => rw [hn] at h0; cases h0
  unfold backC; rw [h0]; simp only
  split
  · rename_i e1 e2 e3 e4 e5
    rcases h with h | h | ⟨k, h⟩
    · rw [h] at e1; cases e1
    · rw [h] at e3; cases e3
    · rw [h] at e5; cases e5
  · rfl
theorem body_some {id : Int} {cs : List KComp} (h : (bodyOf id cs).isSome = true) : bodyOf id cs = some (bodyD id cs) := by
  obtain ⟨b, hb⟩ := Option.isSome_iff_exists.1 h
  unfold bodyD; rw [hb]; rfl
theorem back_lost {B : List KB} {id : Int} {cs : List KComp} (h0 : (bodyOf id cs).isSome = true) (h : findB B id = none) : cs = backC B id cs := by
  unfold backC; rw [body_some h0, h]
theorem back_fix {B : List KB} {id : Int} {cs : List KComp} {o : KB} {i : Nat} {c : KComp} (h0 : (bodyOf id cs).isSome = true) (h : findB B id = some o) (hf : (bodyD id cs).fixed = true) (h1 : idxC cs 1 = some i) (h2 : firstC cs 1 = some c) : cs.set i (setV1 (setV0 c o.x) o.y) = backC B id cs := by
  unfold backC; rw [body_some h0, h]; simp only; rw [if_pos hf]; unfold setP; rw [h1, h2]
theorem back_mov {B : List KB} {id : Int} {cs : List KComp} {o : KB} {i j : Nat} {c d : KComp} (h0 : (bodyOf id cs).isSome = true) (h : findB B id = some o) (hf : (bodyD id cs).fixed = false) (h1 : idxC cs 1 = some i) (h2 : firstC cs 1 = some c) (h3 : idxC cs 2 = some j) (h4 : firstC cs 2 = some d) :
    (cs.set i (setV1 (setV0 c o.x) o.y)).set j (setV1 (setV0 d o.vx) o.vy) = backC B id cs := by
  unfold backC; rw [body_some h0, h]; simp only; rw [if_neg (by rw [hf]; decide)]; unfold setP; rw [h1, h2, h3, h4]
/-- what a body's entity has -/
theorem body_has1 {id : Int} {cs : List KComp} {a : Option Addr} (h : (bodyOf id cs).isSome = true) : (optP a cs 1).isNone = false := by
  cases hn : (optP a cs 1).isNone with
  | false => rfl
  | true => rw [body_no1 (optP_none hn).2.2] at h; cases h
theorem body_has2 {id : Int} {cs : List KComp} {a : Option Addr} (h : (bodyOf id cs).isSome = true) (hf : (bodyD id cs).fixed = false) : (optP a cs 2).isNone = false := by
  cases hn : (optP a cs 2).isNone with
  | false => rfl
  | true =>
    have e := (optP_none hn).2.2
    have hb := body_some h
    cases h1 : firstC cs 1 with
    | none => rw [body_no1 h1] at h; cases h
    | some p =>
      cases h3 : firstC cs 3 with
      | none => rw [body_no3 h3] at h; cases h
      | some x =>
        rw [body_fix h1 h3 (.inr e)] at hb
        injection hb with hb
        rw [← hb] at hf; cases hf
theorem idx_ne {cs : List KComp} {i j : Nat} {c d : KComp} (hi : cs[i]? = some c) (hj : cs[j]? = some d) (h1 : c.kind = 1) (h2 : d.kind = 2) : i ≠ j := by
  rintro rfl
  rw [hi] at hj; injection hj with hj; subst hj
  rw [h1] at h2; exact absurd h2 (by decide)
theorem idxB_cases (B : List KB) (i : Int) : idxI (fun b : KB => decide (b.id = i)) B < 0 ∧ findB B i = none ∨ ∃ k : Nat, idxI (fun b : KB => decide (b.id = i)) B = (k : Int) ∧ k < B.length ∧ ∀ o, B[k]? = some o → findB B i = some o := by
  have e : findB B i = B.find? (fun b : KB => decide (b.id = i)) := by
    unfold findB; congr 1
  rcases idxI_cases (fun b : KB => decide (b.id = i)) B with ⟨h1, h2⟩ | ⟨k, h1, h2, h3⟩
  · refine .inl ⟨h1, ?_⟩
    rw [e, List.find?_eq_none]
    rw [List.findIdx?_eq_none_iff] at h2
    intro b hb; simpa using h2 b hb
  · refine .inr ⟨k, h1, h3, fun o ho => ?_⟩
    obtain ⟨x, q1, _, q3⟩ := find_idx h2
    rw [ho] at q1; injection q1 with q1
    rw [e, q3, q1]
end Go.Stp
