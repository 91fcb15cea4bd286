/-
  Own work; plain Lean (StMade, StWorld).
-/
import Derived.Test.YtdkibofhppgbjaaGreatDoorStBase
import Derived.Test.YtdkibofhppgbjaaGreatDoorSlFlat
namespace Go.Stp
open Go.Sl
structure KF where
  x : Int
  y : Int
  vx : Int
  vy : Int
  w : UInt8
  h : UInt8
  round : Bool
  fixed : Bool
/-- bodies as Made makes them: the IDs 1, 3, 5 .. -/
def madeL (bs : List KB) : Prop := (∀ i b, bs[i]? = some b → b.id = ((1 + 2 * i : Nat) : Int)) ∧ (∀ b ∈ bs, okB b) ∧ ∀ b ∈ bs, (-1000 ≤ b.x ∧ b.x ≤ 1000) ∧ -1000 ≤ b.y ∧ b.y ≤ 1000
/-- what Made makes -/
structure MadeP (bs : List KB) (rs : List KR) (gx gy : Int) : Prop where
  ok : okS bs rs gx gy
  bodies : madeL bs
  few : bs.length ≤ 16
  ropes : rs.length ≤ 6
/-! What a step keeps. -/
theorem innerK_keeps {rs : List KR} {B : List KB} {k : Nat} {b : KB} {nx ny : Int} (hb : okB b) (hx : -4096 ≤ nx ∧ nx ≤ 4096) (hy : -4096 ≤ ny ∧ ny ≤ 4096) : ∀ j,
    okB (innerK rs B k b nx ny j).1 ∧ (innerK rs B k b nx ny j).1.id = b.id ∧ (innerK rs B k b nx ny j).1.fixed = b.fixed ∧ (-4096 ≤ (innerK rs B k b nx ny j).2.2.1 ∧ (innerK rs B k b nx ny j).2.2.1 ≤ 4096) ∧ (-4096 ≤ (innerK rs B k b nx ny j).2.2.2 ∧ (innerK rs B k b nx ny j).2.2.2 ≤ 4096)
  | 0 => ⟨hb, rfl, rfl, hx, hy⟩
  | j + 1 => by
    obtain ⟨h1, h2, h3, h4, h5⟩ := innerK_keeps (rs := rs) (B := B) (k := k) hb hx hy j
    show okB (innerStep rs B k b.id (j == 1) (innerK rs B k b nx ny j)).1 ∧ _
    generalize hq : innerK rs B k b nx ny j = q at h1 h2 h3 h4 h5
    have e : innerK rs B k b nx ny (j + 1) = innerStep rs B k b.id (j == 1) q := by rw [← hq]; rfl
    rw [e]
    unfold innerStep
    refine ⟨runM_ok h1, by rw [← h2]; exact sh_id _ _ _, by rw [← h3]; exact (sh_vel _ _ _).2.2, ?_, ?_⟩
    · simp only
      split
      · exact h4
      · unfold keepV; split
        · exact h4
        · exact ⟨by decide, by decide⟩
    · simp only
      split
      · unfold keepV; split
        · exact h5
        · exact ⟨by decide, by decide⟩
      · exact h5
theorem stepAt_cases (rs : List KR) (gx gy : Int) (B : List KB) (k : Nat) : stepAt rs gx gy B k = (B, []) ∧ (∀ b, B[k]? = some b → b.fixed = true) ∨ ∃ b, B[k]? = some b ∧ b.fixed = false ∧
    stepAt rs gx gy B k = (B.set k (withV (innerK rs B k b (speedX b gx gy) (speedY b gx gy) 2).1 (innerK rs B k b (speedX b gx gy) (speedY b gx gy) 2).2.2.1 (innerK rs B k b (speedX b gx gy) (speedY b gx gy) 2).2.2.2), (innerK rs B k b (speedX b gx gy) (speedY b gx gy) 2).2.1) := by
  unfold stepAt
  cases hk : B[k]? with
  | none => exact .inl ⟨rfl, fun b hb => by cases hb⟩
  | some b =>
    simp only
    cases hf : b.fixed with
    | true => exact .inl ⟨rfl, fun c hc => by injection hc with hc; rw [← hc]; exact hf⟩
    | false => exact .inr ⟨b, rfl, hf, rfl⟩
theorem step_keeps {rs : List KR} {gx gy : Int} {bs : List KB} (hbs : ∀ o ∈ bs, okB o) : ∀ k, SameIds (stepsTo rs gx gy bs k).1 bs ∧ ∀ o ∈ (stepsTo rs gx gy bs k).1, okB o
  | 0 => ⟨rfl, hbs⟩
  | k + 1 => by
    obtain ⟨h1, h2⟩ := step_keeps hbs k
    show SameIds (stepAt rs gx gy (stepsTo rs gx gy bs k).1 k).1 bs ∧ ∀ o ∈ (stepAt rs gx gy (stepsTo rs gx gy bs k).1 k).1, okB o
    rcases stepAt_cases rs gx gy (stepsTo rs gx gy bs k).1 k with ⟨e, _⟩ | ⟨b, hb, hf, e⟩
    · rw [e]; exact ⟨h1, h2⟩
    · rw [e]
      have hs := speed_bd b gx gy
      obtain ⟨q1, q2, q3, q4, q5⟩ := innerK_keeps (rs := rs) (B := (stepsTo rs gx gy bs k).1) (k := k) (h2 b (List.mem_of_getElem? hb)) hs.1 hs.2 2
      exact ⟨h1.set hb q2, okB_set h2 (okB_withV q1 (q3.trans hf) q4 q5)⟩
theorem ordB_ids {B C : List KB} (h : SameIds B C) (hc : ordB C) : ordB B := fun i a b ha hb => by
  have key : ∀ {i : Nat} {a : KB}, B[i]? = some a → ∃ c, C[i]? = some c ∧ c.id = a.id := fun {i a} ha => by
    have := congrArg (·[i]?) h
    simp only [List.getElem?_map, ha, Option.map_some] at this
    cases hc : C[i]? with
    | none => rw [hc] at this; cases this
    | some c => rw [hc] at this; injection this with this; exact ⟨c, rfl, this.symm⟩
  obtain ⟨c, h1, e1⟩ := key ha
  obtain ⟨d, h2, e2⟩ := key hb
  rw [← e1, ← e2]; exact hc i c d h1 h2
end Go.Stp

namespace Go.Stp
open Go.Sl
abbrev CompF : Fl KComp := ⟨5, fun c => [Bx c.kind, Ix c.v0, Ix c.v1, Ix c.v2, Ix c.v3], fun _ => rfl, fun _ => rfl, by decide⟩
/-- where the first component of a kind is -/
def idxC (cs : List KComp) (k : UInt8) : Option Nat := cs.findIdx? fun c => decide (c.kind = k)
def optP (a : Option Addr) (cs : List KComp) (k : UInt8) : Option Addr := (idxC cs k).map fun i => (ba a).add (i * 5)
def firstC (cs : List KComp) (k : UInt8) : Option KComp := cs.find? fun c => decide (c.kind = k)
theorem find_idx {α : Type} {p : α → Bool} : ∀ {xs : List α} {i : Nat}, xs.findIdx? p = some i → ∃ x, xs[i]? = some x ∧ p x = true ∧ xs.find? p = some x
  | [], i, h => by simp at h
  | y :: ys, i, h => by
    rw [List.findIdx?_cons] at h
    by_cases hp : p y = true
    · rw [if_pos hp] at h; injection h with h; subst h
      exact ⟨y, rfl, hp, by rw [List.find?_cons, hp]⟩
    · rw [if_neg hp] at h
      cases hy : ys.findIdx? p with
      | none => rw [hy] at h; cases h
      | some j =>
        rw [hy] at h
        have hj : j + 1 = i := by simpa using h
        subst hj
        obtain ⟨x, h1, h2, h3⟩ := find_idx hy
        exact ⟨x, h1, h2, by rw [List.find?_cons]; simp [hp, h3]⟩
theorem optP_some {a : Option Addr} {cs : List KComp} {k : UInt8} (h : (optP a cs k).isNone = false) : ∃ i c, cs[i]? = some c ∧ c.kind = k ∧ idxC cs k = some i ∧ optP a cs k = some ((ba a).add (i * 5)) ∧ firstC cs k = some c := by
  unfold optP at h ⊢
  cases hi : idxC cs k with
  | none => rw [hi] at h; cases h
  | some i =>
    obtain ⟨c, h1, h2, h3⟩ := find_idx hi
    exact ⟨i, c, h1, by simpa using h2, rfl, rfl, h3⟩
theorem optP_none {a : Option Addr} {cs : List KComp} {k : UInt8} (h : (optP a cs k).isNone = true) : idxC cs k = none ∧ optP a cs k = none ∧ firstC cs k = none := by
  have hi : idxC cs k = none := by
    cases hi : idxC cs k with
    | none => rfl
    | some i => unfold optP at h; rw [hi] at h; cases h
  refine ⟨hi, by unfold optP; rw [hi]; rfl, ?_⟩
  unfold idxC at hi
  rw [List.findIdx?_eq_none_iff] at hi
  exact List.find?_eq_none.2 fun c hc => by simpa using hi c hc
theorem idxC_found {cs : List KComp} {k : UInt8} {i : Nat} (h : idxI (fun c : KComp => decide (c.kind = k)) cs = (i : Int)) : idxC cs k = some i := by
  unfold idxI at h
  unfold idxC
  cases hf : cs.findIdx? (fun c => decide (c.kind = k)) with
  | none => rw [hf] at h; simp only at h; omega
  | some j => rw [hf] at h; simp only at h; congr 1; omega
theorem idxI_cases {α : Type} (p : α → Bool) (xs : List α) : idxI p xs < 0 ∧ xs.findIdx? p = none ∨ ∃ i : Nat, idxI p xs = (i : Int) ∧ xs.findIdx? p = some i ∧ i < xs.length := by
  unfold idxI
  cases hf : xs.findIdx? p with
  | none => exact .inl ⟨by simp only; omega, rfl⟩
  | some i => obtain ⟨x, h1, _⟩ := find_idx hf; exact .inr ⟨i, rfl, rfl, (List.getElem?_eq_some_iff.1 h1).1⟩
def zeroB : KB := ⟨0, 0, 0, 0, 0, 0, 0, false, false⟩
/-- the body that an entity is -/
def bodyOf (id : Int) (cs : List KComp) : Option KB :=
  match firstC cs 1, firstC cs 3 with
  | some p, some x => if x.v3 = 1 then some ⟨id, p.v0, p.v1, 0, 0, x.v0, x.v1, decide (x.v2 = 1), true⟩ else
    match firstC cs 2 with
    | none => some ⟨id, p.v0, p.v1, 0, 0, x.v0, x.v1, decide (x.v2 = 1), true⟩
    | some v => some ⟨id, p.v0, p.v1, v.v0, v.v1, x.v0, x.v1, decide (x.v2 = 1), false⟩
  | _, _ => none
theorem body_no1 {id : Int} {cs : List KComp} (h : firstC cs 1 = none) : bodyOf id cs = none := by unfold bodyOf; rw [h]
theorem body_no3 {id : Int} {cs : List KComp} (h : firstC cs 3 = none) : bodyOf id cs = none := by unfold bodyOf; rw [h]; cases firstC cs 1 <;> rfl
theorem body_fix {id : Int} {cs : List KComp} {p x : KComp} (h1 : firstC cs 1 = some p) (h3 : firstC cs 3 = some x) (h : x.v3 = 1 ∨ firstC cs 2 = none) : bodyOf id cs = some ⟨id, p.v0, p.v1, 0, 0, x.v0, x.v1, decide (x.v2 = 1), true⟩ := by
  unfold bodyOf; rw [h1, h3]; simp only
  split
  · rfl
  · rename_i hn; rcases h with h | h
    · exact absurd h hn
    · rw [h]
theorem body_mov {id : Int} {cs : List KComp} {p x v : KComp} (h1 : firstC cs 1 = some p) (h3 : firstC cs 3 = some x) (h : x.v3 ≠ 1) (h2 : firstC cs 2 = some v) : bodyOf id cs = some ⟨id, p.v0, p.v1, v.v0, v.v1, x.v0, x.v1, decide (x.v2 = 1), false⟩ := by
  unfold bodyOf; rw [h1, h3]; simp only
  rw [if_neg h, h2]
abbrev bodyD (id : Int) (cs : List KComp) : KB := (bodyOf id cs).getD zeroB
/-- the bodies of a world -/
def bodiesOf (es : List KEnt) : List KB := es.filterMap fun e => bodyOf e.id e.comps
theorem bodies_yes {es : List KEnt} {k : Nat} {e : KEnt} (h : es[k]? = some e) (hb : (bodyOf e.id e.comps).isSome = true) : bodiesOf (es.take (k + 1)) = bodiesOf (es.take k) ++ [bodyD e.id e.comps] := by
  obtain ⟨b, hb⟩ := Option.isSome_iff_exists.1 hb
  unfold bodiesOf bodyD
  rw [List.take_add_one, h, List.filterMap_append]
  simp [hb]
theorem bodies_no {es : List KEnt} {k : Nat} {e : KEnt} (h : es[k]? = some e) (hb : (bodyOf e.id e.comps).isSome = false) : bodiesOf (es.take (k + 1)) = bodiesOf (es.take k) := by
  have hb : bodyOf e.id e.comps = none := by cases hn : bodyOf e.id e.comps with | none => rfl | some b => rw [hn] at hb; cases hb
  unfold bodiesOf
  rw [List.take_add_one, h, List.filterMap_append]
  simp [hb]
theorem bodies_le (es : List KEnt) (k : Nat) : (bodiesOf (es.take k)).length ≤ k := by
  have := List.length_filterMap_le (fun e : KEnt => bodyOf e.id e.comps) (es.take k)
  rw [List.length_take] at this
  unfold bodiesOf; omega
/-- the ropes both of whose ends are there -/
def hasB (bs : List KB) (i : Int) : Bool := bs.any fun b => decide (b.id = i)
def ropesOf (bs : List KB) (rs : List KR) : List KR := rs.filter fun r => hasB bs r.a && hasB bs r.b
theorem ropes_yes {bs : List KB} {rs : List KR} {k : Nat} {r : KR} (h : rs[k]? = some r) (h1 : hasB bs r.a = true) (h2 : hasB bs r.b = true) : ropesOf bs (rs.take (k + 1)) = ropesOf bs (rs.take k) ++ [r] := by
  unfold ropesOf; rw [List.take_add_one, h, List.filter_append]; simp [h1, h2]
theorem ropes_no {bs : List KB} {rs : List KR} {k : Nat} {r : KR} (h : rs[k]? = some r) (h1 : (hasB bs r.a && hasB bs r.b) = false) : ropesOf bs (rs.take (k + 1)) = ropesOf bs (rs.take k) := by
  unfold ropesOf; rw [List.take_add_one, h, List.filter_append]; simp [h1]
theorem ropes_le (bs : List KB) (rs : List KR) (k : Nat) : (ropesOf bs (rs.take k)).length ≤ k := by
  have := List.length_filter_le (fun r => hasB bs r.a && hasB bs r.b) (rs.take k)
  rw [List.length_take] at this
  unfold ropesOf; omega
end Go.Stp
