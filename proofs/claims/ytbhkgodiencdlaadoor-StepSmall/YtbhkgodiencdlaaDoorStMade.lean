/-
  The scenes that layer 7's Made makes; what a step keeps; ropes. Own work; plain Lean.
-/
import Derived.Test.YtbhkgodiencdlaaDoorStBase
namespace Go.Stp
open Go.Sl
structure KF where
  x : Int
  y : Int
  vx : Int
  vy : Int
  w : UInt8
  h : UInt8
  round : Bool
  fixed : Bool
/-- bodies as Made makes them: the IDs 1, 3, 5 .. -/
def madeL (bs : List KB) : Prop := (∀ i b, bs[i]? = some b → b.id = ((1 + 2 * i : Nat) : Int)) ∧ (∀ b ∈ bs, okB b) ∧ ∀ b ∈ bs, (-1000 ≤ b.x ∧ b.x ≤ 1000) ∧ -1000 ≤ b.y ∧ b.y ≤ 1000
/-- what Made makes -/
structure MadeP (bs : List KB) (rs : List KR) (gx gy : Int) : Prop where
  ok : okS bs rs gx gy
  bodies : madeL bs
  few : bs.length ≤ 16
  ropes : rs.length ≤ 6
/-! What a step keeps. -/
theorem innerK_keeps {rs : List KR} {B : List KB} {k : Nat} {b : KB} {nx ny : Int} (hb : okB b) (hx : -4096 ≤ nx ∧ nx ≤ 4096) (hy : -4096 ≤ ny ∧ ny ≤ 4096) : ∀ j,
    okB (innerK rs B k b nx ny j).1 ∧ (innerK rs B k b nx ny j).1.id = b.id ∧ (innerK rs B k b nx ny j).1.fixed = b.fixed ∧ (-4096 ≤ (innerK rs B k b nx ny j).2.2.1 ∧ (innerK rs B k b nx ny j).2.2.1 ≤ 4096) ∧ (-4096 ≤ (innerK rs B k b nx ny j).2.2.2 ∧ (innerK rs B k b nx ny j).2.2.2 ≤ 4096)
  | 0 => ⟨hb, rfl, rfl, hx, hy⟩
  | j + 1 => by
    obtain ⟨h1, h2, h3, h4, h5⟩ := innerK_keeps (rs := rs) (B := B) (k := k) hb hx hy j
    show okB (innerStep rs B k b.id (j == 1) (innerK rs B k b nx ny j)).1 ∧ _
    generalize hq : innerK rs B k b nx ny j = q at h1 h2 h3 h4 h5
    have e : innerK rs B k b nx ny (j + 1) = innerStep rs B k b.id (j == 1) q := by rw [← hq]; rfl
    rw [e]
    unfold innerStep
    refine ⟨runM_ok h1, by rw [← h2]; exact sh_id _ _ _, by rw [← h3]; exact (sh_vel _ _ _).2.2, ?_, ?_⟩
    · simp only
      split
      · exact h4
      · unfold keepV; split
        · exact h4
        · exact ⟨by decide, by decide⟩
    · simp only
      split
      · unfold keepV; split
        · exact h5
        · exact ⟨by decide, by decide⟩
      · exact h5
theorem stepAt_cases (rs : List KR) (gx gy : Int) (B : List KB) (k : Nat) : stepAt rs gx gy B k = (B, []) ∧ (∀ b, B[k]? = some b → b.fixed = true) ∨ ∃ b, B[k]? = some b ∧ b.fixed = false ∧
    stepAt rs gx gy B k = (B.set k (withV (innerK rs B k b (speedX b gx gy) (speedY b gx gy) 2).1 (innerK rs B k b (speedX b gx gy) (speedY b gx gy) 2).2.2.1 (innerK rs B k b (speedX b gx gy) (speedY b gx gy) 2).2.2.2), (innerK rs B k b (speedX b gx gy) (speedY b gx gy) 2).2.1) := by
  unfold stepAt
  cases hk : B[k]? with
  | none => exact .inl ⟨rfl, fun b hb => by cases hb⟩
  | some b =>
    simp only
    cases hf : b.fixed with
    | true => exact .inl ⟨rfl, fun c hc => by injection hc with hc; rw [← hc]; exact hf⟩
    | false => exact .inr ⟨b, rfl, hf, rfl⟩
theorem step_keeps {rs : List KR} {gx gy : Int} {bs : List KB} (hbs : ∀ o ∈ bs, okB o) : ∀ k, SameIds (stepsTo rs gx gy bs k).1 bs ∧ ∀ o ∈ (stepsTo rs gx gy bs k).1, okB o
  | 0 => ⟨rfl, hbs⟩
  | k + 1 => by
    obtain ⟨h1, h2⟩ := step_keeps hbs k
    show SameIds (stepAt rs gx gy (stepsTo rs gx gy bs k).1 k).1 bs ∧ ∀ o ∈ (stepAt rs gx gy (stepsTo rs gx gy bs k).1 k).1, okB o
    rcases stepAt_cases rs gx gy (stepsTo rs gx gy bs k).1 k with ⟨e, _⟩ | ⟨b, hb, hf, e⟩
    · rw [e]; exact ⟨h1, h2⟩
    · rw [e]
      have hs := speed_bd b gx gy
      obtain ⟨q1, q2, q3, q4, q5⟩ := innerK_keeps (rs := rs) (B := (stepsTo rs gx gy bs k).1) (k := k) (h2 b (List.mem_of_getElem? hb)) hs.1 hs.2 2
      exact ⟨h1.set hb q2, okB_set h2 (okB_withV q1 (q3.trans hf) q4 q5)⟩
theorem ordB_ids {B C : List KB} (h : SameIds B C) (hc : ordB C) : ordB B := fun i a b ha hb => by
  have key : ∀ {i : Nat} {a : KB}, B[i]? = some a → ∃ c, C[i]? = some c ∧ c.id = a.id := fun {i a} ha => by
    have := congrArg (·[i]?) h
    simp only [List.getElem?_map, ha, Option.map_some] at this
    cases hc : C[i]? with
    | none => rw [hc] at this; cases this
    | some c => rw [hc] at this; injection this with this; exact ⟨c, rfl, this.symm⟩
  obtain ⟨c, h1, e1⟩ := key ha
  obtain ⟨d, h2, e2⟩ := key hb
  rw [← e1, ← e2]; exact hc i c d h1 h2
end Go.Stp
