/-
  The scenes that layer 7's Made makes; what a step keeps; ropes. Own work; plain Lean.
-/
import Derived.Test.YtbhkgodiencdlaaDoorStBase
namespace Go.Stp
open Go.Sl
structure KF where
  x : Int
  y : Int
  vx : Int
  vy : Int
  w : UInt8
  h : UInt8
  round : Bool
  fixed : Bool
def okF (f : KF) : Prop := (-128 ≤ f.x ∧ f.x ≤ 127) ∧ (-128 ≤ f.y ∧ f.y ≤ 127) ∧ (-128 ≤ f.vx ∧ f.vx ≤ 127) ∧ (-128 ≤ f.vy ∧ f.vy ≤ 127)
abbrev I8x (x : Int) : Value := .int .i8 x
abbrev formE (f : KF) : List Value := [I8x f.x, I8x f.y, I8x f.vx, I8x f.vy, Bx f.w, Bx f.h, .bool f.round, .bool f.fixed]
def FormR : Rp KF := ⟨8, fun _ cs f => cs = formE f ∧ okF f, fun _ _ _ h => by rw [h.1]; rfl, fun _ _ _ _ _ h => h⟩
def madeB (f : KF) (i : Nat) : KB :=
  ⟨((1 + 2 * i : Nat) : Int), 3 * f.x, 3 * f.y, if f.fixed then 0 else f.vx, if f.fixed then 0 else f.vy, ((1 + f.w.toNat % 40 : Nat) : Int), if f.round then ((1 + f.w.toNat % 40 : Nat) : Int) else ((1 + f.h.toNat % 40 : Nat) : Int), f.round, f.fixed⟩
theorem madeB_ok {f : KF} (h : okF f) {i : Nat} (hi : i < 16) : okB (madeB f i) := by
  obtain ⟨h1, h2, h3, h4⟩ := h
  unfold madeB okB
  simp only
  refine ⟨by omega, by omega, by omega, ?_, ?_, by omega, ?_, ?_, ?_⟩
  · split <;> omega
  · split <;> omega
  · split <;> omega
  · intro h; rw [if_pos h]
  · intro h; rw [if_pos h, if_pos h]; exact ⟨rfl, rfl⟩
theorem madeB_x {f : KF} (h : okF f) (i : Nat) : (-1000 ≤ (madeB f i).x ∧ (madeB f i).x ≤ 1000) ∧ -1000 ≤ (madeB f i).y ∧ (madeB f i).y ≤ 1000 := by
  have := h.1
  have := h.2.1
  show (-1000 ≤ 3 * f.x ∧ 3 * f.x ≤ 1000) ∧ -1000 ≤ 3 * f.y ∧ 3 * f.y ≤ 1000
  omega
/-- bodies as Made makes them: the IDs 1, 3, 5 .. -/
def madeL (bs : List KB) : Prop := (∀ i b, bs[i]? = some b → b.id = ((1 + 2 * i : Nat) : Int)) ∧ (∀ b ∈ bs, okB b) ∧ ∀ b ∈ bs, (-1000 ≤ b.x ∧ b.x ≤ 1000) ∧ -1000 ≤ b.y ∧ b.y ≤ 1000
theorem madeL_nil : madeL [] := ⟨(fun i b h => by simp at h), (fun b h => (List.not_mem_nil h).elim), (fun b h => (List.not_mem_nil h).elim)⟩
theorem madeL_snoc {bs : List KB} (h : madeL bs) {b : KB} (hid : b.id = ((1 + 2 * bs.length : Nat) : Int)) (hb : okB b) (hx : (-1000 ≤ b.x ∧ b.x ≤ 1000) ∧ -1000 ≤ b.y ∧ b.y ≤ 1000) : madeL (bs ++ [b]) := by
  refine ⟨fun i z hz => ?_, fun z hz => ?_, fun z hz => (List.mem_append.1 hz).elim (h.2.2 z) fun e => by rw [List.mem_singleton.1 e]; exact hx⟩
  · by_cases hi : i < bs.length
    · rw [List.getElem?_append_left hi] at hz; exact h.1 i z hz
    · have hl := (List.getElem?_eq_some_iff.1 hz).1
      have : i = bs.length := by simp at hl; omega
      subst this
      simp at hz; rw [← hz]; exact hid
  · rcases List.mem_append.1 hz with hz | hz
    · exact h.2.1 z hz
    · rw [List.mem_singleton.1 hz]; exact hb
theorem madeL_ord {bs : List KB} (h : madeL bs) : ordB bs := fun i a b ha hb => by rw [h.1 i a ha, h.1 (i + 1) b hb]; omega
/-- a rope between two of n bodies -/
def madeR (n : Nat) (r : KR) : Prop := ∃ a b : Nat, a < b ∧ b < n ∧ r.a = ((1 + 2 * a : Nat) : Int) ∧ r.b = ((1 + 2 * b : Nat) : Int) ∧ 200 ≤ r.len ∧ r.len ≤ 455
theorem madeR_ok {bs : List KB} (h : madeL bs) {r : KR} (hr : madeR bs.length r) : okR bs r := by
  obtain ⟨a, b, hab, hb, ea, eb, h1, h2⟩ := hr
  have key : ∀ i : Nat, i < bs.length → (findB bs ((1 + 2 * i : Nat) : Int)).isSome := fun i hi => by
    rw [findB_iff]; exact ⟨bs[i], List.getElem_mem hi, h.1 i _ (List.getElem?_eq_getElem hi)⟩
  exact ⟨by rw [ea]; exact key a (by omega), by rw [eb]; exact key b hb, by rw [ea, eb]; omega, by omega, by omega⟩
/-- what Made makes -/
structure MadeP (bs : List KB) (rs : List KR) (gx gy : Int) : Prop where
  ok : okS bs rs gx gy
  bodies : madeL bs
  few : bs.length ≤ 16
  ropes : rs.length ≤ 6
theorem madeP_mk {bs : List KB} {rs : List KR} {gx gy : Int} (h : madeL bs) (hr : ∀ r ∈ rs, madeR bs.length r) (h1 : bs.length ≤ 16) (h2 : rs.length ≤ 6) (hx : -31 ≤ gx ∧ gx ≤ 31) (hy : -31 ≤ gy ∧ gy ≤ 31) : MadeP bs rs gx gy :=
  ⟨⟨by omega, by omega, ⟨by omega, by omega, by omega, by omega⟩, h.2.1, madeL_ord h, fun r hr' => madeR_ok h (hr r hr')⟩, h, h1, h2⟩
theorem tmod_bd (x : Int) : -31 ≤ x.tmod 32 ∧ x.tmod 32 ≤ 31 := by
  have h1 := Int.tmod_lt_of_pos x (b := 32) (by decide)
  have h2 := Int.lt_tmod_of_pos x (b := 32) (by decide)
  omega
/-! What a step keeps. -/
theorem innerK_keeps {rs : List KR} {B : List KB} {k : Nat} {b : KB} {nx ny : Int} (hb : okB b) (hx : -4096 ≤ nx ∧ nx ≤ 4096) (hy : -4096 ≤ ny ∧ ny ≤ 4096) : ∀ j,
    okB (innerK rs B k b nx ny j).1 ∧ (innerK rs B k b nx ny j).1.id = b.id ∧ (innerK rs B k b nx ny j).1.fixed = b.fixed ∧ (-4096 ≤ (innerK rs B k b nx ny j).2.2.1 ∧ (innerK rs B k b nx ny j).2.2.1 ≤ 4096) ∧ (-4096 ≤ (innerK rs B k b nx ny j).2.2.2 ∧ (innerK rs B k b nx ny j).2.2.2 ≤ 4096)
  | 0 => ⟨hb, rfl, rfl, hx, hy⟩
  | j + 1 => by
    obtain ⟨h1, h2, h3, h4, h5⟩ := innerK_keeps (rs := rs) (B := B) (k := k) hb hx hy j
    show okB (innerStep rs B k b.id (j == 1) (innerK rs B k b nx ny j)).1 ∧ _
    generalize hq : innerK rs B k b nx ny j = q at h1 h2 h3 h4 h5
    have e : innerK rs B k b nx ny (j + 1) = innerStep rs B k b.id (j == 1) q := by rw [← hq]; rfl
    rw [e]
    unfold innerStep
    refine ⟨runM_ok h1, by rw [← h2]; exact sh_id _ _ _, by rw [← h3]; exact (sh_vel _ _ _).2.2, ?_, ?_⟩
    · simp only
      split
      · exact h4
      · unfold keepV; split
        · exact h4
        · exact ⟨by decide, by decide⟩
    · simp only
      split
      · unfold keepV; split
        · exact h5
        · exact ⟨by decide, by decide⟩
      · exact h5
theorem stepAt_cases (rs : List KR) (gx gy : Int) (B : List KB) (k : Nat) : stepAt rs gx gy B k = (B, []) ∧ (∀ b, B[k]? = some b → b.fixed = true) ∨ ∃ b, B[k]? = some b ∧ b.fixed = false ∧
    stepAt rs gx gy B k = (B.set k (withV (innerK rs B k b (speedX b gx gy) (speedY b gx gy) 2).1 (innerK rs B k b (speedX b gx gy) (speedY b gx gy) 2).2.2.1 (innerK rs B k b (speedX b gx gy) (speedY b gx gy) 2).2.2.2), (innerK rs B k b (speedX b gx gy) (speedY b gx gy) 2).2.1) := by
  unfold stepAt
  cases hk : B[k]? with
  | none => exact .inl ⟨rfl, fun b hb => by cases hb⟩
  | some b =>
    simp only
    cases hf : b.fixed with
    | true => exact .inl ⟨rfl, fun c hc => by injection hc with hc; rw [← hc]; exact hf⟩
    | false => exact .inr ⟨b, rfl, hf, rfl⟩
theorem step_keeps {rs : List KR} {gx gy : Int} {bs : List KB} (hbs : ∀ o ∈ bs, okB o) : ∀ k, SameIds (stepsTo rs gx gy bs k).1 bs ∧ ∀ o ∈ (stepsTo rs gx gy bs k).1, okB o
  | 0 => ⟨rfl, hbs⟩
  | k + 1 => by
    obtain ⟨h1, h2⟩ := step_keeps hbs k
    show SameIds (stepAt rs gx gy (stepsTo rs gx gy bs k).1 k).1 bs ∧ ∀ o ∈ (stepAt rs gx gy (stepsTo rs gx gy bs k).1 k).1, okB o
    rcases stepAt_cases rs gx gy (stepsTo rs gx gy bs k).1 k with ⟨e, _⟩ | ⟨b, hb, hf, e⟩
    · rw [e]; exact ⟨h1, h2⟩
    · rw [e]
      have hs := speed_bd b gx gy
      obtain ⟨q1, q2, q3, q4, q5⟩ := innerK_keeps (rs := rs) (B := (stepsTo rs gx gy bs k).1) (k := k) (h2 b (List.mem_of_getElem? hb)) hs.1 hs.2 2
      exact ⟨h1.set hb q2, okB_set h2 (okB_withV q1 (q3.trans hf) q4 q5)⟩
theorem ordB_ids {B C : List KB} (h : SameIds B C) (hc : ordB C) : ordB B := fun i a b ha hb => by
  have key : ∀ {i : Nat} {a : KB}, B[i]? = some a → ∃ c, C[i]? = some c ∧ c.id = a.id := fun {i a} ha => by
    have := congrArg (·[i]?) h
    simp only [List.getElem?_map, ha, Option.map_some] at this
    cases hc : C[i]? with
    | none => rw [hc] at this; cases this
    | some c => rw [hc] at this; injection this with this; exact ⟨c, rfl, this.symm⟩
  obtain ⟨c, h1, e1⟩ := key ha
  obtain ⟨d, h2, e2⟩ := key hb
  rw [← e1, ← e2]; exact hc i c d h1 h2
theorem okS_step {rs : List KR} {gx gy : Int} {bs : List KB} (h : okS bs rs gx gy) (k : Nat) : okS (stepsTo rs gx gy bs k).1 rs gx gy := by
  obtain ⟨h1, h2, h3, h4, h5, h6⟩ := h
  obtain ⟨q1, q2⟩ := step_keeps (rs := rs) (gx := gx) (gy := gy) h4 k
  exact ⟨by rw [q1.len]; exact h1, h2, h3, q2, ordB_ids q1 h5, fun r hr => okR_ids q1 (h6 r hr)⟩
theorem findB_at {B : List KB} (ho : ordB B) {j : Nat} {o : KB} (hj : B[j]? = some o) : findB B o.id = some o := by
  obtain ⟨hl, e⟩ := List.getElem?_eq_some_iff.1 hj
  unfold findB
  rw [List.find?_eq_some_iff_getElem]
  refine ⟨by simp, j, hl, e, fun i hi => ?_⟩
  have hil : i < B.length := by omega
  have := ho.lt hi (List.getElem?_eq_getElem hil) hj
  simp; omega
end Go.Stp
