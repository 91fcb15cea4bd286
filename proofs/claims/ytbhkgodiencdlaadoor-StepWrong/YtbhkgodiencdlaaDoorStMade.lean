/-
  The scenes that layer 7's Made makes; what a step keeps; ropes. Own work; plain Lean.
-/
import Derived.Test.YtbhkgodiencdlaaDoorStBase
namespace Go.Stp
open Go.Sl
structure KF where
  x : Int
  y : Int
  vx : Int
  vy : Int
  w : UInt8
  h : UInt8
  round : Bool
  fixed : Bool
def okF (f : KF) : Prop := (-128 ≤ f.x ∧ f.x ≤ 127) ∧ (-128 ≤ f.y ∧ f.y ≤ 127) ∧ (-128 ≤ f.vx ∧ f.vx ≤ 127) ∧ (-128 ≤ f.vy ∧ f.vy ≤ 127)
abbrev I8x (x : Int) : Value := .int .i8 x
abbrev formE (f : KF) : List Value := [I8x f.x, I8x f.y, I8x f.vx, I8x f.vy, Bx f.w, Bx f.h, .bool f.round, .bool f.fixed]
def FormR : Rp KF := ⟨8, fun _ cs f => cs = formE f ∧ okF f, fun _ _ _ h => by rw [h.1]; rfl, fun _ _ _ _ _ h => h⟩
def madeB (f : KF) (i : Nat) : KB :=
  ⟨((1 + 2 * i : Nat) : Int), 3 * f.x, 3 * f.y, if f.fixed then 0 else f.vx, if f.fixed then 0 else f.vy, ((1 + f.w.toNat % 40 : Nat) : Int), if f.round then ((1 + f.w.toNat % 40 : Nat) : Int) else ((1 + f.h.toNat % 40 : Nat) : Int), f.round, f.fixed⟩
theorem madeB_ok {f : KF} (h : okF f) {i : Nat} (hi : i < 16) : okB (madeB f i) := by
  obtain ⟨h1, h2, h3, h4⟩ := h
  unfold madeB okB
  simp only
  refine ⟨by omega, by omega, by omega, ?_, ?_, by omega, ?_, ?_, ?_⟩
  · split <;> omega
  · split <;> omega
  · split <;> omega
  · intro h; rw [if_pos h]
  · intro h; rw [if_pos h, if_pos h]; exact ⟨rfl, rfl⟩
theorem madeB_x {f : KF} (h : okF f) (i : Nat) : (-1000 ≤ (madeB f i).x ∧ (madeB f i).x ≤ 1000) ∧ -1000 ≤ (madeB f i).y ∧ (madeB f i).y ≤ 1000 := by
  have := h.1
  have := h.2.1
  show (-1000 ≤ 3 * f.x ∧ 3 * f.x ≤ 1000) ∧ -1000 ≤ 3 * f.y ∧ 3 * f.y ≤ 1000
  omega
/-- bodies as Made makes them: the IDs 1, 3, 5 .. -/
def madeL (bs : List KB) : Prop := (∀ i b, bs[i]? = some b → b.id = ((1 + 2 * i : Nat) : Int)) ∧ (∀ b ∈ bs, okB b) ∧ ∀ b ∈ bs, (-1000 ≤ b.x ∧ b.x ≤ 1000) ∧ -1000 ≤ b.y ∧ b.y ≤ 1000
theorem madeL_nil : madeL [] := ⟨(fun i b h => by simp at h), (fun b h => (List.not_mem_nil h).elim), (fun b h => (List.not_mem_nil h).elim)⟩
theorem madeL_snoc {bs : List KB} (h : madeL bs) {b : KB} (hid : b.id = ((1 + 2 * bs.length : Nat) : Int)) (hb : okB b) (hx : (-1000 ≤ b.x ∧ b.x ≤ 1000) ∧ -1000 ≤ b.y ∧ b.y ≤ 1000) : madeL (bs ++ [b]) := by
  refine ⟨fun i z hz => ?_, fun z hz => ?_, fun z hz => (List.mem_append.1 hz).elim (h.2.2 z) fun e => by rw [List.mem_singleton.1 e]; exact hx⟩
  · by_cases hi : i < bs.length
    · rw [List.getElem?_append_left hi] at hz; exact h.1 i z hz
    · have hl := (List.getElem?_eq_some_iff.1 hz).1
      have : i = bs.length := by simp at hl; omega
      subst this
      simp at hz; rw [← hz]; exact hid
  · rcases List.mem_append.1 hz with hz | hz
    · exact h.2.1 z hz
    · rw [List.mem_singleton.1 hz]; exact hb
theorem madeL_ord {bs : List KB} (h : madeL bs) : ordB bs := fun i a b ha hb => by rw [h.1 i a ha, h.1 (i + 1) b hb]; omega
/-- a rope between two of n bodies -/
def madeR (n : Nat) (r : KR) : Prop := ∃ a b : Nat, a < b ∧ b < n ∧ r.a = ((1 + 2 * a : Nat) : Int) ∧ r.b = ((1 + 2 * b : Nat) : Int) ∧ 200 ≤ r.len ∧ r.len ≤ 455
theorem madeR_ok {bs : List KB} (h : madeL bs) {r : KR} (hr : madeR bs.length r) : okR bs r := by
  obtain ⟨a, b, hab, hb, ea, eb, h1, h2⟩ := hr
  have key : ∀ i : Nat, i < bs.length → (findB bs ((1 + 2 * i : Nat) : Int)).isSome := fun i hi => by
    rw [findB_iff]; exact ⟨bs[i], List.getElem_mem hi, h.1 i _ (List.getElem?_eq_getElem hi)⟩
  exact ⟨by rw [ea]; exact key a (by omega), by rw [eb]; exact key b hb, by rw [ea, eb]; omega, by omega, by omega⟩
/-- what Made makes -/
structure MadeP (bs : List KB) (rs : List KR) (gx gy : Int) : Prop where
  ok : okS bs rs gx gy
  bodies : madeL bs
  few : bs.length ≤ 16
  ropes : rs.length ≤ 6
theorem madeP_mk {bs : List KB} {rs : List KR} {gx gy : Int} (h : madeL bs) (hr : ∀ r ∈ rs, madeR bs.length r) (h1 : bs.length ≤ 16) (h2 : rs.length ≤ 6) (hx : -31 ≤ gx ∧ gx ≤ 31) (hy : -31 ≤ gy ∧ gy ≤ 31) : MadeP bs rs gx gy :=
  ⟨⟨by omega, by omega, ⟨by omega, by omega, by omega, by omega⟩, h.2.1, madeL_ord h, fun r hr' => madeR_ok h (hr r hr')⟩, h, h1, h2⟩
theorem tmod_bd (x : Int) : -31 ≤ x.tmod 32 ∧ x.tmod 32 ≤ 31 := by
  have h1 := Int.tmod_lt_of_pos x (b := 32) (by decide)
  have h2 := Int.lt_tmod_of_pos x (b := 32) (by decide)
  omega
/-! What a step keeps. -/
end Go.Stp
