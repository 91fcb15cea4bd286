/-
  The five examples of the chapter, in plain terms. Own work; plain Lean.
-/
import Derived.Test.YtdkibofhppgbjaaGreatDoorStBase
namespace Go.Stp
theorem ord1 (a : KB) : ordB [a] := fun i x y h1 h2 => by
  cases i <;> simp at h2
theorem ord2 {a b : KB} (h : a.id < b.id) : ordB [a, b] := fun i x y h1 h2 => by
  match i with
  | 0 => simp at h1 h2; rw [← h1, ← h2]; exact h
  | 1 => simp at h2
  | i + 2 => simp at h2
abbrev eB : KB := ⟨1, 0, 0, 50, 0, 10, 10, false, false⟩
abbrev e0 : List KB := [eB, ⟨2, 60, 0, 0, 0, 10, 10, false, true⟩]
abbrev e1 : List KB := [eB]
abbrev e2 : List KB := [eB, ⟨3, 0, -15, 0, 0, 500, 5, false, true⟩]
abbrev e3 : List KB := [⟨1, 0, 0, 50, 0, 10, 10, true, false⟩, ⟨2, 40, 16, 0, 0, 10, 10, true, true⟩]
abbrev e4 : List KB := [eB, ⟨2, 0, 100, 0, 0, 5, 5, false, true⟩]
abbrev eR : List KR := [⟨1, 2, 30⟩]
theorem e0_ok : okS e0 [] 0 0 := ⟨by decide, by decide, by decide, by decide, ord2 (by decide), by decide⟩
theorem e1_ok : okS e1 [] 0 0 := ⟨by decide, by decide, by decide, by decide, ord1 _, by decide⟩
theorem e2_ok : okS e2 [] 0 (-8) := ⟨by decide, by decide, by decide, by decide, ord2 (by decide), by decide⟩
theorem e3_ok : okS e3 [] 0 0 := ⟨by decide, by decide, by decide, by decide, ord2 (by decide), by decide⟩
theorem e4_ok : okS e4 eR 0 0 := ⟨by decide, by decide, by decide, by decide, ord2 (by decide), by decide⟩
abbrev f0 : List KB := [⟨1, 40, 0, 0, 0, 10, 10, false, false⟩, ⟨2, 60, 0, 0, 0, 10, 10, false, true⟩]
abbrev f1 : List KB := [⟨1, 50, 0, 50, 0, 10, 10, false, false⟩]
abbrev f2 : List KB := [⟨1, 50, 0, 50, 0, 10, 10, false, false⟩, ⟨3, 0, -15, 0, 0, 500, 5, false, true⟩]
abbrev f3 : List KB := [⟨1, 28, 0, 0, 0, 10, 10, true, false⟩, ⟨2, 40, 16, 0, 0, 10, 10, true, true⟩]
abbrev f4 : List KB := [⟨1, 0, 0, 0, 0, 10, 10, false, false⟩, ⟨2, 0, 100, 0, 0, 5, 5, false, true⟩]
theorem e0_step : stepsTo [] 0 0 e0 e0.length = (f0, [⟨1, 1, 2⟩]) := by decide +kernel
theorem e1_step : stepsTo [] 0 0 e1 e1.length = (f1, []) := by decide +kernel
theorem e2_step : stepsTo [] 0 (-8) e2 e2.length = (f2, [⟨1, 2, 3⟩]) := by decide +kernel
theorem e3_step : stepsTo [] 0 0 e3 e3.length = (f3, [⟨1, 1, 2⟩]) := by decide +kernel
theorem e4_step : stepsTo eR 0 0 e4 e4.length = (f4, [⟨1, 1, -1⟩]) := by decide +kernel
end Go.Stp
