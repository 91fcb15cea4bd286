/-
 Index of an array of numbers. Own work; plain Lean.
-/
import Derived.Test.YtoijanalppaplaaGreatSlFam
import Derived.Test.YtoijanalppaplaaGreatSlJb
namespace Go.Sl
open Go
section
variable {P : Program} {β : Base} {L : List Res} {f : Fm} {d : Option Tmp} {ty : TypeId} {ps : String} {af : Array Edge} {g : Option (Nat × Bool)}
theorem e_index_1 {x y : Operand} {t len e k : Nat} {ik : IntKind} {cs : Array Value} {v : Value} (hx : ev f x = .agg cs) (hy : ev f y = .int ik (k : Int)) (ht : arB P t len e 1 = true) (hk : k < len) (hne : tyB P e false 1 = true) (hr : cs[k]? = some v) :
  EV P β L f ⟨d, .index t x y, ty, ps, af, g⟩ v := fun w _ => by
 unfold arB at ht
 simp only [Bool.and_eq_true] at ht
 obtain ⟨h1, h2⟩ := ht
 cases hu : P.underlying t with
 | none => rw [hu] at h1; cases h1
 | some dd =>
  rw [hu] at h1
  cases dd <;> simp only [] at h1 <;> try (cases h1)
  rename_i l' e'
  simp only [Bool.and_eq_true, beq_iff_eq] at h1
  obtain ⟨rfl, rfl⟩ := h1
  have hs := (tyF hne).size w
  have ha := (tyF hne).agg w
  simp only [execOp, hx, hy, Instr.index, asIntOf, Sem.run_bind, run_underlying hu, Sem.run_pure, Result.andThen_ok]
  simp [hk, hs, part, ha, hr]
end
theorem arr3_ix (k : Nat) (hk : k < 3) (a b c : Int) : (#[Ix a, Ix b, Ix c] : Array Value)[k]? = some (Ix (if k = 0 then a else if k = 1 then b else c)) := by
 rcases (show k = 0 ∨ k = 1 ∨ k = 2 by omega) with rfl | rfl | rfl <;> rfl
end Go.Sl
