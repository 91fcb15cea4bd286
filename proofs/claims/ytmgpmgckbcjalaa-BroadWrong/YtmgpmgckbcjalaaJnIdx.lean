/-
  A part of an array of structs, by a number.
-/
import Derived.Test.YtmgpmgckbcjalaaSlFam
import Derived.Test.YtmgpmgckbcjalaaSlJb
namespace Go.Sl
open Go
section
variable {P : Program} {β : Base} {L : List Res} {f : Fm} {d : Option Tmp} {ty : TypeId} {ps : String} {af : Array Edge} {g : Option (Nat × Bool)}
theorem e_index_n {x y : Operand} {t len e k m : Nat} {ik : IntKind} {cs : Array Value} {r : Array Value} (hx : ev f x = .agg cs) (hy : ev f y = .int ik (k : Int)) (ht : arB P t len e m = true) (hk : k < len) (hne : tyB P e true m = true) (hr : cs.extract (k * m) (k * m + m) = r) :
    EV P β L f ⟨d, .index t x y, ty, ps, af, g⟩ (.agg r) := fun w _ => by
  unfold arB at ht
  simp only [Bool.and_eq_true] at ht
  obtain ⟨h1, h2⟩ := ht
  cases hu : P.underlying t with
  | none => rw [hu] at h1; cases h1
  | some dd =>
    rw [hu] at h1
    cases dd <;> simp only [] at h1 <;> try (cases h1)
    rename_i l' e'
    simp only [Bool.and_eq_true, beq_iff_eq] at h1
    obtain ⟨rfl, rfl⟩ := h1
    have hs := (tyF hne).size w
    have ha := (tyF hne).agg w
    simp only [execOp, hx, hy, Instr.index, asIntOf, Sem.run_bind, run_underlying hu, Sem.run_pure, Result.andThen_ok]
    simp [hk, hs, part, ha, hr]
end
end Go.Sl
namespace Go.Sl
open Go
section
variable {P : Program} {β : Base} {L : List Res} {f : Fm}
variable {d : Option Tmp} {ty : TypeId} {ps : String} {af : Array Edge} {g : Option (Nat × Bool)}
end
end Go.Sl
