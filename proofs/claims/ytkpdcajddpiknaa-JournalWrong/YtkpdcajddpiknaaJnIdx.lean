/-
  A part of an array of structs, by a number.
-/
import Derived.Test.YtkpdcajddpiknaaSlFam
import Derived.Test.YtkpdcajddpiknaaSlJb
namespace Go.Sl
open Go
section
variable {P : Program} {β : Base} {L : List Res} {f : Fm} {d : Option Tmp} {ty : TypeId} {ps : String} {af : Array Edge} {g : Option (Nat × Bool)}
theorem e_index_n {x y : Operand} {t len e k m : Nat} {ik : IntKind} {cs : Array Value} {r : Array Value} (hx : ev f x = .agg cs) (hy : ev f y = .int ik (k : Int)) (ht : arB P t len e m = true) (hk : k < len) (hne : tyB P e true m = true) (hr : cs.extract (k * m) (k * m + m) = r) :
    EV P β L f ⟨d, .index t x y, ty, ps, af, g⟩ (.agg r) := fun w _ => by
  unfold arB at ht
  simp only [Bool.and_eq_true] at ht
  obtain ⟨h1, h2⟩ := ht
  cases hu : P.underlying t with
  | none => rw [hu] at h1; cases h1
  | some dd =>
    rw [hu] at h1
    cases dd <;> simp only [] at h1 <;> try (cases h1)
    rename_i l' e'
    simp only [Bool.and_eq_true, beq_iff_eq] at h1
    obtain ⟨rfl, rfl⟩ := h1
    have hs := (tyF hne).size w
    have ha := (tyF hne).agg w
    simp only [execOp, hx, hy, Instr.index, asIntOf, Sem.run_bind, run_underlying hu, Sem.run_pure, Result.andThen_ok]
    simp [hk, hs, part, ha, hr]
end
end Go.Sl
namespace Go.Sl
open Go
section
variable {P : Program} {β : Base} {L : List Res} {f : Fm}
variable {d : Option Tmp} {ty : TypeId} {ps : String} {af : Array Edge} {g : Option (Nat × Bool)}
/-- make of bytes, the row by a name -/
theorem m_makeZ {x y : Operand} {t e c : Nat} {zs : List UInt8} (hzs : zs = List.replicate c 0) (hsl : slB P t e 1 = true) (hel : elB P e 1 1 = true) (hz : (P.info? e).bind (·.zero) = some (.int .u8 0)) (hx : ev f x = .int .i64 (c : Int)) (hy : ev f y = .int .i64 (c : Int)) (h0 : 0 < c) (hc : c ≤ 140737488355328) :
    MV P β L f ⟨d, .makeSlice t x y, ty, ps, af, g⟩ (fun u L' => ∃ b, u = .slice (some ⟨b, 0, none⟩) zs.length c ∧ L' = row (.slice (some ⟨b, 0, none⟩) zs.length c) e 1 zs.length (BX zs) :: L) := by
  subst hzs
  exact m_makeB hsl hel hz hx hy h0 hc
end
end Go.Sl
