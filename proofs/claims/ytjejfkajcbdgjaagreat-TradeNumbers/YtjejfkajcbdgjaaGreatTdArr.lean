/-
 An element of an array of one's own. Own work; plain Lean.
-/
import Derived.Test.YtjejfkajcbdgjaaGreatSlFam
namespace Go.Sl
section
variable {P : Program} {ro : Option Nat} {n : Nat} {ds : List Deferred} {β : Base} {Q : Exit → Act → World → Prop} {f : Fm} {L : List Res} {ops : Array Oper} {rest : List Oper}
variable {d : Option Tmp} {ty : TypeId} {ps : String} {af : Array Edge} {g : Option (Nat × Bool)}
theorem e_indexArrK {x y : Operand} {t len e n k b o : Nat} {ik : IntKind} (hx : ev f x = .pointer (some ⟨b, o, none⟩)) (hy : ev f y = .int ik (k : Int)) (ht : arB P t len e n = true) (hk : k < len) :
  EV P β L f ⟨d, .indexAddr t x y, ty, ps, af, g⟩ (.pointer (some ⟨b, o + k * n, none⟩)) := fun w _ => by
 have e0 : (⟨b, o, none⟩ : Addr).add (k * n) = ⟨b, o + k * n, none⟩ := by unfold Addr.add; split <;> simp_all
 rw [← e0]
 unfold arB at ht
 simp only [Bool.and_eq_true] at ht
 obtain ⟨h1, h2⟩ := ht
 cases hu : P.underlying t with
 | none => rw [hu] at h1; cases h1
 | some dd =>
  rw [hu] at h1
  cases dd <;> simp only [] at h1 <;> try (cases h1)
  rename_i l' e'
  have he : l' = len ∧ e' = e := by simpa using h1
  obtain ⟨rfl, rfl⟩ := he
  cases hi : P.info? e' with
  | none => rw [hi] at h2; cases h2
  | some i =>
   rw [hi] at h2
   have hn : i.size = n := by simpa using h2
   simp only [execOp, hx, hy, Instr.indexAt, Instr.sureAddr, asIntOf, Sem.run_bind, run_underlying hu, Sem.run_pure, Result.andThen_ok]
   simp [hk, sizeOf, typeInfo, hi, hn]
theorem e_field1 {x : Operand} {s k off m : Nat} {cs : Array Value} {v : Value} (hx : ev f x = .agg cs) (hf : fldB P s k off m false = true) (hv : cs[off]? = some v) : EV P β L f ⟨d, .field s x k, ty, ps, af, g⟩ v := fun w _ => by
 unfold fldB at hf
 cases hu : P.underlying s with
 | none => rw [hu] at hf; cases hf
 | some dd =>
  rw [hu] at hf
  cases dd <;> simp only [] at hf <;> try (cases hf)
  rename_i fs
  cases hk : fs[k]? with
  | none => rw [hk] at hf; cases hf
  | some fl =>
   rw [hk] at hf
   simp only [Bool.and_eq_true, Bool.not_eq_true', beq_eq_false_iff_ne, ne_eq, beq_iff_eq] at hf
   obtain ⟨⟨ho, ht⟩, hn⟩ := hf
   have ha := (tyF ht).agg w
   subst ho
   simp [execOp, hx, Instr.field, run_underlying hu, hk, asAgg, part, ha, hv]
end
end Go.Sl
