/-
  Interfaces: a value is put in and taken out again. Own work; plain Lean.
-/
import Derived.Test.YthncdmfogeemcaaGreatSlNum
namespace Go.Sl
open Go
/-- a type that is no interface -/
def nifB (P : Program) (t : TypeId) : Bool := match P.underlying t with | some (.interface _) => false | some _ => true | none => false
section
variable {P : Program} {β : Base} {L : List Res} {f : Fm} {d : Option Tmp} {ty : TypeId} {ps : String} {af : Array Edge} {g : Option (Nat × Bool)}
theorem e_mkif {x : Operand} {t : TypeId} {v : Value} (hx : ev f x = v) (h : nifB P t = true) : EV P β L f ⟨d, .makeInterface t x, ty, ps, af, g⟩ (.iface t v) := fun w _ => by
  unfold nifB at h
  cases hu : P.underlying t with
  | none => rw [hu] at h; cases h
  | some k =>
    rw [hu] at h
    cases k <;> first | (cases h; done) | simp [execOp, hx, Instr.makeInterface, run_underlying hu]
theorem e_asrt {x : Operand} {s t : TypeId} {v : Value} (hx : ev f x = .iface t v) (h : nifB P t = true) : EV P β L f ⟨d, .typeAssert x s t false, ty, ps, af, g⟩ v := fun w _ => by
  unfold nifB at h
  cases hu : P.underlying t with
  | none => rw [hu] at h; cases h
  | some k =>
    rw [hu] at h
    cases k <;> first | (cases h; done) | simp [execOp, hx, Instr.typeAssert, run_underlying hu]
theorem e_max4 {x y z u : Operand} {k : IntKind} {a b c e : Int} {ts : Array TypeId} (hx : ev f x = .int k a) (hy : ev f y = .int k b) (hz : ev f z = .int k c) (hu : ev f u = .int k e) :
    EV P β L f ⟨d, .call ⟨.builtin .max, #[x, y, z, u], ts⟩, ty, ps, af, g⟩ (.int k (max (max (max a b) c) e)) := fun w _ => by
  simp [execOp, resolve, invoke, builtin, hx, hy, hz, hu, Builtin.max_, Builtin.max2]
  repeat' split
  all_goals omega
theorem e_min4 {x y z u : Operand} {k : IntKind} {a b c e : Int} {ts : Array TypeId} (hx : ev f x = .int k a) (hy : ev f y = .int k b) (hz : ev f z = .int k c) (hu : ev f u = .int k e) :
    EV P β L f ⟨d, .call ⟨.builtin .min, #[x, y, z, u], ts⟩, ty, ps, af, g⟩ (.int k (min (min (min a b) c) e)) := fun w _ => by
  simp [execOp, resolve, invoke, builtin, hx, hy, hz, hu, Builtin.min_, Builtin.min2]
  repeat' split
  all_goals omega
end
end Go.Sl
