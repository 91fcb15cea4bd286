/-
  Calls of an interface's methods: a pointer's own methods. Own work; plain Lean.
-/
import Derived.Test.YthncdmfogeemcaaGreatSlNum
namespace Go.Sl
open Go
/-- the method of this name of the pointer type t is the function g -/
def mtB (P : Program) (t : TypeId) (name : String) (g : FuncId) : Bool :=
  (match P.info? t with
   | some i => (match i.methods.find? (·.name == name) with
     | some m => m.path.isEmpty && (match m.func with | some (h, true) => h == g | _ => false)
     | none => false)
   | none => false) && (match P.underlying t with | some (.pointer _) => true | _ => false) && cfB P g
theorem run_mt {P : Program} {t : TypeId} {name : String} {g : FuncId} (h : mtB P t name g = true) (v : Value) (w : World) (args : Array Value) :
    (callMethod (.iface t v) name args).run P w = .ok (.enter g (#[v] ++ args)) w := by
  unfold mtB at h
  simp only [Bool.and_eq_true] at h
  obtain ⟨⟨h1, h2⟩, h3⟩ := h
  cases hi : P.info? t with
  | none => rw [hi] at h1; cases h1
  | some i =>
    rw [hi] at h1
    cases hf : i.methods.find? (·.name == name) with
    | none => simp only [hf] at h1; cases h1
    | some m =>
      simp only [hf, Bool.and_eq_true] at h1
      obtain ⟨q1, q2⟩ := h1
      cases hm : m.func with
      | none => rw [hm] at q2; cases q2
      | some z =>
        obtain ⟨k, b⟩ := z
        rw [hm] at q2
        cases b with
        | false => cases q2
        | true =>
          have hk : k = g := by simpa using q2
          subst hk
          cases hu : P.underlying t with
          | none => rw [hu] at h2; cases h2
          | some dd =>
            rw [hu] at h2
            cases dd <;> try (cases h2; done)
            have hp : m.path = #[] := by simpa using q1
            have e : (method (P.types.size + Made.depth) t v name).run P w = .ok (k, v) w := by
              rw [show P.types.size + Made.depth = (P.types.size + (Made.depth - 1)) + 1 from rfl]
              simp [method, run_typeInfo w hi, hf, hm, hp, follow, receiverAt, run_underlying hu, Place.get]
            simp [callMethod, e, run_callF h3]
theorem cl_invoke {P : Program} {f : Fm} {d : Option Tmp} {ty : TypeId} {ps : String} {af : Array Edge} {gd : Option (Nat × Bool)} {c : Operand} {xs : List Operand} {ts : Array TypeId} {t : TypeId} {name : String} {g : FuncId} {v : Value} {vs all : List Value}
    (hg : mtB P t name g = true) (hx : ev f c = .iface t v) (ha : xs.map (ev f) = vs) (hall : v :: vs = all) : CL P f ⟨d, .call ⟨.invoke c name, xs.toArray, ts⟩, ty, ps, af, gd⟩ g all.toArray := fun w => by
  have h := run_mt hg v w vs.toArray
  simp [execOp, resolve, invoke, hx, ha, h, ← hall]
end Go.Sl
