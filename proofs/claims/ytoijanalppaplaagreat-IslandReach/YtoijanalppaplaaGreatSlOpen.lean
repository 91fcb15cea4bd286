/-
  Arguments that came in: what can be read as data lies in memory as a Lean value. Own work; plain Lean.
-/
import Derived.Test.YtoijanalppaplaaGreatSlFam
import Derived.ProofKit
import Derived.OpenShut
import Derived.Deep.Slices
namespace Go.Sl
section
variable {H : Type} {enc : TypeId × Value → H} {P : Program} {w : World} {base : Nat} {spare : Nat → Bool} {held : Bool}

/-- whatever reads at type t lies there as a value of R's type; Q ties the datum that is read to it -/
def Reads {α : Type} (P : Program) (R : Rp α) (Q : (H : Type) → DataW H → α → Prop) (t : TypeId) : Prop :=
  ∀ (H : Type) (enc : TypeId × Value → H) (w : World) (base : Nat) (spare : Nat → Bool) (held : Bool) (fuel : Nat) (cs : List Value) (x : DataW H × List MemPlace),
    DataW.trod enc P w base spare held fuel t cs = some x → ∃ y, R.rep (ph w) cs y ∧ Q H x.1 y
def QAny {α : Type} (H : Type) (_ : DataW H) (_ : α) : Prop := True
end
end Go.Sl
