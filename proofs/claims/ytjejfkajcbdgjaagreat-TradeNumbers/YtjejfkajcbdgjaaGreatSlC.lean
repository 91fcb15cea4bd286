/-
  Short forms: the same rules with fewer words. Own work; plain Lean.
-/
import Derived.Test.YtjejfkajcbdgjaaGreatSlFlat
namespace Go.Sl
abbrev pp (b o : Nat) : Value := .pointer (some ⟨b, o, none⟩)
section
variable {P : Program} {ro : Option Nat} {n : Nat} {ds : List Deferred} {β : Base} {Q : Exit → Act → World → Prop} {f g : Fm} {L L' M : List Res} {ops : Array Oper} {rest : List Oper}
variable {d : Nat} {op : Op} {ty : TypeId} {ps : String} {af : Array Edge} {v : Value} {gd : Option (Nat × Bool)}
end
end Go.Sl
