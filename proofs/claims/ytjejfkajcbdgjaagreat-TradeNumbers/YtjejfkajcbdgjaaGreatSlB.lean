/-
  Short forms, continued: addresses, stores, what a region that draws its order must show. Own work; plain Lean.
-/
import Derived.Test.YtjejfkajcbdgjaaGreatSlA
import Derived.Test.YtjejfkajcbdgjaaGreatSlFlat
import Derived.Test.YtjejfkajcbdgjaaGreatSlTail
namespace Go.Sl
section
variable {P : Program} {β : Base} {f : Fm} {L : List Res} {d : Option Tmp} {ty : TypeId} {ps : String} {af : Array Edge} {g : Option (Nat × Bool)} {x y : Operand}
end
abbrev tk (r : Res) (b : List Nat) : Tok := ⟨none, none, b, [], fun _ => r⟩
section
variable {P : Program} {ro : Option Nat} {n : Nat} {ds : List Deferred} {β : Base} {Q : Exit → Act → World → Prop}
end
end Go.Sl
