/-
  Operations with few words: rules that find the values by themselves. Own work; plain Lean.
-/
import Derived.Test.YtjejfkajcbdgjaaGreatSlC
import Derived.Test.YtjejfkajcbdgjaaGreatSlFlat
import Derived.Test.YtjejfkajcbdgjaaGreatSlFam
namespace Go.Sl
class TyC (P : Program) (t : TypeId) (agg : outParam Bool) (n : outParam Nat) : Prop where ok : tyB P t agg n = true
class FldC (P : Program) (s k : Nat) (off n : outParam Nat) (agg : outParam Bool) : Prop where ok : fldB P s k off n agg = true
class UndC (P : Program) (t : TypeId) (e : outParam TypeId) : Prop where ok : P.underlying t = some (.slice e)
class ZerC (P : Program) (t : Nat) (z : outParam Value) : Prop where ok : (P.info? t).bind (·.zero) = some z
class CfC (P : Program) (g : FuncId) : Prop where ok : cfB P g = true
class ArrC (P : Program) (t : Nat) (len e n : outParam Nat) : Prop where ok : arB P t len e n = true

section
variable {P : Program} {β : Base} {f : Fm} {L : List Res} {d : Option Tmp} {ty : TypeId} {ps : String} {af : Array Edge} {g : Option (Nat × Bool)} {x y : Operand}
end

section
variable {P : Program} {ro : Option Nat} {n : Nat} {ds : List Deferred} {β : Base} {Q : Exit → Act → World → Prop} {f : Fm} {L : List Res} {ops : Array Oper} {rest : List Oper}
variable {d : Nat} {op : Op} {ty : TypeId} {ps : String} {af : Array Edge} {v : Value}
end
end Go.Sl
