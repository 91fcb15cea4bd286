/-
  Lists that are filled with marks and made longer: two slices that may share a block, resources one after the other. Own work; plain Lean.
-/
import Derived.Test.YtjejfkajcbdgjaaGreatSlFam
import Derived.Test.YtjejfkajcbdgjaaGreatSlFlat
namespace Go.Sl
section
variable {P : Program} {ro : Option Nat} {n : Nat} {ds : List Deferred} {β : Base} {Q : Exit → Act → World → Prop} {f : Fm} {L : List Res} {ops : Array Oper} {rest : List Oper}
variable {d : Option Tmp} {ty : TypeId} {ps : String} {af : Array Edge} {g : Option (Nat × Bool)}
end
/-! resources one after the other -/
section
variable {P : Program} {ro : Option Nat} {n : Nat} {ds : List Deferred} {β : Base} {Q : Exit → Act → World → Prop} {f : Fm} {L : List Res} {ops : Array Oper} {rest : List Oper}
variable {d : Option Tmp} {ty : TypeId} {ps : String} {af : Array Edge} {g : Option (Nat × Bool)}
/-! one of them taken out for a while -/
end
/-- the header of a slice -/
structure H3 where
  p : Option Addr
  n : Nat
  c : Nat
/-- a slice and what it holds -/
structure HV (α : Type) where
  p : Option Addr
  c : Nat
  xs : List α
def HV.h {α : Type} (v : HV α) : H3 := ⟨v.p, v.xs.length, v.c⟩
structure Z5 where
  h : H3
  q : Option Addr
  e : Nat
section
variable {α : Type} (F : Fl α) (T : Nat) (mk : Nat → Nat → α)
end
section
variable {α : Type} {F : Fl α} {T : Nat} {mk : Nat → Nat → α}
end
section
variable {P : Program} {ro : Option Nat} {n : Nat} {ds : List Deferred} {β : Base} {Q : Exit → Act → World → Prop} {f : Fm} {L : List Res} {ops : Array Oper} {rest : List Oper}
variable {d : Option Tmp} {ty : TypeId} {ps : String} {af : Array Edge} {g : Option (Nat × Bool)}
variable {α : Type} {F : Fl α} {T : Nat}
end
end Go.Sl
