/-
 Copies of stores,houses that show the same: walked. Printed by a program of my own.
-/
import Derived.Test.YtjejfkajcbdgjaaGreatTd20
import Derived.Test.YtjejfkajcbdgjaaGreatTdKept
import Derived.Test.YtjejfkajcbdgjaaGreatSlA
import Derived.Test.YtjejfkajcbdgjaaGreatSlN
namespace Go.Proofs
open Go Go.Sl Go.Td Go.Jn
theorem St.fewVw {β : Base} {H J : Nat} {X : KHs} {dn : Bool} {M : List Res} {w : World} (h : St β (viewR H J X dn :: M) w) : (ownersX X).length ≤ 256 ∧ (holdsX X).length ≤ 128 ∧ St β (viewR H J X dn :: M) w := by
 obtain ⟨mp,mh,mm,s,ms,zs,h1,h2⟩ := St.openView h
 exact ⟨own_few h1.ok,hold_few h1.ok,h⟩
instance tt188 : FldC Tryz.prog 29 0 0 1 false := ⟨by kernel_rfl⟩
instance tt189 : CfC Tryz.prog 53 := ⟨by kernel_rfl⟩
instance tt190 : FldC Tryz.prog 29 1 1 1 false := ⟨by kernel_rfl⟩
instance tt191 : FldC Tryz.prog 29 2 2 1 false := ⟨by kernel_rfl⟩
instance tt192 : CfC Tryz.prog 14 := ⟨by kernel_rfl⟩
instance tt193 : CfC Tryz.prog 18 := ⟨by kernel_rfl⟩
instance tt194 : CfC Tryz.prog 19 := ⟨by kernel_rfl⟩
end Go.Proofs
