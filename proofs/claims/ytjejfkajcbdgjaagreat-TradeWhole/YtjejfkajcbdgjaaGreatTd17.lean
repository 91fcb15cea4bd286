/-
 TradeNumbers: walked. Printed by a program of my own.
-/
import Derived.Test.YtjejfkajcbdgjaaGreatTd16
import Derived.Test.YtjejfkajcbdgjaaGreatTdHouE
import Derived.Test.YtjejfkajcbdgjaaGreatSlA
import Derived.Test.YtjejfkajcbdgjaaGreatSlB
namespace Go.Proofs
open Go Go.Sl Go.Td Go.Jn
instance tt185 : CfC Tryz.prog 10 := ⟨by kernel_rfl⟩
instance tt186 : UndC Tryz.prog 22 32 := ⟨by kernel_rfl⟩
theorem tt187 : slB Tryz.prog 22 32 4 = true := by kernel_rfl
instance tt188 : CfC Tryz.prog 11 := ⟨by kernel_rfl⟩
instance tt189 : CfC Tryz.prog 18 := ⟨by kernel_rfl⟩
instance tt190 : FldC Tryz.prog 32 2 2 1 false := ⟨by kernel_rfl⟩
instance tt191 : CfC Tryz.prog 19 := ⟨by kernel_rfl⟩
instance tt192 : CfC Tryz.prog 17 := ⟨by kernel_rfl⟩
end Go.Proofs
