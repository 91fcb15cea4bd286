/-
 TradeOpens: walked. Printed by a program of my own.
-/
import Derived.Test.YtjejfkajcbdgjaaGreatTd21
import Derived.Test.YtjejfkajcbdgjaaGreatTdWh
import Derived.Test.YtjejfkajcbdgjaaGreatSlA
import Derived.Test.YtjejfkajcbdgjaaGreatSlN
namespace Go.Proofs
open Go Go.Sl Go.Td Go.Jn
instance tt195 : CfC Tryz.prog 10 := ⟨by kernel_rfl⟩
instance tt196 : UndC Tryz.prog 22 32 := ⟨by kernel_rfl⟩
theorem tt197 : slB Tryz.prog 22 32 4 = true := by kernel_rfl
instance tt198 : CfC Tryz.prog 11 := ⟨by kernel_rfl⟩
instance tt199 : CfC Tryz.prog 22 := ⟨by kernel_rfl⟩
instance tt200 : CfC Tryz.prog 30 := ⟨by kernel_rfl⟩
instance tt201 : CfC Tryz.prog 31 := ⟨by kernel_rfl⟩
instance tt202 : FldC Tryz.prog 32 2 2 1 false := ⟨by kernel_rfl⟩
instance tt203 : CfC Tryz.prog 17 := ⟨by kernel_rfl⟩
end Go.Proofs
