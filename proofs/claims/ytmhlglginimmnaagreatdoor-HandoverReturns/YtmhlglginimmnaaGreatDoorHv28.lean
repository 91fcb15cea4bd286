/-
 HandoverOrder: walked. Printed by a program of my own.
-/
import Derived.Test.YtmhlglginimmnaaGreatDoorHvNetB
import Derived.Test.YtmhlglginimmnaaGreatDoorSlA
import Derived.Test.YtmhlglginimmnaaGreatDoorSlSortF
set_option linter.unusedVariables false
set_option linter.unusedSimpArgs false
namespace Go.Proofs
open Go Go.Sl Go.Hv Go.Jn
instance ut0 : CfC Tryz.prog 10 := ⟨by kernel_rfl⟩
instance ut1 : CfC Tryz.prog 9 := ⟨by kernel_rfl⟩
instance ut4 : CfC Tryz.prog 12 := ⟨by kernel_rfl⟩
instance ut5 : CfC Tryz.prog 11 := ⟨by kernel_rfl⟩
instance ut6 : CfC Tryz.prog 13 := ⟨by kernel_rfl⟩
instance ut7 : CfC Tryz.prog 14 := ⟨by kernel_rfl⟩
instance ut8 : UndC Tryz.prog 35 38 := ⟨by kernel_rfl⟩
instance ut9 : UndC Tryz.prog 22 5 := ⟨by kernel_rfl⟩
instance ut11 : TyC Tryz.prog 5 false 1 := ⟨by kernel_rfl⟩
instance ut13 : TyC Tryz.prog 38 true 6 := ⟨by kernel_rfl⟩
instance ut14 : ZerC Tryz.prog 38 (.agg #[.int .i64 (0), .int .i64 (0), .int .i64 (0), .bool false, .int .i64 (0), .slice none 0 0]) := ⟨by kernel_rfl⟩
instance ut15 : FldC Tryz.prog 38 2 2 1 false := ⟨by kernel_rfl⟩
instance ut16 : TyC Tryz.prog 3 false 1 := ⟨by kernel_rfl⟩
instance ut17 : CfC Tryz.prog 15 := ⟨by kernel_rfl⟩
instance ut18 : CfC Tryz.prog 16 := ⟨by kernel_rfl⟩
instance ut19 : UndC Tryz.prog 40 32 := ⟨by kernel_rfl⟩
instance ut20 : CfC Tryz.prog 17 := ⟨by kernel_rfl⟩
instance ut22 : TyC Tryz.prog 32 true 2 := ⟨by kernel_rfl⟩
instance ut23 : ZerC Tryz.prog 32 (.agg #[.int .i64 (0), .slice none 0 0]) := ⟨by kernel_rfl⟩
instance ut24 : CfC Tryz.prog 18 := ⟨by kernel_rfl⟩
instance ut25 : CfC Tryz.prog 19 := ⟨by kernel_rfl⟩
instance ut26 : FldC Tryz.prog 38 3 3 1 false := ⟨by kernel_rfl⟩
instance ut27 : TyC Tryz.prog 4 false 1 := ⟨by kernel_rfl⟩
instance ut28 : CfC Tryz.prog 20 := ⟨by kernel_rfl⟩
end Go.Proofs
