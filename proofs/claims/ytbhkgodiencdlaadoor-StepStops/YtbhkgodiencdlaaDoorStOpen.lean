/-
  Arguments that came in: rows of bytes. Own work; plain Lean.
-/
import Derived.Test.YtbhkgodiencdlaaDoorSlOpen
import Derived.Test.YtbhkgodiencdlaaDoorStBase
import Derived.Test.YtbhkgodiencdlaaDoorProg
import Derived.SizedLaws
namespace Go.Proofs
open Go Go.Sl Go.Stp
open Go.ChangeShapes Go.ChangeAt Go.RowKit
theorem u8_any (n : Int) (h : (Lit.int .u8 n).wf = true) : ∃ y : UInt8, Value.int .u8 n = Bx y := by
  have hb : IntKind.u8.min ≤ n ∧ n ≤ IntKind.u8.max := by simpa only [Lit.wf, Bool.and_eq_true, decide_eq_true_eq] using h
  have h1 : (0 : Int) ≤ n := hb.1
  have h2 : n ≤ 255 := hb.2
  refine ⟨UInt8.ofNat n.toNat, ?_⟩
  have h3 : (UInt8.ofNat n.toNat).toNat = n.toNat := by simp; omega
  show _ = Value.int .u8 ((UInt8.ofNat n.toNat).toNat : Int)
  rw [h3, Int.toNat_of_nonneg h1]
theorem c5 : Tryd.prog.cellsOf 5 = 1 := by kernel_rfl
end Go.Proofs
