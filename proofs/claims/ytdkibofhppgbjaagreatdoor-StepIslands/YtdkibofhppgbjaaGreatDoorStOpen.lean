/-
  Arguments that came in: rows of bytes. Own work; plain Lean.
-/
import Derived.Test.YtdkibofhppgbjaaGreatDoorSlOpen
import Derived.Test.YtdkibofhppgbjaaGreatDoorBrDef
import Derived.Test.YtdkibofhppgbjaaGreatDoorProg
import Derived.SizedLaws
namespace Go.Proofs
open Go Go.Sl Go.Stp
open Go.ChangeShapes Go.ChangeAt Go.RowKit
theorem u8_any (n : Int) (h : (Lit.int .u8 n).wf = true) : ∃ y : UInt8, Value.int .u8 n = Bx y := by
  have hb : IntKind.u8.min ≤ n ∧ n ≤ IntKind.u8.max := by simpa only [Lit.wf, Bool.and_eq_true, decide_eq_true_eq] using h
  have h1 : (0 : Int) ≤ n := hb.1
  have h2 : n ≤ 255 := hb.2
  refine ⟨UInt8.ofNat n.toNat, ?_⟩
  have h3 : (UInt8.ofNat n.toNat).toNat = n.toNat := by simp; omega
  show _ = Value.int .u8 ((UInt8.ofNat n.toNat).toNat : Int)
  rw [h3, Int.toNat_of_nonneg h1]
theorem c5 : Tryz.prog.cellsOf 5 = 1 := by kernel_rfl
theorem reads_u8 : Reads Tryz.prog U8R QAny 5 := reads_int (k := .u8) Tryz.underlying5 (fun n hn => by
  obtain ⟨x, hx⟩ := u8_any n hn
  exact ⟨x, by rw [hx]⟩)
theorem open_bytes {H : Type} {enc : TypeId × Value → H} {w : World} {base : Nat} {spare : Nat → Bool} {held : Bool} {a : Option Addr} {n c : Nat} {d : DataW H} {p : List MemPlace}
    (h : ∃ fuel, DataW.trod enc Tryz.prog w base spare held fuel 35 (Value.slice a n c).cells.toList = some (d, p)) : ∃ z, Sl U8R (ph w) (.slice a n c) z := by
  obtain ⟨fuel, hf⟩ := h
  obtain ⟨ys, ⟨v, hv, hs⟩, _⟩ := reads_slice Tryz.underlying35 c5 reads_u8 _ _ _ _ _ _ _ _ _ hf
  have e : Value.slice a n c = v := (List.cons.inj (show [Value.slice a n c] = [v] from hv)).1
  subst e
  exact ⟨ys, hs⟩
end Go.Proofs
