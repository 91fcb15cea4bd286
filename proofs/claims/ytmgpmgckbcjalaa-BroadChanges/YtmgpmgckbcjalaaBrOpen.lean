/-
  Arguments that came in: bytes, forms, areas. Own work; plain Lean.
-/
import Derived.Test.YtmgpmgckbcjalaaSlOpen
import Derived.Test.YtmgpmgckbcjalaaBrLaw
import Derived.Test.YtmgpmgckbcjalaaProg
import Derived.SizedLaws
namespace Go.Proofs
open Go Go.Sl Go.Brd
open Go.ChangeShapes Go.ChangeAt Go.RowKit
theorem u8_any {n : Int} (h : (Lit.int .u8 n).wf = true) : ∃ y : UInt8, Value.int .u8 n = Bx y := by
  have hb : IntKind.u8.min ≤ n ∧ n ≤ IntKind.u8.max := by simpa only [Lit.wf, Bool.and_eq_true, decide_eq_true_eq] using h
  have h1 : (0 : Int) ≤ n := hb.1
  have h2 : n ≤ 255 := hb.2
  refine ⟨UInt8.ofNat n.toNat, ?_⟩
  have h3 : (UInt8.ofNat n.toNat).toNat = n.toNat := by simp; omega
  show _ = Value.int .u8 ((UInt8.ofNat n.toNat).toNat : Int)
  rw [h3, Int.toNat_of_nonneg h1]
theorem c3 : Try.prog.cellsOf 3 = 1 := by kernel_rfl
theorem c5 : Try.prog.cellsOf 5 = 1 := by kernel_rfl
theorem c23 : Try.prog.cellsOf 23 = 2 := by kernel_rfl
theorem c43 : Try.prog.cellsOf 43 = 4 := by kernel_rfl
theorem reads_u8 : Reads Try.prog U8R QAny 5 := reads_int (k := .u8) Try.underlying5 (fun n hn => by
  obtain ⟨x, hx⟩ := u8_any hn
  exact ⟨x, by rw [hx]⟩)
theorem open_bytes {H : Type} {enc : TypeId × Value → H} {w : World} {base : Nat} {spare : Nat → Bool} {held : Bool} {a : Option Addr} {n c : Nat} {d : DataW H} {p : List MemPlace}
    (h : ∃ fuel, DataW.trod enc Try.prog w base spare held fuel 54 (Value.slice a n c).cells.toList = some (d, p)) : ∃ z, Sl U8R (ph w) (.slice a n c) z := by
  obtain ⟨fuel, hf⟩ := h
  obtain ⟨ys, ⟨v, hv, hs⟩, _⟩ := reads_slice Try.underlying54 c5 reads_u8 _ _ _ _ _ _ _ _ _ hf
  have e : Value.slice a n c = v := (List.cons.inj (show [Value.slice a n c] = [v] from hv)).1
  subst e
  exact ⟨ys, hs⟩
set_option maxRecDepth 100000 in
theorem reads_form : Reads Try.prog FormF.R QAny 43 := by
  intro H enc w base spare held fuel cs x h
  obtain ⟨xs, n, _, rfl, hl, hlen, hf⟩ := DataW.trod_struct Try.underlying43 h
  rw [c43] at hl
  match cs, hl, xs, hlen with
  | [a0, a1, a2, a3], _, [y0, y1, y2, y3], _ =>
    have g0 : DataW.trod enc Try.prog w base spare held n 5 (([a0, a1, a2, a3].drop 0).take (Try.prog.cellsOf 5)) = some y0 := hf 0 _ rfl
    have g1 : DataW.trod enc Try.prog w base spare held n 5 (([a0, a1, a2, a3].drop 1).take (Try.prog.cellsOf 5)) = some y1 := hf 1 _ rfl
    have g2 : DataW.trod enc Try.prog w base spare held n 5 (([a0, a1, a2, a3].drop 2).take (Try.prog.cellsOf 5)) = some y2 := hf 2 _ rfl
    have g3 : DataW.trod enc Try.prog w base spare held n 5 (([a0, a1, a2, a3].drop 3).take (Try.prog.cellsOf 5)) = some y3 := hf 3 _ rfl
    rw [c5] at g0 g1 g2 g3
    obtain ⟨m0, e0, _, w0⟩ := DataW.trod_int (k := .u8) Try.underlying5 g0
    obtain ⟨m1, e1, _, w1⟩ := DataW.trod_int (k := .u8) Try.underlying5 g1
    obtain ⟨m2, e2, _, w2⟩ := DataW.trod_int (k := .u8) Try.underlying5 g2
    obtain ⟨m3, e3, _, w3⟩ := DataW.trod_int (k := .u8) Try.underlying5 g3
    obtain ⟨k0, q0⟩ := u8_any w0
    obtain ⟨k1, q1⟩ := u8_any w1
    obtain ⟨k2, q2⟩ := u8_any w2
    obtain ⟨k3, q3⟩ := u8_any w3
    have f0 : a0 = Value.int .u8 m0 := (List.cons.inj (show [a0] = [Value.int .u8 m0] from e0)).1
    have f1 : a1 = Value.int .u8 m1 := (List.cons.inj (show [a1] = [Value.int .u8 m1] from e1)).1
    have f2 : a2 = Value.int .u8 m2 := (List.cons.inj (show [a2] = [Value.int .u8 m2] from e2)).1
    have f3 : a3 = Value.int .u8 m3 := (List.cons.inj (show [a3] = [Value.int .u8 m3] from e3)).1
    subst f0; subst f1; subst f2; subst f3
    exact ⟨⟨k0, k1, k2, k3⟩, by show _ = [Bx k0, Bx k1, Bx k2, Bx k3]; rw [q0, q1, q2, q3], trivial⟩
theorem open_forms {H : Type} {enc : TypeId × Value → H} {w : World} {base : Nat} {spare : Nat → Bool} {held : Bool} {a : Option Addr} {n c : Nat} {d : DataW H} {p : List MemPlace}
    (h : ∃ fuel, DataW.trod enc Try.prog w base spare held fuel 28 (Value.slice a n c).cells.toList = some (d, p)) : ∃ z, Sl FormF.R (ph w) (.slice a n c) z := by
  obtain ⟨fuel, hf⟩ := h
  obtain ⟨ys, ⟨v, hv, hs⟩, _⟩ := reads_slice Try.underlying28 c43 reads_form _ _ _ _ _ _ _ _ _ hf
  have e : Value.slice a n c = v := (List.cons.inj (show [Value.slice a n c] = [v] from hv)).1
  subst e
  exact ⟨ys, hs⟩
end Go.Proofs
