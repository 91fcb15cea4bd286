/-
  Arguments that came in: operations. Own work; plain Lean.
-/
import Derived.Test.YtmgpmgckbcjalaaGreatBrOpen
import Derived.Test.YtmgpmgckbcjalaaGreatBr22
namespace Go.Proofs
open Go Go.Sl Go.Brd
open Go.ChangeShapes Go.ChangeAt Go.RowKit
theorem c1010 : Tryz.prog.cellsOf 61 = 6 := by kernel_rfl
set_option maxRecDepth 100000 in
theorem reads_op : Reads Tryz.prog OpF.R QAny 61 := by
  intro H enc w base spare held fuel cs x h
  obtain ⟨xs, n, _, rfl, hl, hlen, hf⟩ := DataW.trod_struct Tryz.underlying61 h
  rw [c1010] at hl
  match cs, hl, xs, hlen with
  | [a0, a1, a2, a3, a4, a5], _, [y0, y1, y2], _ =>
    have g0 : DataW.trod enc Tryz.prog w base spare held n 5 (([a0, a1, a2, a3, a4, a5].drop 0).take (Tryz.prog.cellsOf 5)) = some y0 := hf 0 _ rfl
    have g1 : DataW.trod enc Tryz.prog w base spare held n 3 (([a0, a1, a2, a3, a4, a5].drop 1).take (Tryz.prog.cellsOf 3)) = some y1 := hf 1 _ rfl
    have g2 : DataW.trod enc Tryz.prog w base spare held n 32 (([a0, a1, a2, a3, a4, a5].drop 2).take (Tryz.prog.cellsOf 32)) = some y2 := hf 2 _ rfl
    rw [c5] at g0; rw [c3] at g1; rw [c25] at g2
    obtain ⟨m0, e0, _, w0⟩ := DataW.trod_int (k := .u8) Tryz.underlying5 g0
    obtain ⟨m1, e1, _, w1⟩ := DataW.trod_int (k := .i64) Tryz.underlying3 g1
    obtain ⟨ar, e2, _⟩ := trod_area g2
    obtain ⟨k0, q0⟩ := u8_any w0
    have f0 : a0 = Value.int .u8 m0 := (List.cons.inj (show [a0] = [Value.int .u8 m0] from e0)).1
    have f1 : a1 = Value.int .i64 m1 := (List.cons.inj (show [a1] = [Value.int .i64 m1] from e1)).1
    have e2 : [a2, a3, a4, a5] = [Ix ar.lx, Ix ar.ly, Ix ar.hx, Ix ar.hy] := e2
    injection e2 with f2 e2; injection e2 with f3 e2; injection e2 with f4 e2; injection e2 with f5 _
    exact ⟨⟨k0, m1, ar⟩, by show _ = [Bx k0, Ix m1, Ix ar.lx, Ix ar.ly, Ix ar.hx, Ix ar.hy]; rw [f0, f1, f2, f3, f4, f5, q0], trivial⟩
theorem open_ops {H : Type} {enc : TypeId × Value → H} {w : World} {base : Nat} {spare : Nat → Bool} {held : Bool} {a : Option Addr} {n c : Nat} {d : DataW H} {p : List MemPlace}
    (h : ∃ fuel, DataW.trod enc Tryz.prog w base spare held fuel 25 (Value.slice a n c).cells.toList = some (d, p)) : ∃ z, Sl OpF.R (ph w) (.slice a n c) z := by
  obtain ⟨fuel, hf⟩ := h
  obtain ⟨ys, ⟨v, hv, hs⟩, _⟩ := reads_slice Tryz.underlying25 c1010 reads_op _ _ _ _ _ _ _ _ _ hf
  have e : Value.slice a n c = v := (List.cons.inj (show [Value.slice a n c] = [v] from hv)).1
  subst e
  exact ⟨ys, hs⟩
end Go.Proofs
