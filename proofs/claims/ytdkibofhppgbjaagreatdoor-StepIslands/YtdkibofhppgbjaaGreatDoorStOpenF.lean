/-
  Arguments that came in: rows of forms. Own work; plain Lean.
-/
import Derived.Test.YtdkibofhppgbjaaGreatDoorStOpen
import Derived.Test.YtdkibofhppgbjaaGreatDoorBrDef
namespace Go.Proofs
open Go Go.Sl Go.Stp
open Go.ChangeShapes Go.ChangeAt Go.RowKit
theorem c48 : Tryz.prog.cellsOf 36 = 1 := by kernel_rfl
theorem c4 : Tryz.prog.cellsOf 4 = 1 := by kernel_rfl
theorem c54 : Tryz.prog.cellsOf 155 = 8 := by kernel_rfl
theorem i8_bd {n : Int} (h : (Lit.int .i8 n).wf = true) : -128 ≤ n ∧ n ≤ 127 := by
  have hb : IntKind.i8.min ≤ n ∧ n ≤ IntKind.i8.max := by simpa only [Lit.wf, Bool.and_eq_true, decide_eq_true_eq] using h
  exact hb
set_option maxRecDepth 100000 in
theorem reads_form : Reads Tryz.prog FormR QAny 155 := by
  intro H enc w base spare held fuel cs x h
  obtain ⟨xs, n, _, rfl, hl, hlen, hf⟩ := DataW.trod_struct Tryz.underlying155 h
  rw [c54] at hl
  match cs, hl, xs, hlen with
  | [a0, a1, a2, a3, a4, a5, a6, a7], _, [y0, y1, y2, y3, y4, y5, y6, y7], _ =>
    have g0 : DataW.trod enc Tryz.prog w base spare held n 36 (([a0, a1, a2, a3, a4, a5, a6, a7].drop 0).take (Tryz.prog.cellsOf 36)) = some y0 := hf 0 _ rfl
    rw [c48] at g0
    have g1 : DataW.trod enc Tryz.prog w base spare held n 36 (([a0, a1, a2, a3, a4, a5, a6, a7].drop 1).take (Tryz.prog.cellsOf 36)) = some y1 := hf 1 _ rfl
    rw [c48] at g1
    have g2 : DataW.trod enc Tryz.prog w base spare held n 36 (([a0, a1, a2, a3, a4, a5, a6, a7].drop 2).take (Tryz.prog.cellsOf 36)) = some y2 := hf 2 _ rfl
    rw [c48] at g2
    have g3 : DataW.trod enc Tryz.prog w base spare held n 36 (([a0, a1, a2, a3, a4, a5, a6, a7].drop 3).take (Tryz.prog.cellsOf 36)) = some y3 := hf 3 _ rfl
    rw [c48] at g3
    have g4 : DataW.trod enc Tryz.prog w base spare held n 5 (([a0, a1, a2, a3, a4, a5, a6, a7].drop 4).take (Tryz.prog.cellsOf 5)) = some y4 := hf 4 _ rfl
    rw [c5] at g4
    have g5 : DataW.trod enc Tryz.prog w base spare held n 5 (([a0, a1, a2, a3, a4, a5, a6, a7].drop 5).take (Tryz.prog.cellsOf 5)) = some y5 := hf 5 _ rfl
    rw [c5] at g5
    have g6 : DataW.trod enc Tryz.prog w base spare held n 4 (([a0, a1, a2, a3, a4, a5, a6, a7].drop 6).take (Tryz.prog.cellsOf 4)) = some y6 := hf 6 _ rfl
    rw [c4] at g6
    have g7 : DataW.trod enc Tryz.prog w base spare held n 4 (([a0, a1, a2, a3, a4, a5, a6, a7].drop 7).take (Tryz.prog.cellsOf 4)) = some y7 := hf 7 _ rfl
    rw [c4] at g7
    obtain ⟨m0, e0, _, w0⟩ := DataW.trod_int (k := .i8) Tryz.underlying36 g0
    obtain ⟨m1, e1, _, w1⟩ := DataW.trod_int (k := .i8) Tryz.underlying36 g1
    obtain ⟨m2, e2, _, w2⟩ := DataW.trod_int (k := .i8) Tryz.underlying36 g2
    obtain ⟨m3, e3, _, w3⟩ := DataW.trod_int (k := .i8) Tryz.underlying36 g3
    obtain ⟨m4, e4, _, w4⟩ := DataW.trod_int (k := .u8) Tryz.underlying5 g4
    obtain ⟨m5, e5, _, w5⟩ := DataW.trod_int (k := .u8) Tryz.underlying5 g5
    obtain ⟨b6, e6, _⟩ := DataW.trod_bool Tryz.underlying4 g6
    obtain ⟨b7, e7, _⟩ := DataW.trod_bool Tryz.underlying4 g7
    obtain ⟨k4, q4⟩ := u8_any m4 w4
    obtain ⟨k5, q5⟩ := u8_any m5 w5
    have f0 : a0 = Value.int .i8 m0 := (List.cons.inj (show [a0] = [Value.int .i8 m0] from e0)).1
    have f1 : a1 = Value.int .i8 m1 := (List.cons.inj (show [a1] = [Value.int .i8 m1] from e1)).1
    have f2 : a2 = Value.int .i8 m2 := (List.cons.inj (show [a2] = [Value.int .i8 m2] from e2)).1
    have f3 : a3 = Value.int .i8 m3 := (List.cons.inj (show [a3] = [Value.int .i8 m3] from e3)).1
    have f4 : a4 = Value.int .u8 m4 := (List.cons.inj (show [a4] = [Value.int .u8 m4] from e4)).1
    have f5 : a5 = Value.int .u8 m5 := (List.cons.inj (show [a5] = [Value.int .u8 m5] from e5)).1
    have f6 : a6 = Value.bool b6 := (List.cons.inj (show [a6] = [Value.bool b6] from e6)).1
    have f7 : a7 = Value.bool b7 := (List.cons.inj (show [a7] = [Value.bool b7] from e7)).1
    subst f0; subst f1; subst f2; subst f3; subst f4; subst f5; subst f6; subst f7
    exact ⟨⟨m0, m1, m2, m3, k4, k5, b6, b7⟩, ⟨by rw [q4, q5], i8_bd w0, i8_bd w1, i8_bd w2, i8_bd w3⟩, trivial⟩
theorem open_forms {H : Type} {enc : TypeId × Value → H} {w : World} {base : Nat} {spare : Nat → Bool} {held : Bool} {a : Option Addr} {n c : Nat} {d : DataW H} {p : List MemPlace}
    (h : ∃ fuel, DataW.trod enc Tryz.prog w base spare held fuel 34 (Value.slice a n c).cells.toList = some (d, p)) : ∃ z, Sl FormR (ph w) (.slice a n c) z := by
  obtain ⟨fuel, hf⟩ := h
  obtain ⟨ys, ⟨v, hv, hs⟩, _⟩ := reads_slice Tryz.underlying34 c54 reads_form _ _ _ _ _ _ _ _ _ hf
  have e : Value.slice a n c = v := (List.cons.inj (show [Value.slice a n c] = [v] from hv)).1
  subst e
  exact ⟨ys, hs⟩
end Go.Proofs
