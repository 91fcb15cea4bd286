/-
 Arguments that came in: bodies, vectors. Own work; plain Lean.
-/
import Derived.Test.YtoijanalppaplaaGreatSlOpen
import Derived.Test.YtoijanalppaplaaGreatIsSt
import Derived.Test.YtoijanalppaplaaGreatBr2
import Derived.Test.YtoijanalppaplaaGreatProg
import Derived.SizedLaws
namespace Go.Proofs
open Go Go.Sl Go.Stp
open Go.ChangeShapes Go.ChangeAt Go.RowKit
theorem c3 : Tryz.prog.cellsOf 3 = 1 := by kernel_rfl
theorem c4 : Tryz.prog.cellsOf 4 = 1 := by kernel_rfl
theorem c25 : Tryz.prog.cellsOf 25 = 2 := by kernel_rfl
theorem c33 : Tryz.prog.cellsOf 33 = 9 := by kernel_rfl
theorem c42 : Tryz.prog.cellsOf 42 = 3 := by kernel_rfl
theorem c22 : Tryz.prog.cellsOf 22 = 1 := by kernel_rfl
theorem c23 : Tryz.prog.cellsOf 23 = 1 := by kernel_rfl
theorem c27 : Tryz.prog.cellsOf 27 = 4 := by kernel_rfl
theorem i64_bd {n : Int} (h : (Lit.int .i64 n).wf = true) : -9223372036854775808 ≤ n ∧ n ≤ 9223372036854775807 := by
 have hb : IntKind.i64.min ≤ n ∧ n ≤ IntKind.i64.max := by simpa only [Lit.wf, Bool.and_eq_true, decide_eq_true_eq] using h
 exact hb
set_option maxRecDepth 100000 in
theorem trod_vec {H : Type} {enc : TypeId × Value → H} {w : World} {base : Nat} {spare : Nat → Bool} {held : Bool} {fuel : Nat} {a b : Value} {x : DataW H × List MemPlace} (h : DataW.trod enc Tryz.prog w base spare held fuel 25 [a, b] = some x) :
  ∃ m n : Int, a = Ix m ∧ b = Ix n ∧ (-9223372036854775808 ≤ m ∧ m ≤ 9223372036854775807) ∧ (-9223372036854775808 ≤ n ∧ n ≤ 9223372036854775807) := by
 obtain ⟨xs, n, _, rfl, hl, hlen, hf⟩ := DataW.trod_struct Tryz.underlying25 h
 match xs, hlen with
 | [y0, y1], _ =>
  have g0 : DataW.trod enc Tryz.prog w base spare held n 3 (([a, b].drop 0).take (Tryz.prog.cellsOf 3)) = some y0 := hf 0 _ rfl
  rw [c3] at g0
  have g1 : DataW.trod enc Tryz.prog w base spare held n 3 (([a, b].drop 1).take (Tryz.prog.cellsOf 3)) = some y1 := hf 1 _ rfl
  rw [c3] at g1
  obtain ⟨m0, e0, _, w0⟩ := DataW.trod_int (k := .i64) Tryz.underlying3 g0
  obtain ⟨m1, e1, _, w1⟩ := DataW.trod_int (k := .i64) Tryz.underlying3 g1
  exact ⟨m0, m1, (List.cons.inj (show [a] = [Value.int .i64 m0] from e0)).1, (List.cons.inj (show [b] = [Value.int .i64 m1] from e1)).1, i64_bd w0, i64_bd w1⟩
set_option maxRecDepth 100000 in
theorem reads_body : Reads Tryz.prog KBR QAny 33 := by
 intro H enc w base spare held fuel cs x h
 obtain ⟨xs, n, _, rfl, hl, hlen, hf⟩ := DataW.trod_struct Tryz.underlying33 h
 rw [c33] at hl
 match cs, hl, xs, hlen with
 | [a0, a1, a2, a3, a4, a5, a6, a7, a8], _, [y0, y1, y2, y3, y4, y5, y6], _ =>
  have g0 : DataW.trod enc Tryz.prog w base spare held n 3 (([a0, a1, a2, a3, a4, a5, a6, a7, a8].drop 0).take (Tryz.prog.cellsOf 3)) = some y0 := hf 0 _ rfl
  rw [c3] at g0
  obtain ⟨m0, e0, _, w0⟩ := DataW.trod_int (k := .i64) Tryz.underlying3 g0
  have f0 : a0 = Value.int .i64 m0 := (List.cons.inj (show [a0] = [Value.int .i64 m0] from e0)).1
  have g1 : DataW.trod enc Tryz.prog w base spare held n 25 (([a0, a1, a2, a3, a4, a5, a6, a7, a8].drop 1).take (Tryz.prog.cellsOf 25)) = some y1 := hf 1 _ rfl
  rw [c25] at g1
  obtain ⟨m1, m2, f1, f2, _, _⟩ := trod_vec (show DataW.trod enc Tryz.prog w base spare held n 25 [a1, a2] = some y1 from g1)
  have g2 : DataW.trod enc Tryz.prog w base spare held n 25 (([a0, a1, a2, a3, a4, a5, a6, a7, a8].drop 3).take (Tryz.prog.cellsOf 25)) = some y2 := hf 2 _ rfl
  rw [c25] at g2
  obtain ⟨m3, m4, f3, f4, _, _⟩ := trod_vec (show DataW.trod enc Tryz.prog w base spare held n 25 [a3, a4] = some y2 from g2)
  have g3 : DataW.trod enc Tryz.prog w base spare held n 3 (([a0, a1, a2, a3, a4, a5, a6, a7, a8].drop 5).take (Tryz.prog.cellsOf 3)) = some y3 := hf 3 _ rfl
  rw [c3] at g3
  obtain ⟨m5, e5, _, w5⟩ := DataW.trod_int (k := .i64) Tryz.underlying3 g3
  have f5 : a5 = Value.int .i64 m5 := (List.cons.inj (show [a5] = [Value.int .i64 m5] from e5)).1
  have g4 : DataW.trod enc Tryz.prog w base spare held n 3 (([a0, a1, a2, a3, a4, a5, a6, a7, a8].drop 6).take (Tryz.prog.cellsOf 3)) = some y4 := hf 4 _ rfl
  rw [c3] at g4
  obtain ⟨m6, e6, _, w6⟩ := DataW.trod_int (k := .i64) Tryz.underlying3 g4
  have f6 : a6 = Value.int .i64 m6 := (List.cons.inj (show [a6] = [Value.int .i64 m6] from e6)).1
  have g5 : DataW.trod enc Tryz.prog w base spare held n 4 (([a0, a1, a2, a3, a4, a5, a6, a7, a8].drop 7).take (Tryz.prog.cellsOf 4)) = some y5 := hf 5 _ rfl
  rw [c4] at g5
  obtain ⟨m7, e7, _⟩ := DataW.trod_bool Tryz.underlying4 g5
  have f7 : a7 = Value.bool m7 := (List.cons.inj (show [a7] = [Value.bool m7] from e7)).1
  have g6 : DataW.trod enc Tryz.prog w base spare held n 4 (([a0, a1, a2, a3, a4, a5, a6, a7, a8].drop 8).take (Tryz.prog.cellsOf 4)) = some y6 := hf 6 _ rfl
  rw [c4] at g6
  obtain ⟨m8, e8, _⟩ := DataW.trod_bool Tryz.underlying4 g6
  have f8 : a8 = Value.bool m8 := (List.cons.inj (show [a8] = [Value.bool m8] from e8)).1
  subst f0; subst f1; subst f2; subst f3; subst f4; subst f5; subst f6; subst f7; subst f8
  exact ⟨⟨m0, m1, m2, m3, m4, m5, m6, m7, m8⟩, rfl, trivial⟩
set_option maxRecDepth 100000 in
theorem reads_rope : Reads Tryz.prog KRR QAny 42 := by
 intro H enc w base spare held fuel cs x h
 obtain ⟨xs, n, _, rfl, hl, hlen, hf⟩ := DataW.trod_struct Tryz.underlying42 h
 rw [c42] at hl
 match cs, hl, xs, hlen with
 | [a0, a1, a2], _, [y0, y1, y2], _ =>
  have g0 : DataW.trod enc Tryz.prog w base spare held n 3 (([a0, a1, a2].drop 0).take (Tryz.prog.cellsOf 3)) = some y0 := hf 0 _ rfl
  rw [c3] at g0
  obtain ⟨m0, e0, _, w0⟩ := DataW.trod_int (k := .i64) Tryz.underlying3 g0
  have f0 : a0 = Value.int .i64 m0 := (List.cons.inj (show [a0] = [Value.int .i64 m0] from e0)).1
  have g1 : DataW.trod enc Tryz.prog w base spare held n 3 (([a0, a1, a2].drop 1).take (Tryz.prog.cellsOf 3)) = some y1 := hf 1 _ rfl
  rw [c3] at g1
  obtain ⟨m1, e1, _, w1⟩ := DataW.trod_int (k := .i64) Tryz.underlying3 g1
  have f1 : a1 = Value.int .i64 m1 := (List.cons.inj (show [a1] = [Value.int .i64 m1] from e1)).1
  have g2 : DataW.trod enc Tryz.prog w base spare held n 3 (([a0, a1, a2].drop 2).take (Tryz.prog.cellsOf 3)) = some y2 := hf 2 _ rfl
  rw [c3] at g2
  obtain ⟨m2, e2, _, w2⟩ := DataW.trod_int (k := .i64) Tryz.underlying3 g2
  have f2 : a2 = Value.int .i64 m2 := (List.cons.inj (show [a2] = [Value.int .i64 m2] from e2)).1
  subst f0; subst f1; subst f2
  exact ⟨⟨m0, m1, m2⟩, rfl, trivial⟩
theorem agg_of_cells4 {v a b c d : Value} (hh : v.cells.toList = [a, b, c, d]) : v = .agg #[a, b, c, d] := by
 cases v with
 | agg cs =>
  have hh : cs.toList = [a, b, c, d] := hh
  rw [show cs = #[a, b, c, d] from Array.toList_inj.1 hh]
 | _ => exact absurd (congrArg List.length hh) (by simp [Value.cells])
set_option maxRecDepth 100000 in
theorem open_scene {H : Type} {enc : TypeId × Value → H} {w : World} {base : Nat} {spare : Nat → Bool} {held : Bool} {v : Value} {d : DataW H} {p : List MemPlace} (h : ∃ fuel, DataW.trod enc Tryz.prog w base spare held fuel 27 v.cells.toList = some (d, p)) :
  ∃ (s t : Value) (gx gy : Int) (bs : List KB) (rs : List KR), v = .agg #[s, t, Ix gx, Ix gy] ∧ Sl KBR (ph w) s bs ∧ Sl KRR (ph w) t rs ∧ (-9223372036854775808 ≤ gx ∧ gx ≤ 9223372036854775807) ∧ (-9223372036854775808 ≤ gy ∧ gy ≤ 9223372036854775807) := by
 obtain ⟨fuel, hh⟩ := h
 obtain ⟨xs, n, _, _, hl, hlen, hf⟩ := DataW.trod_struct Tryz.underlying27 hh
 rw [c27] at hl
 generalize hcs : v.cells.toList = cs at *
 match cs, hl, xs, hlen with
 | [a0, a1, a2, a3], _, [y0, y1, y2], _ =>
  have g0 : DataW.trod enc Tryz.prog w base spare held n 22 (([a0, a1, a2, a3].drop 0).take (Tryz.prog.cellsOf 22)) = some y0 := hf 0 _ rfl
  rw [c22] at g0
  have g1 : DataW.trod enc Tryz.prog w base spare held n 23 (([a0, a1, a2, a3].drop 1).take (Tryz.prog.cellsOf 23)) = some y1 := hf 1 _ rfl
  rw [c23] at g1
  have g2 : DataW.trod enc Tryz.prog w base spare held n 25 (([a0, a1, a2, a3].drop 2).take (Tryz.prog.cellsOf 25)) = some y2 := hf 2 _ rfl
  rw [c25] at g2
  obtain ⟨gx, gy, f2, f3, w2, w3⟩ := trod_vec (show DataW.trod enc Tryz.prog w base spare held n 25 [a2, a3] = some y2 from g2)
  obtain ⟨bs, ⟨s, hs, hs1⟩, _⟩ := reads_slice Tryz.underlying22 c33 reads_body _ _ _ _ _ _ _ _ _ g0
  obtain ⟨rs, ⟨t, ht, ht1⟩, _⟩ := reads_slice Tryz.underlying23 c42 reads_rope _ _ _ _ _ _ _ _ _ g1
  have e0 : a0 = s := (List.cons.inj (show [a0] = [s] from hs)).1
  have e1 : a1 = t := (List.cons.inj (show [a1] = [t] from ht)).1
  subst e0; subst e1; subst f2; subst f3
  exact ⟨_, _, _, _, bs, rs, agg_of_cells4 hcs, hs1, ht1, w2, w3⟩
theorem reads_i64 : Reads Tryz.prog IntF.R QAny 3 := reads_int (k := .i64) Tryz.underlying3 (fun n _ => ⟨n, rfl⟩)
theorem open_ints {H : Type} {enc : TypeId × Value → H} {w : World} {base : Nat} {spare : Nat → Bool} {held : Bool} {a : Option Addr} {n c : Nat} {d : DataW H} {p : List MemPlace}
  (h : ∃ fuel, DataW.trod enc Tryz.prog w base spare held fuel 28 (Value.slice a n c).cells.toList = some (d, p)) : ∃ z, Sl IntF.R (ph w) (.slice a n c) z := by
 obtain ⟨fuel, hf⟩ := h
 obtain ⟨ys, ⟨v, hv, hs⟩, _⟩ := reads_slice Tryz.underlying28 c3 reads_i64 _ _ _ _ _ _ _ _ _ hf
 have e : Value.slice a n c = v := (List.cons.inj (show [Value.slice a n c] = [v] from hv)).1
 subst e
 exact ⟨ys, hs⟩
end Go.Proofs
