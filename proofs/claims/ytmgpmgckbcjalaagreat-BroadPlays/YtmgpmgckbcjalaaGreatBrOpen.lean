/-
  Arguments that came in: bytes, forms, areas. Own work; plain Lean.
-/
import Derived.Test.YtmgpmgckbcjalaaGreatSlOpen
import Derived.Test.YtmgpmgckbcjalaaGreatBrLaw
import Derived.Test.YtmgpmgckbcjalaaGreatProg
import Derived.SizedLaws
namespace Go.Proofs
open Go Go.Sl Go.Brd
open Go.ChangeShapes Go.ChangeAt Go.RowKit
theorem u8_any {n : Int} (h : (Lit.int .u8 n).wf = true) : ∃ y : UInt8, Value.int .u8 n = Bx y := by
  have hb : IntKind.u8.min ≤ n ∧ n ≤ IntKind.u8.max := by simpa only [Lit.wf, Bool.and_eq_true, decide_eq_true_eq] using h
  have h1 : (0 : Int) ≤ n := hb.1
  have h2 : n ≤ 255 := hb.2
  refine ⟨UInt8.ofNat n.toNat, ?_⟩
  have h3 : (UInt8.ofNat n.toNat).toNat = n.toNat := by simp; omega
  show _ = Value.int .u8 ((UInt8.ofNat n.toNat).toNat : Int)
  rw [h3, Int.toNat_of_nonneg h1]
theorem i64_bd {n : Int} (h : (Lit.int .i64 n).wf = true) : -9223372036854775808 ≤ n ∧ n ≤ 9223372036854775807 := by
  have hb : IntKind.i64.min ≤ n ∧ n ≤ IntKind.i64.max := by simpa only [Lit.wf, Bool.and_eq_true, decide_eq_true_eq] using h
  exact hb
theorem c3 : Tryz.prog.cellsOf 3 = 1 := by kernel_rfl
theorem c5 : Tryz.prog.cellsOf 5 = 1 := by kernel_rfl
theorem c23 : Tryz.prog.cellsOf 30 = 2 := by kernel_rfl
theorem c25 : Tryz.prog.cellsOf 32 = 4 := by kernel_rfl
def Int64 (x : Int) : Prop := -9223372036854775808 ≤ x ∧ x ≤ 9223372036854775807
def A64 (a : KA) : Prop := Int64 a.lx ∧ Int64 a.ly ∧ Int64 a.hx ∧ Int64 a.hy
set_option maxRecDepth 100000 in
theorem trod_vec {H : Type} {enc : TypeId × Value → H} {w : World} {base : Nat} {spare : Nat → Bool} {held : Bool} {fuel : Nat} {cs : List Value} {x : DataW H × List MemPlace}
    (h : DataW.trod enc Tryz.prog w base spare held fuel 30 cs = some x) : ∃ a b : Int, cs = [Ix a, Ix b] ∧ Int64 a ∧ Int64 b := by
  obtain ⟨xs, n, _, rfl, hl, hlen, hf⟩ := DataW.trod_struct Tryz.underlying30 h
  rw [c23] at hl
  match cs, hl, xs, hlen with
  | [a0, a1], _, [y0, y1], _ =>
    have g0 : DataW.trod enc Tryz.prog w base spare held n 3 (([a0, a1].drop 0).take (Tryz.prog.cellsOf 3)) = some y0 := hf 0 _ rfl
    have g1 : DataW.trod enc Tryz.prog w base spare held n 3 (([a0, a1].drop 1).take (Tryz.prog.cellsOf 3)) = some y1 := hf 1 _ rfl
    rw [c3] at g0 g1
    obtain ⟨m0, e0, _, w0⟩ := DataW.trod_int (k := .i64) Tryz.underlying3 g0
    obtain ⟨m1, e1, _, w1⟩ := DataW.trod_int (k := .i64) Tryz.underlying3 g1
    have f0 : a0 = Value.int .i64 m0 := (List.cons.inj (show [a0] = [Value.int .i64 m0] from e0)).1
    have f1 : a1 = Value.int .i64 m1 := (List.cons.inj (show [a1] = [Value.int .i64 m1] from e1)).1
    exact ⟨m0, m1, by rw [f0, f1], i64_bd w0, i64_bd w1⟩
set_option maxRecDepth 100000 in
theorem trod_area {H : Type} {enc : TypeId × Value → H} {w : World} {base : Nat} {spare : Nat → Bool} {held : Bool} {fuel : Nat} {cs : List Value} {x : DataW H × List MemPlace}
    (h : DataW.trod enc Tryz.prog w base spare held fuel 32 cs = some x) : ∃ a : KA, cs = areaE a ∧ A64 a := by
  obtain ⟨xs, n, _, rfl, hl, hlen, hf⟩ := DataW.trod_struct Tryz.underlying32 h
  rw [c25] at hl
  match cs, hl, xs, hlen with
  | [a0, a1, a2, a3], _, [y0, y1], _ =>
    have g0 : DataW.trod enc Tryz.prog w base spare held n 30 (([a0, a1, a2, a3].drop 0).take (Tryz.prog.cellsOf 30)) = some y0 := hf 0 _ rfl
    have g1 : DataW.trod enc Tryz.prog w base spare held n 30 (([a0, a1, a2, a3].drop 2).take (Tryz.prog.cellsOf 30)) = some y1 := hf 1 _ rfl
    rw [c23] at g0 g1
    obtain ⟨p, q, e0, h1, h2⟩ := trod_vec g0
    obtain ⟨r, s, e1, h3, h4⟩ := trod_vec g1
    have e0 : [a0, a1] = [Ix p, Ix q] := e0
    have e1 : [a2, a3] = [Ix r, Ix s] := e1
    injection e0 with f0 e0; injection e0 with f1 _
    injection e1 with f2 e1; injection e1 with f3 _
    exact ⟨⟨p, q, r, s⟩, by rw [f0, f1, f2, f3], h1, h2, h3, h4⟩
end Go.Proofs
