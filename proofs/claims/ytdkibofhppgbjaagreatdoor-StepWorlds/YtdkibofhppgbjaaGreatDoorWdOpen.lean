/-
  Own work; plain Lean (StOpen, StOpenF, StOpenS, WdOpen).
-/
import Derived.Test.YtdkibofhppgbjaaGreatDoorSlOpen
import Derived.Test.YtdkibofhppgbjaaGreatDoorStBase
import Derived.Test.YtdkibofhppgbjaaGreatDoorProg
import Derived.SizedLaws
import Derived.Test.YtdkibofhppgbjaaGreatDoorStWorld
import Derived.Test.YtdkibofhppgbjaaGreatDoorSlFlat
namespace Go.Proofs
open Go Go.Sl Go.Stp
open Go.ChangeShapes Go.ChangeAt Go.RowKit
theorem c5 : Tryz.prog.cellsOf 5 = 1 := by kernel_rfl
end Go.Proofs

namespace Go.Proofs
open Go Go.Sl Go.Stp
open Go.ChangeShapes Go.ChangeAt Go.RowKit
theorem c4 : Tryz.prog.cellsOf 4 = 1 := by kernel_rfl
end Go.Proofs

namespace Go.Proofs
open Go Go.Sl Go.Stp
open Go.ChangeShapes Go.ChangeAt Go.RowKit
theorem c3 : Tryz.prog.cellsOf 3 = 1 := by kernel_rfl
theorem c25 : Tryz.prog.cellsOf 28 = 2 := by kernel_rfl
theorem c31 : Tryz.prog.cellsOf 52 = 9 := by kernel_rfl
theorem c35 : Tryz.prog.cellsOf 78 = 3 := by kernel_rfl
theorem c22 : Tryz.prog.cellsOf 25 = 1 := by kernel_rfl
theorem c23 : Tryz.prog.cellsOf 26 = 1 := by kernel_rfl
theorem c27 : Tryz.prog.cellsOf 30 = 4 := by kernel_rfl
theorem i64_bd {n : Int} (h : (Lit.int .i64 n).wf = true) : -9223372036854775808 ≤ n ∧ n ≤ 9223372036854775807 := by
  have hb : IntKind.i64.min ≤ n ∧ n ≤ IntKind.i64.max := by simpa only [Lit.wf, Bool.and_eq_true, decide_eq_true_eq] using h
  exact hb
set_option maxRecDepth 100000 in
theorem trod_vec {H : Type} {enc : TypeId × Value → H} {w : World} {base : Nat} {spare : Nat → Bool} {held : Bool} {fuel : Nat} {a b : Value} {x : DataW H × List MemPlace} (h : DataW.trod enc Tryz.prog w base spare held fuel 28 [a, b] = some x) :
    ∃ m n : Int, a = Ix m ∧ b = Ix n ∧ (-9223372036854775808 ≤ m ∧ m ≤ 9223372036854775807) ∧ (-9223372036854775808 ≤ n ∧ n ≤ 9223372036854775807) := by
  obtain ⟨xs, n, _, rfl, hl, hlen, hf⟩ := DataW.trod_struct Tryz.underlying28 h
  match xs, hlen with
  | [y0, y1], _ =>
    have g0 : DataW.trod enc Tryz.prog w base spare held n 3 (([a, b].drop 0).take (Tryz.prog.cellsOf 3)) = some y0 := hf 0 _ rfl
    rw [c3] at g0
    have g1 : DataW.trod enc Tryz.prog w base spare held n 3 (([a, b].drop 1).take (Tryz.prog.cellsOf 3)) = some y1 := hf 1 _ rfl
    rw [c3] at g1
    obtain ⟨m0, e0, _, w0⟩ := DataW.trod_int (k := .i64) Tryz.underlying3 g0
    obtain ⟨m1, e1, _, w1⟩ := DataW.trod_int (k := .i64) Tryz.underlying3 g1
    exact ⟨m0, m1, (List.cons.inj (show [a] = [Value.int .i64 m0] from e0)).1, (List.cons.inj (show [b] = [Value.int .i64 m1] from e1)).1, i64_bd w0, i64_bd w1⟩
set_option maxRecDepth 100000 in
theorem reads_body : Reads Tryz.prog KBR QAny 52 := by
  intro H enc w base spare held fuel cs x h
  obtain ⟨xs, n, _, rfl, hl, hlen, hf⟩ := DataW.trod_struct Tryz.underlying52 h
  rw [c31] at hl
  match cs, hl, xs, hlen with
  | [a0, a1, a2, a3, a4, a5, a6, a7, a8], _, [y0, y1, y2, y3, y4, y5, y6], _ =>
    have g0 : DataW.trod enc Tryz.prog w base spare held n 3 (([a0, a1, a2, a3, a4, a5, a6, a7, a8].drop 0).take (Tryz.prog.cellsOf 3)) = some y0 := hf 0 _ rfl
    rw [c3] at g0
    obtain ⟨m0, e0, _, w0⟩ := DataW.trod_int (k := .i64) Tryz.underlying3 g0
    have f0 : a0 = Value.int .i64 m0 := (List.cons.inj (show [a0] = [Value.int .i64 m0] from e0)).1
    have g1 : DataW.trod enc Tryz.prog w base spare held n 28 (([a0, a1, a2, a3, a4, a5, a6, a7, a8].drop 1).take (Tryz.prog.cellsOf 28)) = some y1 := hf 1 _ rfl
    rw [c25] at g1
    obtain ⟨m1, m2, f1, f2, _, _⟩ := trod_vec (show DataW.trod enc Tryz.prog w base spare held n 28 [a1, a2] = some y1 from g1)
    have g2 : DataW.trod enc Tryz.prog w base spare held n 28 (([a0, a1, a2, a3, a4, a5, a6, a7, a8].drop 3).take (Tryz.prog.cellsOf 28)) = some y2 := hf 2 _ rfl
    rw [c25] at g2
    obtain ⟨m3, m4, f3, f4, _, _⟩ := trod_vec (show DataW.trod enc Tryz.prog w base spare held n 28 [a3, a4] = some y2 from g2)
    have g3 : DataW.trod enc Tryz.prog w base spare held n 3 (([a0, a1, a2, a3, a4, a5, a6, a7, a8].drop 5).take (Tryz.prog.cellsOf 3)) = some y3 := hf 3 _ rfl
    rw [c3] at g3
    obtain ⟨m5, e5, _, w5⟩ := DataW.trod_int (k := .i64) Tryz.underlying3 g3
    have f5 : a5 = Value.int .i64 m5 := (List.cons.inj (show [a5] = [Value.int .i64 m5] from e5)).1
    have g4 : DataW.trod enc Tryz.prog w base spare held n 3 (([a0, a1, a2, a3, a4, a5, a6, a7, a8].drop 6).take (Tryz.prog.cellsOf 3)) = some y4 := hf 4 _ rfl
    rw [c3] at g4
    obtain ⟨m6, e6, _, w6⟩ := DataW.trod_int (k := .i64) Tryz.underlying3 g4
    have f6 : a6 = Value.int .i64 m6 := (List.cons.inj (show [a6] = [Value.int .i64 m6] from e6)).1
    have g5 : DataW.trod enc Tryz.prog w base spare held n 4 (([a0, a1, a2, a3, a4, a5, a6, a7, a8].drop 7).take (Tryz.prog.cellsOf 4)) = some y5 := hf 5 _ rfl
    rw [c4] at g5
    obtain ⟨m7, e7, _⟩ := DataW.trod_bool Tryz.underlying4 g5
    have f7 : a7 = Value.bool m7 := (List.cons.inj (show [a7] = [Value.bool m7] from e7)).1
    have g6 : DataW.trod enc Tryz.prog w base spare held n 4 (([a0, a1, a2, a3, a4, a5, a6, a7, a8].drop 8).take (Tryz.prog.cellsOf 4)) = some y6 := hf 6 _ rfl
    rw [c4] at g6
    obtain ⟨m8, e8, _⟩ := DataW.trod_bool Tryz.underlying4 g6
    have f8 : a8 = Value.bool m8 := (List.cons.inj (show [a8] = [Value.bool m8] from e8)).1
    subst f0; subst f1; subst f2; subst f3; subst f4; subst f5; subst f6; subst f7; subst f8
    exact ⟨⟨m0, m1, m2, m3, m4, m5, m6, m7, m8⟩, rfl, trivial⟩
set_option maxRecDepth 100000 in
theorem reads_rope : Reads Tryz.prog KRR QAny 78 := by
  intro H enc w base spare held fuel cs x h
  obtain ⟨xs, n, _, rfl, hl, hlen, hf⟩ := DataW.trod_struct Tryz.underlying78 h
  rw [c35] at hl
  match cs, hl, xs, hlen with
  | [a0, a1, a2], _, [y0, y1, y2], _ =>
    have g0 : DataW.trod enc Tryz.prog w base spare held n 3 (([a0, a1, a2].drop 0).take (Tryz.prog.cellsOf 3)) = some y0 := hf 0 _ rfl
    rw [c3] at g0
    obtain ⟨m0, e0, _, w0⟩ := DataW.trod_int (k := .i64) Tryz.underlying3 g0
    have f0 : a0 = Value.int .i64 m0 := (List.cons.inj (show [a0] = [Value.int .i64 m0] from e0)).1
    have g1 : DataW.trod enc Tryz.prog w base spare held n 3 (([a0, a1, a2].drop 1).take (Tryz.prog.cellsOf 3)) = some y1 := hf 1 _ rfl
    rw [c3] at g1
    obtain ⟨m1, e1, _, w1⟩ := DataW.trod_int (k := .i64) Tryz.underlying3 g1
    have f1 : a1 = Value.int .i64 m1 := (List.cons.inj (show [a1] = [Value.int .i64 m1] from e1)).1
    have g2 : DataW.trod enc Tryz.prog w base spare held n 3 (([a0, a1, a2].drop 2).take (Tryz.prog.cellsOf 3)) = some y2 := hf 2 _ rfl
    rw [c3] at g2
    obtain ⟨m2, e2, _, w2⟩ := DataW.trod_int (k := .i64) Tryz.underlying3 g2
    have f2 : a2 = Value.int .i64 m2 := (List.cons.inj (show [a2] = [Value.int .i64 m2] from e2)).1
    subst f0; subst f1; subst f2
    exact ⟨⟨m0, m1, m2⟩, rfl, trivial⟩
theorem agg_of_cells4 {v a b c d : Value} (hh : v.cells.toList = [a, b, c, d]) : v = .agg #[a, b, c, d] := by
  cases v with
  | agg cs =>
    have hh : cs.toList = [a, b, c, d] := hh
    rw [show cs = #[a, b, c, d] from Array.toList_inj.1 hh]
  | _ => exact absurd (congrArg List.length hh) (by simp [Value.cells])
set_option maxRecDepth 100000 in
theorem open_scene {H : Type} {enc : TypeId × Value → H} {w : World} {base : Nat} {spare : Nat → Bool} {held : Bool} {v : Value} {d : DataW H} {p : List MemPlace} (h : ∃ fuel, DataW.trod enc Tryz.prog w base spare held fuel 30 v.cells.toList = some (d, p)) :
    ∃ (s t : Value) (gx gy : Int) (bs : List KB) (rs : List KR), v = .agg #[s, t, Ix gx, Ix gy] ∧ Sl KBR (ph w) s bs ∧ Sl KRR (ph w) t rs ∧ (-9223372036854775808 ≤ gx ∧ gx ≤ 9223372036854775807) ∧ (-9223372036854775808 ≤ gy ∧ gy ≤ 9223372036854775807) := by
  obtain ⟨fuel, hh⟩ := h
  obtain ⟨xs, n, _, _, hl, hlen, hf⟩ := DataW.trod_struct Tryz.underlying30 hh
  rw [c27] at hl
  generalize hcs : v.cells.toList = cs at *
  match cs, hl, xs, hlen with
  | [a0, a1, a2, a3], _, [y0, y1, y2], _ =>
    have g0 : DataW.trod enc Tryz.prog w base spare held n 25 (([a0, a1, a2, a3].drop 0).take (Tryz.prog.cellsOf 25)) = some y0 := hf 0 _ rfl
    rw [c22] at g0
    have g1 : DataW.trod enc Tryz.prog w base spare held n 26 (([a0, a1, a2, a3].drop 1).take (Tryz.prog.cellsOf 26)) = some y1 := hf 1 _ rfl
    rw [c23] at g1
    have g2 : DataW.trod enc Tryz.prog w base spare held n 28 (([a0, a1, a2, a3].drop 2).take (Tryz.prog.cellsOf 28)) = some y2 := hf 2 _ rfl
    rw [c25] at g2
    obtain ⟨gx, gy, f2, f3, w2, w3⟩ := trod_vec (show DataW.trod enc Tryz.prog w base spare held n 28 [a2, a3] = some y2 from g2)
    obtain ⟨bs, ⟨s, hs, hs1⟩, _⟩ := reads_slice Tryz.underlying25 c31 reads_body _ _ _ _ _ _ _ _ _ g0
    obtain ⟨rs, ⟨t, ht, ht1⟩, _⟩ := reads_slice Tryz.underlying26 c35 reads_rope _ _ _ _ _ _ _ _ _ g1
    have e0 : a0 = s := (List.cons.inj (show [a0] = [s] from hs)).1
    have e1 : a1 = t := (List.cons.inj (show [a1] = [t] from ht)).1
    subst e0; subst e1; subst f2; subst f3
    exact ⟨_, _, _, _, bs, rs, agg_of_cells4 hcs, hs1, ht1, w2, w3⟩
end Go.Proofs

namespace Go.Proofs
open Go Go.Sl
open Go.ChangeShapes Go.ChangeAt Go.RowKit

theorem i64_anyW (n : Int) (_ : (Lit.int .i64 n).wf = true) : ∃ y : Int, [Value.int .i64 n] = [Ix y] := ⟨n, rfl⟩
theorem u8_anyW (n : Int) (h : (Lit.int .u8 n).wf = true) : ∃ y : UInt8, Value.int .u8 n = Bx y := by
  have hb : IntKind.u8.min ≤ n ∧ n ≤ IntKind.u8.max := by simpa only [Lit.wf, Bool.and_eq_true, decide_eq_true_eq] using h
  have h1 : (0 : Int) ≤ n := hb.1
  have h2 : n ≤ 255 := hb.2
  refine ⟨UInt8.ofNat n.toNat, ?_⟩
  have h3 : (UInt8.ofNat n.toNat).toNat = n.toNat := by simp; omega
  show _ = Value.int .u8 ((UInt8.ofNat n.toNat).toNat : Int)
  rw [h3, Int.toNat_of_nonneg h1]
theorem reads_i64W : Reads Tryz.prog IntR QAny 3 := reads_int (k := .i64) Tryz.underlying3 i64_anyW
theorem c3W : Tryz.prog.cellsOf 3 = 1 := by kernel_rfl
theorem c5W : Tryz.prog.cellsOf 5 = 1 := by kernel_rfl
theorem c53W : Tryz.prog.cellsOf 118 = 4 := by kernel_rfl
theorem c55W : Tryz.prog.cellsOf 120 = 5 := by kernel_rfl
theorem c31W : Tryz.prog.cellsOf 57 = 1 := by kernel_rfl
theorem c22W : Tryz.prog.cellsOf 22 = 1 := by kernel_rfl
theorem c33W : Tryz.prog.cellsOf 59 = 2 := by kernel_rfl
theorem c24W : Tryz.prog.cellsOf 24 = 2 := by kernel_rfl

theorem fourW {cs : List Value} (h : cs.length = 4) (hi : ∀ i, i < 4 → ∃ y : Int, (cs.drop i).take 1 = [Ix y]) : ∃ a b c d : Int, cs = [Ix a, Ix b, Ix c, Ix d] := by
  match cs, h with
  | [p, q, r, s], _ =>
    obtain ⟨a, ha⟩ := hi 0 (by omega)
    obtain ⟨b, hb⟩ := hi 1 (by omega)
    obtain ⟨c, hc⟩ := hi 2 (by omega)
    obtain ⟨d, hd⟩ := hi 3 (by omega)
    simp at ha hb hc hd
    subst ha; subst hb; subst hc; subst hd
    exact ⟨a, b, c, d, rfl⟩

theorem reads_compW : Reads Tryz.prog CompR QAny 120 := by
  intro H enc w base spare held fuel cs x h
  obtain ⟨y0, y1, n, _, hl, h0, h1⟩ := trod_struct2 Tryz.underlying120 h
  simp only [c5W, c53W, c55W] at hl h0 h1
  match cs, hl with
  | [k, p, q, r, s], _ =>
    obtain ⟨m, hm, _, hwf⟩ := DataW.trod_int (k := .u8) Tryz.underlying5 h0
    obtain ⟨xs, f', _, _, hlen, hxl, hx⟩ := DataW.trod_array Tryz.underlying118 h1
    obtain ⟨kk, hk⟩ := u8_anyW m hwf
    have hel : ∀ i, i < 4 → ∃ y : Int, ([p, q, r, s].drop i).take 1 = [Ix y] := by
      intro i hi
      have h2 := hx i hi
      rw [c3W, Nat.mul_one] at h2
      have hxi : xs[i]? = some (xs[i]'(by omega)) := List.getElem?_eq_getElem _
      rw [hxi] at h2
      obtain ⟨z, hz, _⟩ := DataW.trod_int (k := .i64) Tryz.underlying3 h2
      exact ⟨z, hz⟩
    obtain ⟨a, b, c, d, he⟩ := fourW (cs := [p, q, r, s]) rfl hel
    simp at hm he
    obtain ⟨rfl, rfl, rfl, rfl⟩ := he
    subst hm
    exact ⟨⟨kk, a, b, c, d⟩, by show [Value.int .u8 m, _, _, _, _] = _; rw [hk]; rfl, trivial⟩

/-- a datum of an entity tells how many components it has -/
def QEntW (H : Type) (d : DataW H) (e : KEnt) : Prop := ∃ d0 d1, d = .agg [d0, d1] ∧ QSl QAny H d1 e.comps
def QWorldW (H : Type) (d : DataW H) (x : KWorld) : Prop := ∃ d0 d1, d = .agg [d0, d1] ∧ QSl QEntW H d1 x.ents
theorem reads_entW : Reads Tryz.prog EntR QEntW 59 := by
  intro H enc w base spare held fuel cs x h
  obtain ⟨y0, y1, n, hx, hl, h0, h1⟩ := trod_struct2 Tryz.underlying59 h
  simp only [c3W, c31W, c33W] at hl h0 h1
  match cs, hl with
  | [p, q], _ =>
    obtain ⟨a, ha, _⟩ := reads_i64W _ _ _ _ _ _ _ _ _ h0
    obtain ⟨ys, ⟨v, hv, hs⟩, hq⟩ := reads_slice Tryz.underlying57 c55W reads_compW _ _ _ _ _ _ _ _ _ h1
    have ha2 : p = Ix a := (List.cons.inj (show [p] = [Ix a] from ha)).1
    have hv2 : q = v := (List.cons.inj (show [q] = [v] from hv)).1
    subst ha2; subst hv2
    exact ⟨⟨a, ys⟩, ⟨q, rfl, hs⟩, by subst hx; exact ⟨_, _, rfl, hq⟩⟩
theorem reads_worldW {H : Type} {enc : TypeId × Value → H} {w : World} {base : Nat} {spare : Nat → Bool} {held : Bool} {fuel : Nat} {cs : List Value} {x : DataW H × List MemPlace}
    (h : DataW.trod enc Tryz.prog w base spare held fuel 24 cs = some x) : ∃ (y : KWorld) (v : Value), cs = [Ix y.tick, v] ∧ Sl EntR (ph w) v y.ents ∧ QWorldW H x.1 y := by
  obtain ⟨y0, y1, n, hx, hl, h0, h1⟩ := trod_struct2 Tryz.underlying24 h
  simp only [c3W, c22W, c24W] at hl h0 h1
  match cs, hl with
  | [p, q], _ =>
    obtain ⟨a, ha, _⟩ := reads_i64W _ _ _ _ _ _ _ _ _ h0
    obtain ⟨ys, ⟨v, hv, hs⟩, hq⟩ := reads_slice Tryz.underlying22 c33W reads_entW _ _ _ _ _ _ _ _ _ h1
    have ha2 : p = Ix a := (List.cons.inj (show [p] = [Ix a] from ha)).1
    have hv2 : q = v := (List.cons.inj (show [q] = [v] from hv)).1
    subst ha2; subst hv2
    exact ⟨⟨a, ys⟩, q, rfl, hs, by subst hx; exact ⟨_, _, rfl, hq⟩⟩
theorem open_world {H : Type} {enc : TypeId × Value → H} {w : World} {base : Nat} {spare : Nat → Bool} {held : Bool} {v : Value} {d : DataW H} {p : List MemPlace} (h : ∃ fuel, DataW.trod enc Tryz.prog w base spare held fuel 24 v.cells.toList = some (d, p)) :
    ∃ (t : Int) (s : Value) (es : List KEnt), v = .agg #[Ix t, s] ∧ Sl EntR (ph w) s es := by
  obtain ⟨fuel, hh⟩ := h
  obtain ⟨y, s, h1, h2, _⟩ := reads_worldW hh
  refine ⟨y.tick, s, y.ents, ?_, h2⟩
  cases v with
  | agg cs =>
    have h1 : cs.toList = [Ix y.tick, s] := h1
    rw [show cs = #[Ix y.tick, s] from Array.toList_inj.1 h1]
  | _ => exact absurd (congrArg List.length h1) (by simp [Value.cells])
end Go.Proofs
