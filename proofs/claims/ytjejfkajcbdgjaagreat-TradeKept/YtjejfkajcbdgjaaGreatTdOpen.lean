/-
 Own work; plain Lean (SlOpen, TdOpen).
-/
import Derived.Test.YtjejfkajcbdgjaaGreatSlFam
import Derived.ProofKit
import Derived.OpenShut
import Derived.Deep.Slices
import Derived.Test.YtjejfkajcbdgjaaGreatTdHouE
import Derived.Test.YtjejfkajcbdgjaaGreatProg
import Derived.Laws.IdiomArrays
import Derived.SizedLaws
namespace Go.Sl
section
variable {H : Type} {enc : TypeId × Value → H} {P : Program} {w : World} {base : Nat} {spare : Nat → Bool} {held : Bool}

/-- whatever reads at type t lies there as a value of R's type; Q ties the datum that is read to it -/
def Reads {α : Type} (P : Program) (R : Rp α) (Q : (H : Type) → DataW H → α → Prop) (t : TypeId) : Prop :=
 ∀ (H : Type) (enc : TypeId × Value → H) (w : World) (base : Nat) (spare : Nat → Bool) (held : Bool) (fuel : Nat) (cs : List Value) (x : DataW H × List MemPlace),
  DataW.trod enc P w base spare held fuel t cs = some x → ∃ y, R.rep (ph w) cs y ∧ Q H x.1 y
def QAny {α : Type} (H : Type) (_ : DataW H) (_ : α) : Prop := True
def QSl {α : Type} (Q : (H : Type) → DataW H → α → Prop) (H : Type) (d : DataW H) (ys : List α) : Prop :=
 match d with
 | .slice elems _ => elems.length = ys.length ∧ ∀ (i : Nat) di yi, elems[i]? = some di → ys[i]? = some yi → Q H di yi
 | .nil => ys = []
 | _ => False

theorem cs_of_cells {a : Addr} {k : Nat} {cs : List Value} (h : w.cells? base a k = some cs) : Cs (ph w) a cs := by
 intro j v hj
 obtain ⟨_, hl, hc⟩ := World.cells?_some h
 have hlt := (List.getElem?_eq_some_iff.1 hj).1
 have := hc j (by omega)
 rw [hj] at this
 exact this

theorem reads_slice {α : Type} {R : Rp α} {Q : (H : Type) → DataW H → α → Prop} {t e : Nat} (ht : P.underlying t = some (.slice e)) (hc : P.cellsOf e = R.n) (hr : Reads P R Q e) : Reads P R.slice (QSl Q) t := by
 intro H enc w base spare held fuel cs x h
 rcases Go.Deep.open_slice ht h with ⟨rfl, rfl⟩ | ⟨a, len, cap, m, n, D, Pl, rfl, _, hl, hm, hmm, rfl, hel⟩
 ·exact ⟨[], ⟨_, rfl, Sl.nil _ _⟩, rfl⟩
 ·have hle : len ≤ m := by subst hmm; split <;> omega
  have hy : ∀ i, i < len → ∃ y cs', Cs (ph w) (a.add (i * R.n)) cs' ∧ R.rep (ph w) cs' y ∧ Q H (D i) y := by
   intro i hi
   obtain ⟨cs', h1, h2⟩ := hel i (by omega)
   obtain ⟨y, hy⟩ := hr H enc w base spare held n cs' _ h2
   rw [hc] at h1
   exact ⟨y, cs', cs_of_cells h1, hy.1, hy.2⟩
  have hlist : ∀ k, k ≤ len → ∃ ys : List α, ys.length = k ∧ ∀ i y, ys[i]? = some y → ∃ cs', Cs (ph w) (a.add (i * R.n)) cs' ∧ R.rep (ph w) cs' y ∧ Q H (D i) y := by
   intro k
   induction k with
   | zero => exact fun _ => ⟨[], rfl, fun i y h => by simp at h⟩
   | succ k ih =>
    intro hk
    obtain ⟨ys, hyl, hys⟩ := ih (by omega)
    obtain ⟨y, cs', h1, h2⟩ := hy k (by omega)
    refine ⟨ys ++ [y], by simp [hyl], fun i z hz => ?_⟩
    by_cases hi : i < ys.length
    ·rw [List.getElem?_append_left hi] at hz
     exact hys i z hz
    ·have hlt := (List.getElem?_eq_some_iff.1 hz).1
     have : i = ys.length := by simp at hlt; omega
     subst this
     simp at hz
     subst hz
     rw [hyl]; exact ⟨cs', h1, h2⟩
  obtain ⟨ys, hyl, hys⟩ := hlist len (Nat.le_refl _)
  subst hyl
  refine ⟨ys, ⟨_, rfl, some a, cap, rfl, hl, by unfold maxLen at hm; omega, fun j y hj => ⟨rfl, let ⟨cs', h1, h2, _⟩ := hys j y hj; ⟨cs', h1, h2⟩⟩⟩, ?_⟩
  refine ⟨by simp, fun i di yi hd hy => ?_⟩
  obtain ⟨_, _, _, hq⟩ := hys i yi hy
  have hlt := (List.getElem?_eq_some_iff.1 hy).1
  simp [hlt] at hd
  subst hd
  exact hq
end
end Go.Sl

namespace Go.Proofs
open Go Go.Sl Go.Td
open Go.ChangeShapes Go.ChangeAt Go.RowKit
theorem u8_any (n : Int) (h : (Lit.int .u8 n).wf = true) : ∃ y : UInt8, Value.int .u8 n = Bx y := by
 have hb : IntKind.u8.min ≤ n ∧ n ≤ IntKind.u8.max := by simpa only [Lit.wf, Bool.and_eq_true, decide_eq_true_eq] using h
 have h1 : (0 : Int) ≤ n := hb.1
 have h2 : n ≤ 255 := hb.2
 refine ⟨UInt8.ofNat n.toNat, ?_⟩
 have h3 : (UInt8.ofNat n.toNat).toNat = n.toNat := by simp; omega
 show _ = Value.int .u8 ((UInt8.ofNat n.toNat).toNat : Int)
 rw [h3, Int.toNat_of_nonneg h1]
theorem i64_any {n : Int} (h : (Lit.int .i64 n).wf = true) : i64R n := by
 have hb : IntKind.i64.min ≤ n ∧ n ≤ IntKind.i64.max := by simpa only [Lit.wf, Bool.and_eq_true, decide_eq_true_eq] using h
 exact ⟨hb.1, hb.2⟩
theorem c3 : Tryz.prog.cellsOf 3 = 1 := by kernel_rfl
theorem c5 : Tryz.prog.cellsOf 5 = 1 := by kernel_rfl
theorem c30 : Tryz.prog.cellsOf 30 = 1 := by kernel_rfl
theorem c32 : Tryz.prog.cellsOf 32 = 4 := by kernel_rfl
theorem c44 : Tryz.prog.cellsOf 44 = 4 := by kernel_rfl
theorem c47 : Tryz.prog.cellsOf 47 = 8 := by kernel_rfl
/-- acts, with the ranges of their numbers -/
def ActRI : Rp KAct := ⟨8, fun _ cs x => ActI x ∧ cs = actE x, fun _ _ _ ⟨_, e⟩ => by rw [e]; rfl, fun _ _ _ _ _ h => h⟩
theorem acts_split {h : PHeap} {v : Value} {xs : List KAct} (hs : Sl ActRI h v xs) : Sl ActF.R h v xs ∧ ∀ x ∈ xs, ActI x := by
 obtain ⟨a, c, e, h1, h2, h3⟩ := hs
 refine ⟨⟨a, c, e, h1, h2, fun j x hx => ?_⟩, fun x hx => ?_⟩
 ·obtain ⟨g1, cs, g2, _, g3⟩ := h3 j x hx
  exact ⟨g1, cs, g2, g3⟩
 ·obtain ⟨j, hj, e⟩ := List.getElem_of_mem hx
  obtain ⟨_, _, _, g, _⟩ := h3 j x (by rw [List.getElem?_eq_getElem hj, e])
  exact g
theorem one_eq {a b : Value} (h : [a] = [b]) : a = b := (List.cons.inj h).1
set_option maxRecDepth 100000 in
theorem reads_act : Reads Tryz.prog ActRI QAny 47 := by
 intro H enc w base spare held fuel cs x h
 obtain ⟨xs, n, _, rfl, hl, hlen, hf⟩ := DataW.trod_struct Tryz.underlying47 h
 rw [c47] at hl
 match cs, hl, xs, hlen with
 | [a0, a1, a2, a3, a4, a5, a6, a7], _, [y0, y1, y2, y3, y4], _ =>
  have g0 : DataW.trod enc Tryz.prog w base spare held n 5 (([a0, a1, a2, a3, a4, a5, a6, a7].drop 0).take (Tryz.prog.cellsOf 5)) = some y0 := hf 0 _ rfl
  have g1 : DataW.trod enc Tryz.prog w base spare held n 3 (([a0, a1, a2, a3, a4, a5, a6, a7].drop 1).take (Tryz.prog.cellsOf 3)) = some y1 := hf 1 _ rfl
  have g2 : DataW.trod enc Tryz.prog w base spare held n 3 (([a0, a1, a2, a3, a4, a5, a6, a7].drop 2).take (Tryz.prog.cellsOf 3)) = some y2 := hf 2 _ rfl
  have g3 : DataW.trod enc Tryz.prog w base spare held n 3 (([a0, a1, a2, a3, a4, a5, a6, a7].drop 3).take (Tryz.prog.cellsOf 3)) = some y3 := hf 3 _ rfl
  have g4 : DataW.trod enc Tryz.prog w base spare held n 44 (([a0, a1, a2, a3, a4, a5, a6, a7].drop 4).take (Tryz.prog.cellsOf 44)) = some y4 := hf 4 _ rfl
  rw [c5] at g0; rw [c3] at g1 g2 g3; rw [c44] at g4
  obtain ⟨z0, z1, z2, z3, m, _, q0, q1, q2, q3⟩ := trod_array4 (c0 := a4) (c1 := a5) (c2 := a6) (c3 := a7) Tryz.underlying44 c3 g4
  obtain ⟨m0, e0, _, w0⟩ := DataW.trod_int (k := .u8) Tryz.underlying5 g0
  obtain ⟨m1, e1, _, w1⟩ := DataW.trod_int (k := .i64) Tryz.underlying3 g1
  obtain ⟨m2, e2, _, w2⟩ := DataW.trod_int (k := .i64) Tryz.underlying3 g2
  obtain ⟨m3, e3, _, w3⟩ := DataW.trod_int (k := .i64) Tryz.underlying3 g3
  obtain ⟨m4, e4, _, w4⟩ := DataW.trod_int (k := .i64) Tryz.underlying3 q0
  obtain ⟨m5, e5, _, w5⟩ := DataW.trod_int (k := .i64) Tryz.underlying3 q1
  obtain ⟨m6, e6, _, w6⟩ := DataW.trod_int (k := .i64) Tryz.underlying3 q2
  obtain ⟨m7, e7, _, w7⟩ := DataW.trod_int (k := .i64) Tryz.underlying3 q3
  obtain ⟨k0, f0⟩ := u8_any m0 w0
  refine ⟨⟨k0, m1, m2, m3, ⟨m4, m5, m6, m7⟩⟩, ⟨⟨i64_any w1, i64_any w2, i64_any w3, i64_any w4, i64_any w5, i64_any w6, i64_any w7⟩, ?_⟩, trivial⟩
  show _ = [Bx k0, Ix m1, Ix m2, Ix m3, Ix m4, Ix m5, Ix m6, Ix m7]
  rw [one_eq (show [a0] = [Value.int .u8 m0] from e0), one_eq (show [a1] = [Value.int .i64 m1] from e1), one_eq (show [a2] = [Value.int .i64 m2] from e2), one_eq (show [a3] = [Value.int .i64 m3] from e3), one_eq e4, one_eq e5, one_eq e6, one_eq e7, f0]
theorem reads_acts : Reads Tryz.prog ActRI.slice (QSl QAny) 30 := reads_slice Tryz.underlying30 c47 reads_act
set_option maxRecDepth 100000 in
theorem reads_top : Reads Tryz.prog TOpR QAny 32 := by
 intro H enc w base spare held fuel cs x h
 obtain ⟨xs, n, _, rfl, hl, hlen, hf⟩ := DataW.trod_struct Tryz.underlying32 h
 rw [c32] at hl
 match cs, hl, xs, hlen with
 | [a0, a1, a2, a3], _, [y0, y1, y2, y3], _ =>
  have g0 : DataW.trod enc Tryz.prog w base spare held n 5 (([a0, a1, a2, a3].drop 0).take (Tryz.prog.cellsOf 5)) = some y0 := hf 0 _ rfl
  have g1 : DataW.trod enc Tryz.prog w base spare held n 3 (([a0, a1, a2, a3].drop 1).take (Tryz.prog.cellsOf 3)) = some y1 := hf 1 _ rfl
  have g2 : DataW.trod enc Tryz.prog w base spare held n 3 (([a0, a1, a2, a3].drop 2).take (Tryz.prog.cellsOf 3)) = some y2 := hf 2 _ rfl
  have g3 : DataW.trod enc Tryz.prog w base spare held n 30 (([a0, a1, a2, a3].drop 3).take (Tryz.prog.cellsOf 30)) = some y3 := hf 3 _ rfl
  rw [c5] at g0; rw [c3] at g1 g2; rw [c30] at g3
  obtain ⟨m0, e0, _, w0⟩ := DataW.trod_int (k := .u8) Tryz.underlying5 g0
  obtain ⟨m1, e1, _, w1⟩ := DataW.trod_int (k := .i64) Tryz.underlying3 g1
  obtain ⟨m2, e2, _, w2⟩ := DataW.trod_int (k := .i64) Tryz.underlying3 g2
  obtain ⟨al, ⟨v, hv, hs⟩, _⟩ := reads_acts _ _ _ _ _ _ _ _ _ g3
  obtain ⟨hs1, hs2⟩ := acts_split hs
  obtain ⟨k0, f0⟩ := u8_any m0 w0
  refine ⟨⟨k0, m1, m2, al⟩, ⟨⟨i64_any w1, i64_any w2, hs2⟩, v, ?_, hs1⟩, trivial⟩
  show _ = [Bx k0, Ix m1, Ix m2, v]
  rw [one_eq (show [a0] = [Value.int .u8 m0] from e0), one_eq (show [a1] = [Value.int .i64 m1] from e1), one_eq (show [a2] = [Value.int .i64 m2] from e2), one_eq (show [a3] = [v] from hv), f0]
theorem open_ops {H : Type} {enc : TypeId × Value → H} {w : World} {base : Nat} {spare : Nat → Bool} {held : Bool} {a : Option Addr} {n c : Nat} {d : DataW H} {p : List MemPlace}
  (h : ∃ fuel, DataW.trod enc Tryz.prog w base spare held fuel 22 (Value.slice a n c).cells.toList = some (d, p)) : ∃ z, Sl TOpR (ph w) (.slice a n c) z := by
 obtain ⟨fuel, hf⟩ := h
 obtain ⟨ys, ⟨v, hv, hs⟩, _⟩ := reads_slice Tryz.underlying22 c32 reads_top _ _ _ _ _ _ _ _ _ hf
 have e : Value.slice a n c = v := (List.cons.inj (show [Value.slice a n c] = [v] from hv)).1
 subst e
 exact ⟨ys, hs⟩
end Go.Proofs
