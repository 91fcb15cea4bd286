/-
  Scripts that came in as arguments. Own work; plain Lean.
-/
import Derived.Test.YtkpdcajddpiknaaSlOpen
import Derived.Test.YtkpdcajddpiknaaJnOp
import Derived.Test.YtkpdcajddpiknaaProg
import Derived.SizedLaws
namespace Go.Proofs
open Go Go.Sl Go.Jn
open Go.ChangeShapes Go.ChangeAt Go.RowKit

theorem u8_any (n : Int) (h : (Lit.int .u8 n).wf = true) : ∃ y : UInt8, Value.int .u8 n = Bx y := by
  have hb : IntKind.u8.min ≤ n ∧ n ≤ IntKind.u8.max := by simpa only [Lit.wf, Bool.and_eq_true, decide_eq_true_eq] using h
  have h1 : (0 : Int) ≤ n := hb.1
  have h2 : n ≤ 255 := hb.2
  refine ⟨UInt8.ofNat n.toNat, ?_⟩
  have h3 : (UInt8.ofNat n.toNat).toNat = n.toNat := by simp; omega
  show _ = Value.int .u8 ((UInt8.ofNat n.toNat).toNat : Int)
  rw [h3, Int.toNat_of_nonneg h1]
theorem c5 : Try.prog.cellsOf 5 = 1 := by kernel_rfl
theorem c30 : Try.prog.cellsOf 30 = 1 := by kernel_rfl
theorem c47 : Try.prog.cellsOf 47 = 3 := by kernel_rfl
theorem reads_u8 : Reads Try.prog U8R QAny 5 := reads_int (k := .u8) Try.underlying5 (fun n hn => by
  obtain ⟨x, hx⟩ := u8_any n hn
  exact ⟨x, by rw [hx]⟩)
theorem reads_bs : Reads Try.prog BsR (QSl QAny) 30 := reads_slice Try.underlying30 c5 reads_u8
theorem trod_struct3 {H : Type} {enc : TypeId × Value → H} {P : Program} {w : World} {base : Nat} {spare : Nat → Bool} {held : Bool} {t : TypeId} {f0 f1 f2 : Field} {fuel : Nat} {cs : List Value} {x : DataW H × List MemPlace} (ht : P.underlying t = some (.struct #[f0, f1, f2])) (h : DataW.trod enc P w base spare held fuel t cs = some x) :
    ∃ y0 y1 y2 n, cs.length = P.cellsOf t ∧ DataW.trod enc P w base spare held n f0.type ((cs.drop f0.offset).take (P.cellsOf f0.type)) = some y0 ∧
      DataW.trod enc P w base spare held n f1.type ((cs.drop f1.offset).take (P.cellsOf f1.type)) = some y1 ∧ DataW.trod enc P w base spare held n f2.type ((cs.drop f2.offset).take (P.cellsOf f2.type)) = some y2 := by
  obtain ⟨xs, n, _, rfl, hl, hlen, hf⟩ := DataW.trod_struct ht h
  match xs, hlen with
  | [y0, y1, y2], _ => exact ⟨y0, y1, y2, n, hl, by simpa using hf 0 f0 rfl, by simpa using hf 1 f1 rfl, by simpa using hf 2 f2 rfl⟩
theorem reads_op : Reads Try.prog OpR QAny 47 := by
  intro H enc w base spare held fuel cs x h
  obtain ⟨y0, y1, y2, n, hl, h0, h1, h2⟩ := trod_struct3 Try.underlying47 h
  simp only [c5, c30, c47] at hl h0 h1 h2
  match cs, hl with
  | [p, q, r], _ =>
    obtain ⟨m0, hm0, _, hwf0⟩ := DataW.trod_int (k := .u8) Try.underlying5 h0
    obtain ⟨m1, hm1, _, hwf1⟩ := DataW.trod_int (k := .u8) Try.underlying5 h1
    obtain ⟨bs, ⟨v, hv, hs⟩, _⟩ := reads_bs _ _ _ _ _ _ _ _ _ h2
    obtain ⟨k0, e0⟩ := u8_any m0 hwf0
    obtain ⟨k1, e1⟩ := u8_any m1 hwf1
    have ha : p = Value.int .u8 m0 := (List.cons.inj (show [p] = [Value.int .u8 m0] from hm0)).1
    have hb : q = Value.int .u8 m1 := (List.cons.inj (show [q] = [Value.int .u8 m1] from hm1)).1
    have hc : r = v := (List.cons.inj (show [r] = [v] from hv)).1
    subst ha; subst hb; subst hc
    exact ⟨⟨k0, k1, bs⟩, ⟨r, by rw [e0, e1], hs⟩, trivial⟩
theorem open_ops {H : Type} {enc : TypeId × Value → H} {w : World} {base : Nat} {spare : Nat → Bool} {held : Bool} {a : Option Addr} {n c : Nat} {d : DataW H} {p : List MemPlace}
    (h : ∃ fuel, DataW.trod enc Try.prog w base spare held fuel 22 (Value.slice a n c).cells.toList = some (d, p)) : ∃ z, Sl OpR (ph w) (.slice a n c) z := by
  obtain ⟨fuel, hf⟩ := h
  obtain ⟨ys, ⟨v, hv, hs⟩, _⟩ := reads_slice Try.underlying22 c47 reads_op _ _ _ _ _ _ _ _ _ hf
  have e : Value.slice a n c = v := (List.cons.inj (show [Value.slice a n c] = [v] from hv)).1
  subst e
  exact ⟨ys, hs⟩
end Go.Proofs
