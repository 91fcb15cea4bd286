/-
  Worlds that came in as arguments. Own work; plain Lean.
-/
import Derived.Test.YtbfidhbcojbklaaGreatSlOpen
import Derived.Test.YtbfidhbcojbklaaGreatDgBase
import Derived.Test.YtbfidhbcojbklaaGreatProg
namespace Go.Proofs
open Go Go.Sl
open Go.ChangeShapes Go.ChangeAt Go.RowKit

theorem i64_any (n : Int) (_ : (Lit.int .i64 n).wf = true) : ∃ y : Int, [Value.int .i64 n] = [Ix y] := ⟨n, rfl⟩
theorem u8_any (n : Int) (h : (Lit.int .u8 n).wf = true) : ∃ y : UInt8, Value.int .u8 n = Bx y := by
  have hb : IntKind.u8.min ≤ n ∧ n ≤ IntKind.u8.max := by simpa only [Lit.wf, Bool.and_eq_true, decide_eq_true_eq] using h
  have h1 : (0 : Int) ≤ n := hb.1
  have h2 : n ≤ 255 := hb.2
  refine ⟨UInt8.ofNat n.toNat, ?_⟩
  have h3 : (UInt8.ofNat n.toNat).toNat = n.toNat := by simp; omega
  show _ = Value.int .u8 ((UInt8.ofNat n.toNat).toNat : Int)
  rw [h3, Int.toNat_of_nonneg h1]
theorem reads_i64 : Reads Tryz.prog IntR QAny 3 := reads_int (k := .i64) Tryz.underlying3 i64_any
theorem c3 : Tryz.prog.cellsOf 3 = 1 := by kernel_rfl
theorem c5 : Tryz.prog.cellsOf 5 = 1 := by kernel_rfl
theorem c53 : Tryz.prog.cellsOf 36 = 4 := by kernel_rfl
theorem c55 : Tryz.prog.cellsOf 38 = 5 := by kernel_rfl
theorem c31 : Tryz.prog.cellsOf 33 = 1 := by kernel_rfl
theorem c22 : Tryz.prog.cellsOf 22 = 1 := by kernel_rfl
theorem c33 : Tryz.prog.cellsOf 35 = 2 := by kernel_rfl
theorem c24 : Tryz.prog.cellsOf 24 = 2 := by kernel_rfl

theorem four {cs : List Value} (h : cs.length = 4) (hi : ∀ i, i < 4 → ∃ y : Int, (cs.drop i).take 1 = [Ix y]) : ∃ a b c d : Int, cs = [Ix a, Ix b, Ix c, Ix d] := by
  match cs, h with
  | [p, q, r, s], _ =>
    obtain ⟨a, ha⟩ := hi 0 (by omega)
    obtain ⟨b, hb⟩ := hi 1 (by omega)
    obtain ⟨c, hc⟩ := hi 2 (by omega)
    obtain ⟨d, hd⟩ := hi 3 (by omega)
    simp at ha hb hc hd
    subst ha; subst hb; subst hc; subst hd
    exact ⟨a, b, c, d, rfl⟩

theorem reads_comp : Reads Tryz.prog CompR QAny 38 := by
  intro H enc w base spare held fuel cs x h
  obtain ⟨y0, y1, n, _, hl, h0, h1⟩ := trod_struct2 Tryz.underlying38 h
  simp only [c5, c53, c55] at hl h0 h1
  match cs, hl with
  | [k, p, q, r, s], _ =>
    obtain ⟨m, hm, _, hwf⟩ := DataW.trod_int (k := .u8) Tryz.underlying5 h0
    obtain ⟨xs, f', _, _, hlen, hxl, hx⟩ := DataW.trod_array Tryz.underlying36 h1
    obtain ⟨kk, hk⟩ := u8_any m hwf
    have hel : ∀ i, i < 4 → ∃ y : Int, ([p, q, r, s].drop i).take 1 = [Ix y] := by
      intro i hi
      have h2 := hx i hi
      rw [c3, Nat.mul_one] at h2
      have hxi : xs[i]? = some (xs[i]'(by omega)) := List.getElem?_eq_getElem _
      rw [hxi] at h2
      obtain ⟨z, hz, _⟩ := DataW.trod_int (k := .i64) Tryz.underlying3 h2
      exact ⟨z, hz⟩
    obtain ⟨a, b, c, d, he⟩ := four (cs := [p, q, r, s]) rfl hel
    simp at hm he
    obtain ⟨rfl, rfl, rfl, rfl⟩ := he
    subst hm
    exact ⟨⟨kk, a, b, c, d⟩, by show [Value.int .u8 m, _, _, _, _] = _; rw [hk]; rfl, trivial⟩

/-- a datum of an entity tells how many components it has -/
def QEnt (H : Type) (d : DataW H) (e : KEnt) : Prop := ∃ d0 d1, d = .agg [d0, d1] ∧ QSl QAny H d1 e.comps
def QWorld (H : Type) (d : DataW H) (x : KWorld) : Prop := ∃ d0 d1, d = .agg [d0, d1] ∧ QSl QEnt H d1 x.ents
theorem reads_ent : Reads Tryz.prog EntR QEnt 35 := by
  intro H enc w base spare held fuel cs x h
  obtain ⟨y0, y1, n, hx, hl, h0, h1⟩ := trod_struct2 Tryz.underlying35 h
  simp only [c3, c31, c33] at hl h0 h1
  match cs, hl with
  | [p, q], _ =>
    obtain ⟨a, ha, _⟩ := reads_i64 _ _ _ _ _ _ _ _ _ h0
    obtain ⟨ys, ⟨v, hv, hs⟩, hq⟩ := reads_slice Tryz.underlying33 c55 reads_comp _ _ _ _ _ _ _ _ _ h1
    have ha2 : p = Ix a := (List.cons.inj (show [p] = [Ix a] from ha)).1
    have hv2 : q = v := (List.cons.inj (show [q] = [v] from hv)).1
    subst ha2; subst hv2
    exact ⟨⟨a, ys⟩, ⟨q, rfl, hs⟩, by subst hx; exact ⟨_, _, rfl, hq⟩⟩
theorem reads_world {H : Type} {enc : TypeId × Value → H} {w : World} {base : Nat} {spare : Nat → Bool} {held : Bool} {fuel : Nat} {cs : List Value} {x : DataW H × List MemPlace}
    (h : DataW.trod enc Tryz.prog w base spare held fuel 24 cs = some x) : ∃ (y : KWorld) (v : Value), cs = [Ix y.tick, v] ∧ Sl EntR (ph w) v y.ents ∧ QWorld H x.1 y := by
  obtain ⟨y0, y1, n, hx, hl, h0, h1⟩ := trod_struct2 Tryz.underlying24 h
  simp only [c3, c22, c24] at hl h0 h1
  match cs, hl with
  | [p, q], _ =>
    obtain ⟨a, ha, _⟩ := reads_i64 _ _ _ _ _ _ _ _ _ h0
    obtain ⟨ys, ⟨v, hv, hs⟩, hq⟩ := reads_slice Tryz.underlying22 c33 reads_ent _ _ _ _ _ _ _ _ _ h1
    have ha2 : p = Ix a := (List.cons.inj (show [p] = [Ix a] from ha)).1
    have hv2 : q = v := (List.cons.inj (show [q] = [v] from hv)).1
    subst ha2; subst hv2
    exact ⟨⟨a, ys⟩, q, rfl, hs, by subst hx; exact ⟨_, _, rfl, hq⟩⟩
end Go.Proofs
