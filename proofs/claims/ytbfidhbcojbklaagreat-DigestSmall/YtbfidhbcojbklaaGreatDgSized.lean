/-
  How great a world that came in can be, and the argument opened. Own work; plain Lean.
-/
import Derived.Test.YtbfidhbcojbklaaGreatDgOpen
import Derived.SizedLaws
namespace Go.Proofs
open Go Go.Sl
open Go.ChangeShapes Go.ChangeAt Go.RowKit
theorem bytes33 : Tryz.prog.bytesOf 35 = 32 := by kernel_rfl
theorem bytes55 : Tryz.prog.bytesOf 38 = 40 := by kernel_rfl
theorem wAll_mem {H : Type} {P : Program} {e : TypeId} : ∀ {l : List (DataW H)} {i : Nat} {d : DataW H}, l[i]? = some d → ∀ n ∈ d.weights P e, n ∈ DataW.weightsAll P e l
  | [], _, _, h, _, _ => by simp at h
  | a :: l, 0, d, h, n, hn => by
    simp only [List.getElem?_cons_zero, Option.some.injEq] at h
    subst h
    simp only [DataW.weightsAll, List.mem_append]; exact .inl hn
  | a :: l, i + 1, d, h, n, hn => by
    simp only [List.getElem?_cons_succ] at h
    simp only [DataW.weightsAll, List.mem_append]; exact .inr (wAll_mem h n hn)
theorem slice_sizes {H α : Type} {P : Program} {t e : TypeId} {Q : (H : Type) → DataW H → α → Prop} {d : DataW H} {ys : List α} (hu : P.underlying t = some (.slice e)) (hq : QSl Q H d ys) (hw : ∀ n ∈ d.weights P t, n ≤ reachBytes) :
    ys.length * P.bytesOf e ≤ reachBytes ∧ ∀ (i : Nat) y, ys[i]? = some y → ∃ di : DataW H, Q H di y ∧ ∀ n ∈ di.weights P e, n ≤ reachBytes := by
  cases d with
  | slice elems spare =>
    obtain ⟨hl, hq⟩ := hq
    simp only [DataW.weights, hu, List.mem_cons, List.mem_append] at hw
    refine ⟨?_, fun i y hy => ?_⟩
    · have := hw _ (.inl rfl)
      rw [hl] at this
      exact Nat.le_trans (Nat.mul_le_mul_right _ (by omega)) this
    · have hlt := (List.getElem?_eq_some_iff.1 hy).1
      obtain ⟨di, hd⟩ : ∃ di, elems[i]? = some di := ⟨_, List.getElem?_eq_getElem (by omega)⟩
      exact ⟨di, hq i di y hd hy, fun n hn => hw n (.inr (.inl (wAll_mem hd n hn)))⟩
  | nil =>
    have hq : ys = [] := hq
    subst hq
    exact ⟨by simp, fun i y hy => by simp at hy⟩
  | _ => exact absurd hq (by simp [QSl])
theorem world_sizes {H : Type} {d : DataW H} {x : KWorld} (hq : QWorld H d x) (hw : ∀ n ∈ d.weights Tryz.prog 24, n ≤ reachBytes) :
    x.ents.length * 32 ≤ 140737488355328 ∧ ∀ (i : Nat) e, x.ents[i]? = some e → e.comps.length * 40 ≤ 140737488355328 := by
  obtain ⟨d0, d1, rfl, h1⟩ := hq
  have hw1 : ∀ n ∈ d1.weights Tryz.prog 22, n ≤ reachBytes := fun n hn => hw n (by
    simp only [DataW.weights, Tryz.underlying24]
    exact DataW.weights_mem_each (j := 1) rfl rfl n hn)
  have hr : reachBytes ≤ 140737488355328 := by decide
  obtain ⟨g1, g2⟩ := slice_sizes Tryz.underlying22 h1 hw1
  rw [bytes33] at g1
  refine ⟨by omega, fun i e he => ?_⟩
  obtain ⟨di, hq2, hw2⟩ := g2 i e he
  obtain ⟨c0, c1, rfl, h2⟩ := hq2
  have hw3 : ∀ n ∈ c1.weights Tryz.prog 33, n ≤ reachBytes := fun n hn => hw2 n (by
    simp only [DataW.weights, Tryz.underlying35]
    exact DataW.weights_mem_each (j := 1) rfl rfl n hn)
  have g3 := (slice_sizes Tryz.underlying33 h2 hw3).1
  rw [bytes55] at g3
  omega
theorem agg_of_cells {v a b : Value} (h : v.cells.toList = [a, b]) : v = .agg #[a, b] := by
  cases v with
  | agg cs =>
    have h : cs.toList = [a, b] := h
    rw [show cs = #[a, b] from Array.toList_inj.1 h]
  | _ => exact absurd (congrArg List.length h) (by simp [Value.cells])
theorem open_world {H : Type} {enc : TypeId × Value → H} {w : World} {base : Nat} {spare : Nat → Bool} {held : Bool} {v : Value} {d : DataW H} {p : List MemPlace}
    (h : ∃ fuel, DataW.trod enc Tryz.prog w base spare held fuel 24 v.cells.toList = some (d, p)) (hw : ∀ n ∈ d.weights Tryz.prog 24, n ≤ reachBytes) :
    ∃ (x : KWorld) (u : Value), v = .agg #[Ix x.tick, u] ∧ Sl EntR (ph w) u x.ents ∧ x.ents.length * 32 ≤ 140737488355328 ∧ ∀ (i : Nat) e, x.ents[i]? = some e → e.comps.length * 40 ≤ 140737488355328 := by
  obtain ⟨fuel, hf⟩ := h
  obtain ⟨x, u, hc, hs, hq⟩ := reads_world hf
  exact ⟨x, u, agg_of_cells hc, hs, world_sizes hq hw⟩
theorem wf8' {a : Int} (h : (Lit.int .u8 a).wf = true) : ∃ x : UInt8, Value.int .u8 a = Bx x := by
  obtain ⟨x, hx⟩ := u8_any a h
  exact ⟨x, hx⟩
theorem wf64' {a : Int} (h : (Lit.int .u64 a).wf = true) : Value.int .u64 a = Ux (U a) := by
  have hb : IntKind.u64.min ≤ a ∧ a ≤ IntKind.u64.max := by simpa only [Lit.wf, Bool.and_eq_true, decide_eq_true_eq] using h
  have h1 : (0 : Int) ≤ a := hb.1
  have h2 : a ≤ 18446744073709551615 := hb.2
  have h3 := ux_of a
  rw [u64w] at h3
  show _ = Value.int .u64 ((U a).toNat : Int)
  rw [← h3, Int.emod_eq_of_lt h1 (by omega)]
theorem reads_u8 : Reads Tryz.prog U8R QAny 5 := reads_int (k := .u8) Tryz.underlying5 (fun n hn => by
  obtain ⟨x, hx⟩ := u8_any n hn
  exact ⟨x, by rw [hx]⟩)
theorem open_bytes {H : Type} {enc : TypeId × Value → H} {w : World} {base : Nat} {spare : Nat → Bool} {held : Bool} {a : Option Addr} {n c : Nat} {d : DataW H} {p : List MemPlace}
    (h : ∃ fuel, DataW.trod enc Tryz.prog w base spare held fuel 40 (Value.slice a n c).cells.toList = some (d, p)) : ∃ z, Sl U8R (ph w) (.slice a n c) z := by
  obtain ⟨fuel, hf⟩ := h
  obtain ⟨ys, ⟨v, hv, hs⟩, _⟩ := reads_slice Tryz.underlying40 c5 reads_u8 _ _ _ _ _ _ _ _ _ hf
  have e : Value.slice a n c = v := (List.cons.inj (show [Value.slice a n c] = [v] from hv)).1
  subst e
  exact ⟨ys, hs⟩
end Go.Proofs
