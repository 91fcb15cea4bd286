/-
  Arguments that came in: a form, rows of forms with their sizes. Own work; plain Lean.
-/
import Derived.Test.YtbhkgodiencdlaaDoorStOpenF
namespace Go.Proofs
open Go Go.Sl Go.Stp
open Go.ChangeShapes Go.ChangeAt Go.RowKit
theorem bytes54 : Tryd.prog.bytesOf 54 = 8 := by kernel_rfl
theorem wAll_mem {H : Type} {P : Program} {e : TypeId} : ∀ {l : List (DataW H)} {i : Nat} {d : DataW H}, l[i]? = some d → ∀ n ∈ d.weights P e, n ∈ DataW.weightsAll P e l
  | [], _, _, h, _, _ => by simp at h
  | a :: l, 0, d, h, n, hn => by
    simp only [List.getElem?_cons_zero, Option.some.injEq] at h
    subst h
    simp only [DataW.weightsAll, List.mem_append]; exact .inl hn
  | a :: l, i + 1, d, h, n, hn => by
    simp only [List.getElem?_cons_succ] at h
    simp only [DataW.weightsAll, List.mem_append]; exact .inr (wAll_mem h n hn)
theorem slice_sizes {H α : Type} {P : Program} {t e : TypeId} {Q : (H : Type) → DataW H → α → Prop} {d : DataW H} {ys : List α} (hu : P.underlying t = some (.slice e)) (hq : QSl Q H d ys) (hw : ∀ n ∈ d.weights P t, n ≤ reachBytes) :
    ys.length * P.bytesOf e ≤ reachBytes ∧ ∀ (i : Nat) y, ys[i]? = some y → ∃ di : DataW H, Q H di y ∧ ∀ n ∈ di.weights P e, n ≤ reachBytes := by
  cases d with
  | slice elems spare =>
    obtain ⟨hl, hq⟩ := hq
    simp only [DataW.weights, hu, List.mem_cons, List.mem_append] at hw
    refine ⟨?_, fun i y hy => ?_⟩
    · have := hw _ (.inl rfl)
      rw [hl] at this
      exact Nat.le_trans (Nat.mul_le_mul_right _ (by omega)) this
    · have hlt := (List.getElem?_eq_some_iff.1 hy).1
      obtain ⟨di, hd⟩ : ∃ di, elems[i]? = some di := ⟨_, List.getElem?_eq_getElem (by omega)⟩
      exact ⟨di, hq i di y hd hy, fun n hn => hw n (.inr (.inl (wAll_mem hd n hn)))⟩
  | nil =>
    have hq : ys = [] := hq
    subst hq
    exact ⟨by simp, fun i y hy => by simp at hy⟩
  | _ => exact absurd hq (by simp [QSl])
theorem agg_of_cells8 {v a b c d e f g h : Value} (hh : v.cells.toList = [a, b, c, d, e, f, g, h]) : v = .agg #[a, b, c, d, e, f, g, h] := by
  cases v with
  | agg cs =>
    have hh : cs.toList = [a, b, c, d, e, f, g, h] := hh
    rw [show cs = #[a, b, c, d, e, f, g, h] from Array.toList_inj.1 hh]
  | _ => exact absurd (congrArg List.length hh) (by simp [Value.cells])
theorem open_form {H : Type} {enc : TypeId × Value → H} {w : World} {base : Nat} {spare : Nat → Bool} {held : Bool} {v : Value} {d : DataW H} {p : List MemPlace}
    (h : ∃ fuel, DataW.trod enc Tryd.prog w base spare held fuel 54 v.cells.toList = some (d, p)) : ∃ f : KF, v = .agg #[I8x f.x, I8x f.y, I8x f.vx, I8x f.vy, Bx f.w, Bx f.h, .bool f.round, .bool f.fixed] ∧ okF f := by
  obtain ⟨fuel, hf⟩ := h
  obtain ⟨f, ⟨hc, ho⟩, _⟩ := reads_form _ _ _ _ _ _ _ _ _ hf
  exact ⟨f, agg_of_cells8 hc, ho⟩
theorem open_formsQ {H : Type} {enc : TypeId × Value → H} {w : World} {base : Nat} {spare : Nat → Bool} {held : Bool} {a : Option Addr} {n c : Nat} {d : DataW H} {p : List MemPlace}
    (h : ∃ fuel, DataW.trod enc Tryd.prog w base spare held fuel 47 (Value.slice a n c).cells.toList = some (d, p)) (hw : ∀ n ∈ d.weights Tryd.prog 47, n ≤ reachBytes) : ∃ z : List KF, Sl FormR (ph w) (.slice a n c) z ∧ z.length * 8 ≤ 140737488351232 := by
  obtain ⟨fuel, hf⟩ := h
  obtain ⟨ys, ⟨v, hv, hs⟩, hq⟩ := reads_slice Tryd.underlying47 c54 reads_form _ _ _ _ _ _ _ _ _ hf
  have e : Value.slice a n c = v := (List.cons.inj (show [Value.slice a n c] = [v] from hv)).1
  subst e
  have := (slice_sizes Tryd.underlying47 hq hw).1
  rw [bytes54] at this
  exact ⟨ys, hs, this⟩
theorem i16_bd {n : Int} (h : (Lit.int .i16 n).wf = true) : -32768 ≤ n ∧ n ≤ 32767 := by
  have hb : IntKind.i16.min ≤ n ∧ n ≤ IntKind.i16.max := by simpa only [Lit.wf, Bool.and_eq_true, decide_eq_true_eq] using h
  exact hb
end Go.Proofs
