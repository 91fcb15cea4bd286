/-
  What a store holds, step by step. Own work; plain Lean.
-/
import Derived.Test.YtkpdcajddpiknaaJnLaw3
namespace Go.Jn
open Go.Sl

theorem area_set (k : KS) (e : Nat) (xs : Bs) : (k.setArea e xs).area e = xs := by
  unfold KS.setArea KS.area
  split <;> rfl
theorem area_set_ne (k : KS) {e e' : Nat} (h : e % 2 ≠ e' % 2) (xs : Bs) : (k.setArea e xs).area e' = k.area e' := by
  unfold KS.setArea KS.area
  by_cases h1 : e % 2 = 0
  · rw [if_pos h1, if_neg (by omega), if_neg (by omega)]
  · rw [if_neg h1, if_pos (by omega), if_pos (by omega)]
theorem area_pow (k : KS) (e : Nat) (p : Int) : ({ k with power := p } : KS).area e = k.area e := rfl
theorem set_head (k : KS) (e : Nat) (xs : Bs) : (k.setArea e xs).head = k.head := by unfold KS.setArea; split <;> rfl
theorem area_both {P : Bs → Prop} {k : KS} (ha : P k.a) (hb : P k.b) (e : Nat) : P (k.area e) := by unfold KS.area; split <;> assumption

structure Inv (k : KS) (i : KI) (N : Nat) (x : Bool) : Prop where
  head : HeadOk k.head i.epoch
  area : ∃ tail, k.area i.epoch = encI i ++ tail ∧ recB i.epoch tail = false ∧ (x = true → tail = [])
  wf : WF i
  eN : i.epoch ≤ N
  nN : i.next ≤ N
  sz : i.size ≤ 324 * (N + 1)
  la : (k.area 0).length ≤ 324 * (N + 2)
  lb : (k.area 1).length ≤ 324 * (N + 2)
  st : i.state.length ≤ 300
  rs : ∀ b ∈ i.recs, b.length ≤ 300
  pw : -1 ≤ k.power ∧ k.power ≤ 255

theorem Inv.mono {k : KS} {i : KI} {N M : Nat} {x : Bool} (h : Inv k i N x) (hM : N ≤ M) : Inv k i M x :=
  ⟨h.head, h.area, h.wf, by have := h.eN; omega, by have := h.nN; omega, by have := h.sz; omega, by have := h.la; omega, by have := h.lb; omega, h.st, h.rs, h.pw⟩
theorem Inv.weak {k : KS} {i : KI} {N : Nat} (h : Inv k i N true) : Inv k i N false :=
  ⟨h.head, let ⟨t, a, b, _⟩ := h.area; ⟨t, a, b, fun e => by cases e⟩, h.wf, h.eN, h.nN, h.sz, h.la, h.lb, h.st, h.rs, h.pw⟩
theorem Inv.any {k : KS} {i : KI} {N : Nat} {x : Bool} (h : Inv k i N x) : Inv k i N false := by cases x; exact h; exact h.weak
theorem Inv.pow {k : KS} {i : KI} {N : Nat} {x : Bool} (h : Inv k i N x) {p : Int} (h1 : -1 ≤ p) (h2 : p ≤ 255) : Inv { k with power := p } i N x :=
  ⟨h.head, h.area, h.wf, h.eN, h.nN, h.sz, h.la, h.lb, h.st, h.rs, h1, h2⟩
theorem Inv.exact {k : KS} {i : KI} {N : Nat} (h : Inv k i N true) : k.area i.epoch = encI i := by
  obtain ⟨t, a, _, c⟩ := h.area
  rw [a, c rfl, List.append_nil]
theorem Inv.lens {k : KS} {i : KI} {N : Nat} {x : Bool} (h : Inv k i N x) : k.a.length ≤ 324 * (N + 2) ∧ k.b.length ≤ 324 * (N + 2) := ⟨h.la, h.lb⟩
theorem Inv.fits {k : KS} {i : KI} {N : Nat} {x : Bool} (h : Inv k i N x) (hN : N ≤ 100) : k.fits 524288 := by
  have h1 := h.lens
  have h2 := h.head.len
  exact ⟨by omega, by omega, by omega, by have := h.pw; omega⟩
theorem Inv.okP {k : KS} {i : KI} {N : Nat} {x : Bool} (h : Inv k i N x) (hN : N ≤ 100) : k.okP := by
  have h1 := h.lens
  have h2 := h.head.len
  exact ⟨h2, by omega, by omega, h.pw.1⟩
theorem Inv.read {k : KS} {i : KI} {N : Nat} {x : Bool} (h : Inv k i N x) : readI k = some i := by
  obtain ⟨t, a, b, _⟩ := h.area
  exact read_enc h.head.epoch a b h.wf
theorem cut_pow {k : KS} {e size : Nat} (hp : k.power ≠ 0) : (cutS k e size).area e = (k.area e).take size := by
  unfold cutS
  rw [area_pow, area_set, cutA, if_neg hp]
/-- opened with enough power -/
theorem Inv.cut {k : KS} {i : KI} {N : Nat} {x : Bool} (h : Inv k i N x) (hp : k.power ≠ 0) : Inv (cutS k i.epoch i.size) i N true := by
  obtain ⟨t, a, b, _⟩ := h.area
  have e1 : (cutS k i.epoch i.size).area i.epoch = encI i := by
    rw [cut_pow hp, a, h.wf.size, List.take_left']
    rfl
  have hle : ∀ e, ((cutS k i.epoch i.size).area e).length ≤ 324 * (N + 2) := by
    have h1 : ∀ xs : Bs, xs.length ≤ 324 * (N + 2) → (cutA xs k.power i.size).length ≤ 324 * (N + 2) := fun xs hx => by
      unfold cutA; split
      · exact hx
      · simp; omega
    intro e
    by_cases he : i.epoch % 2 = e % 2
    · have e2 : (cutS k i.epoch i.size).area e = (cutS k i.epoch i.size).area i.epoch := by unfold KS.area; rw [he]
      rw [e2]
      unfold cutS
      rw [area_pow, area_set]
      exact h1 _ (area_both (P := fun z => z.length ≤ _) h.la h.lb _)
    · unfold cutS
      rw [area_pow, area_set_ne _ he]
      exact area_both (P := fun z => z.length ≤ _) h.la h.lb _
  refine ⟨?_, ⟨[], by rw [e1, List.append_nil], rec_nil _, fun _ => rfl⟩, h.wf, h.eN, h.nN, h.sz, hle 0, hle 1, h.st, h.rs, ?_⟩
  · show HeadOk (k.setArea _ _).head _
    rw [set_head]; exact h.head
  · show -1 ≤ cutP _ _ _ ∧ cutP _ _ _ ≤ 255
    have := h.pw
    unfold cutP spendP
    split <;> (try split) <;> omega
/-! Checkpoints. -/
/-- the empty store -/
theorem inv_empty {p : Int} (h : -1 ≤ p ∧ p ≤ 255) : Inv ⟨[], [], [], p⟩ ⟨0, 0, [], [], 0⟩ 0 true :=
  ⟨.inl ⟨rfl, rfl⟩, ⟨[], by simp [KS.area, encI, encR_nil], by decide +kernel, fun _ => rfl⟩, ⟨by decide, by decide, fun _ => ⟨rfl, rfl⟩, by decide, by decide, by simp⟩, by decide, by decide, by decide, by simp [KS.area], by simp [KS.area], by decide, by simp, h⟩
end Go.Jn
