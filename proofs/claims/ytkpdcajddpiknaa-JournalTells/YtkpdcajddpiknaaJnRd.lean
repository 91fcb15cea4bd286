/-
  What reading finds is in bounds; memory of the reference's journal. Own work; plain Lean.
-/
import Derived.Test.YtkpdcajddpiknaaJnRf
import Derived.Test.YtkpdcajddpiknaaSlRf
namespace Go.Jn
open Go Go.Sl
theorem parse_size {e : Int} : ∀ (f n : Nat) (xs : Bs), sizes (parse e f n xs) ≤ xs.length
  | 0, _, _ => Nat.zero_le _
  | f + 1, n, xs => by
    unfold parse
    split
    · rename_i h
      have h1 := recP_len h.1
      have h2 := parse_size (e := e) f (n + 1) (xs.drop (24 + (recP xs).length))
      simp only [sizes, List.length_drop] at h2 ⊢
      omega
    · exact Nat.zero_le _
theorem parse_next {e : Int} : ∀ (f n : Nat) (xs : Bs), n ≤ 4611686018427387904 → n + (parse e f n xs).length ≤ 4611686018427387904
  | 0, n, _, h => by simpa [parse] using h
  | f + 1, n, xs, h => by
    unfold parse
    split
    · rename_i h1
      have h2 := parse_next (e := e) f (n + 1) (xs.drop (24 + (recP xs).length)) (by omega)
      simp only [List.length_cons]
      omega
    · simpa using h
theorem parse_small {e : Int} : ∀ (f n : Nat) (xs : Bs), ∀ b ∈ parse e f n xs, b.length ≤ 65536
  | 0, _, _, b, h => by simp [parse] at h
  | f + 1, n, xs, b, h => by
    unfold parse at h
    split at h
    · rcases List.mem_cons.1 h with h1 | h1
      · rw [h1]; exact recP_small
      · exact parse_small f _ _ b h1
    · cases h
theorem sizes_len (l : List Bs) : 24 * l.length ≤ sizes l := by
  induction l with
  | nil => simp [sizes]
  | cons a l ih => simp only [List.length_cons, sizes]; omega
structure RdB (k : KS) (i : KI) : Prop where
  size : i.size ≤ (k.area i.epoch).length
  epoch : i.epoch < 4611686018427387904
  next : i.next ≤ 4611686018427387904
  len : 24 * i.recs.length ≤ (k.area i.epoch).length
  state : i.state.length ≤ 65536
  recs : ∀ b ∈ i.recs, b.length ≤ 65536
theorem read_b {k : KS} {i : KI} (h : readI k = some i) : RdB k i := by
  unfold readI at h
  simp only at h
  have he : epochF k.head < 4611686018427387904 := epLoop_lt _ _
  split at h
  · rename_i h0
    injection h with h
    subst h
    rw [h0]
    have h1 := parse_size (e := ((0 : Nat) : Int)) ((k.area 0).length + 1) 0 (k.area 0)
    have h2 := parse_next (e := ((0 : Nat) : Int)) ((k.area 0).length + 1) 0 (k.area 0) (by omega)
    have h3 := sizes_len (recsF 0 0 (k.area 0))
    exact ⟨h1, by show (0 : Nat) < _; omega, by simpa [recsF] using h2, Nat.le_trans h3 h1, by simp, parse_small _ _ _⟩
  · split at h
    · rename_i h0 hb
      injection h with h
      subst h
      have hl := recP_len hb
      obtain ⟨ar, har⟩ : ∃ z, z = k.area (epochF k.head) := ⟨_, rfl⟩
      obtain ⟨e, hee⟩ : ∃ z, z = epochF k.head := ⟨_, rfl⟩
      rw [← har] at hl
      have h1 := parse_size (e := (e : Int)) ((ar.drop (24 + (recP ar).length)).length + 1) (recN ar) (ar.drop (24 + (recP ar).length))
      have h2 := parse_next (e := (e : Int)) ((ar.drop (24 + (recP ar).length)).length + 1) (recN ar) (ar.drop (24 + (recP ar).length)) recN_small
      have h3 := sizes_len (recsF e (recN ar) (ar.drop (24 + (recP ar).length)))
      have h4 : sizes (recsF e (recN ar) (ar.drop (24 + (recP ar).length))) ≤ (ar.drop (24 + (recP ar).length)).length := h1
      rw [← hee] at har he ⊢
      rw [← har]
      simp only [List.length_drop] at h4
      refine ⟨?_, he, h2, ?_, recP_small, parse_small _ _ _⟩
      · show _ ≤ (k.area e).length; rw [← har]; show 24 + _ + sizes _ ≤ _; omega
      · show _ ≤ (k.area e).length; rw [← har]; show 24 * (recsF _ _ _).length ≤ _; omega
    · cases h
/-- the cells of a slice of slices, one after the other -/
theorem Sl.us {h : PHeap} {pr : Option Addr} {n cr : Nat} {xs : List Bs} (hs : Sl BsR h (.slice pr n cr) xs) : ∃ us, us.length = xs.length ∧ Cs h (ba pr) us ∧ (us.all (·.oneCell') = true) ∧ inn us xs h ∧ (0 < xs.length → pr = some (ba pr)) := by
  obtain ⟨_, _, _, he⟩ := hs.parts
  have key : ∀ (ys : List Bs) (o : Nat), (∀ j x, ys[j]? = some x → ∃ cs, Cs h ((ba pr).add (o + j)) cs ∧ ∃ v, cs = [v] ∧ Sl U8R h v x) → ∃ us : List Value, us.length = ys.length ∧ (∀ j v, us[j]? = some v → cellAt h ((ba pr).add (o + j)) = some v) ∧ (us.all (·.oneCell') = true) ∧ ∀ (j : Nat) x u, ys[j]? = some x → us[j]? = some u → Sl U8R h u x := by
    intro ys
    induction ys with
    | nil => intro o _; exact ⟨[], rfl, fun j v hj => by simp at hj, rfl, fun j x u hx _ => by simp at hx⟩
    | cons y ys ih =>
      intro o hy
      obtain ⟨us, h1, h2, h3, h4⟩ := ih (o + 1) (fun j x hj => by
        have := hy (j + 1) x (by simpa using hj)
        rwa [show o + (j + 1) = o + 1 + j by omega] at this)
      obtain ⟨cs, hc, v, rfl, hv⟩ := hy 0 y rfl
      refine ⟨v :: us, by simp [h1], fun j u hj => ?_, ?_, fun j x u hx hu => ?_⟩
      · cases j with
        | zero =>
          simp at hj; subst hj
          have := hc 0 v rfl
          rwa [Addr.add_zero'] at this
        | succ j =>
          have := h2 j u (by simpa using hj)
          rwa [show o + 1 + j = o + (j + 1) by omega] at this
      · rw [List.all_cons, h3, Bool.and_true]
        obtain ⟨a, c, rfl, _⟩ := hv.get
        rfl
      · cases j with
        | zero => simp at hx hu; subst hx; subst hu; exact hv
        | succ j => exact h4 j x u (by simpa using hx) (by simpa using hu)
  obtain ⟨us, h1, h2, h3, h4⟩ := key xs 0 (fun j x hj => by
    obtain ⟨_, cs, hc, v, hv⟩ := he j x hj
    have hc : Cs h ((ba pr).add (j * 1)) cs := hc
    rw [Nat.mul_one] at hc
    rw [Nat.zero_add]
    exact ⟨cs, hc, v, hv⟩)
  refine ⟨us, h1, fun j v hj => ?_, h3, ⟨h1, h4⟩, fun h0 => elems_some he h0⟩
  have := h2 j v hj
  rwa [Nat.zero_add] at this
/-- what a journal of the reference holds, beside its cells -/
def memR (vH vA vB vS vR : Value) (k : KS) (i : KI) : Res := fun h => Sl U8R h vH k.head ∧ Sl U8R h vA k.a ∧ Sl U8R h vB k.b ∧ Sl U8R h vS i.state ∧ Sl BsR h vR i.recs
theorem memR.mono (vH vA vB vS vR : Value) (k : KS) (i : KI) : Mono (memR vH vA vB vS vR k i) := fun _ _ hs ⟨a, b, c, d, e⟩ => ⟨Sl.mono _ _ _ _ _ hs a, Sl.mono _ _ _ _ _ hs b, Sl.mono _ _ _ _ _ hs c, Sl.mono _ _ _ _ _ hs d, Sl.mono _ _ _ _ _ hs e⟩
theorem cut_no {k : KS} {e size : Nat} (h : ¬ cutOk (k.area e) k.power size) : cutS k e size = k := by
  unfold cutOk at h
  have h1 : k.power = 0 := by omega
  have e1 : cutA (k.area e) k.power size = k.area e := by rw [cutA, if_pos h1]
  have e2 : cutP (k.area e) k.power size = k.power := by
    unfold cutP spendP; split
    · rw [if_neg (by omega)]
    · rfl
  unfold cutS
  rw [e1, e2]
  unfold KS.setArea KS.area
  split <;> rfl
end Go.Jn
