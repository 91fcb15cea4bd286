import Derived.Test.YtbfidhbcojbklaaDg10
namespace Go.Proofs
open Go Go.Sl
theorem comp_len (xs : List KComp) : (xs.flatMap compE).length = xs.length * 5 := by
  induction xs with
  | nil => rfl
  | cons x xs ih => rw [List.flatMap_cons, List.length_append, ih, List.length_cons]; simp [compE]; omega
theorem comp_one (xs : List KComp) : (xs.flatMap compE).all (·.oneCell') = true := by
  rw [List.all_eq_true]
  intro v hv
  obtain ⟨x, _, hx⟩ := List.mem_flatMap.1 hv
  simp only [compE, List.mem_cons, List.not_mem_nil, or_false] at hx
  rcases hx with rfl | rfl | rfl | rfl | rfl <;> rfl
theorem elems_some {α : Type} {R : Rp α} {h : PHeap} {a : Option Addr} {xs : List α} (hx : xs ≠ []) (he : Elems R h a xs) : ∃ x, a = some x := by
  cases xs with
  | nil => exact absurd rfl hx
  | cons x xs => exact ⟨_, (he 0 x rfl).1⟩
theorem elems_cs {h : PHeap} {a : Addr} {xs : List KComp} (he : Elems CompR h (some a) xs) : Cs h a (xs.flatMap compE) := by
  intro j v hj
  have hjl := (List.getElem?_eq_some_iff.1 hj).1
  rw [comp_len] at hjl
  have hq : j / 5 < xs.length := by omega
  obtain ⟨_, cs, hc, hr⟩ := he (j / 5) _ (List.getElem?_eq_getElem hq)
  have hr : cs = compE xs[j / 5] := hr
  subst hr
  have key : ∀ (xs : List KComp) (j : Nat) (hq : j / 5 < xs.length), (xs.flatMap compE)[j]? = (compE xs[j / 5])[j % 5]? := by
    intro xs
    induction xs with
    | nil => intro j hq; simp at hq
    | cons x xs ih =>
      intro j hq
      rw [List.flatMap_cons]
      by_cases h5 : j < 5
      · rw [List.getElem?_append_left (by simpa [compE] using h5)]
        have e1 : j / 5 = 0 := by omega
        have e2 : j % 5 = j := by omega
        simp [e1, e2]
      · rw [List.getElem?_append_right (by simp [compE]; omega)]
        have hl : (compE x).length = 5 := rfl
        rw [hl, ih (j - 5) (by simp at hq; omega)]
        have e1 : j / 5 = (j - 5) / 5 + 1 := by omega
        have e2 : (j - 5) % 5 = j % 5 := by omega
        simp [e1, e2]
  rw [key xs j hq] at hj
  have h2 := hc (j % 5) v hj
  have e : ((ba (some a)).add (j / 5 * CompR.n)).add (j % 5) = a.add j := by
    rw [Addr.add_add']
    show a.add (j / 5 * 5 + j % 5) = _
    congr 1; omega
  rw [e] at h2
  exact h2
theorem tf69 : elB Try.prog 55 5 40 = true := by kernel_rfl
theorem copyComps_ok (β : Base) (w : World) (hw : St β [] w) (v : Value) (xs : List KComp) (hs : Sl CompR β.heap v xs) (hn : xs.length * 40 ≤ 140737488355328) : Calls Try.prog 46 #[v] w fun r w' => ∃ v', r = .returned v' ∧ St β [row v' 55 5 xs.length (xs.flatMap compE)] w' := by
  obtain ⟨va, vc, rfl, vl, vm, ve⟩ := hs.get
  by_cases he : xs = []
  · subst he
    refine enter (n := 7) Try.func46 rfl Try.ntmps46 rfl ?_ hw
    refine c_seq ?_
    refine c_region ?_
    refine l_val (v := .slice none 0 0) rfl rfl rfl (e_assign) ?_
    refine l_nil ?_
    refine f_then ?_
    refine c_seq ?_
    refine c_region ?_
    refine l_val (v := .slice none 0 0) rfl rfl rfl (e_assign) ?_
    refine l_nil ?_
    refine f_then ?_
    refine c_seq ?_
    refine c_region ?_
    refine l_val (v := .slice none 0 0) rfl rfl rfl (e_move) ?_
    refine l_val (v := .slice va (0) (vc)) rfl rfl rfl (e_move) ?_
    refine l_emp (r := row (.slice none 0 0) 55 5 0 []) (row_nil _ _ _) ?_
    refine l_mv rfl rfl rfl (m_append_nil 0 tf14 (v := .slice none 0 0) (ao := va) (c := vc) rfl rfl rfl) ?_
    rintro _ _ ⟨rfl, rfl⟩
    refine l_val (v := .slice none 0 0) rfl rfl rfl (e_assign) ?_
    refine l_nil ?_
    refine f_then ?_
    refine c_ret ?_
    refine ret1 Try.results46 (v := .slice none 0 0) rfl ?_
    intro w hw
    exact ⟨_, rfl, by have h := st_mask (L' := [row (.slice none 0 0) 55 5 (0) ([])]) [true] rfl hw; simpa using h⟩
  · obtain ⟨vad, rfl⟩ := elems_some he ve
    refine enter (n := 7) Try.func46 rfl Try.ntmps46 rfl ?_ hw
    refine c_seq ?_
    refine c_region ?_
    refine l_val (v := .slice none 0 0) rfl rfl rfl (e_assign) ?_
    refine l_nil ?_
    refine f_then ?_
    refine c_seq ?_
    refine c_region ?_
    refine l_val (v := .slice none 0 0) rfl rfl rfl (e_assign) ?_
    refine l_nil ?_
    refine f_then ?_
    refine c_seq ?_
    refine c_region ?_
    refine l_val (v := .slice none 0 0) rfl rfl rfl (e_move) ?_
    refine l_val (v := .slice (some vad) (xs.length) (vc)) rfl rfl rfl (e_move) ?_
    refine l_emp (r := row (.slice none 0 0) 55 5 0 []) (row_nil _ _ _) ?_
    refine l_mv rfl rfl rfl (m_append 0 tf14 tf69 (v := .slice none 0 0) (m := 0) (vs := []) (ad := vad) (k := xs.length) (c := vc) (news := (xs.flatMap compE)) rfl rfl rfl (comp_len xs) (Knows.of_base (Cs.mono _ _) (elems_cs ve)) (comp_one xs) (by unfold maxLen; omega) (by omega)) ?_
    rintro v1 _ ⟨hnv1, rfl⟩
    refine l_val (v := v1) rfl rfl rfl (e_assign) ?_
    refine l_nil ?_
    refine f_then ?_
    refine c_ret ?_
    refine ret1 Try.results46 (v := v1) rfl ?_
    intro w hw
    exact ⟨_, rfl, by have h := st_mask (L' := [row v1 55 5 (0 + xs.length) ([] ++ (xs.flatMap compE))]) [true] rfl hw; simpa using h⟩
end Go.Proofs
