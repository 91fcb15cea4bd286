/-
  Own work; plain Lean (Dg11, Dg12, Dg13, Dg14).
-/
import Derived.Test.YtbfidhbcojbklaaGreatDg10
namespace Go.Proofs
open Go Go.Sl
theorem comp_len (xs : List KComp) : (xs.flatMap compE).length = xs.length * 5 := by
  induction xs with
  | nil => rfl
  | cons x xs ih => rw [List.flatMap_cons, List.length_append, ih, List.length_cons]; simp [compE]; omega
theorem comp_one (xs : List KComp) : (xs.flatMap compE).all (·.oneCell') = true := by
  rw [List.all_eq_true]
  intro v hv
  obtain ⟨x, _, hx⟩ := List.mem_flatMap.1 hv
  simp only [compE, List.mem_cons, List.not_mem_nil, or_false] at hx
  rcases hx with rfl | rfl | rfl | rfl | rfl <;> rfl
theorem elems_some {α : Type} {R : Rp α} {h : PHeap} {a : Option Addr} {xs : List α} (hx : xs ≠ []) (he : Elems R h a xs) : ∃ x, a = some x := by
  cases xs with
  | nil => exact absurd rfl hx
  | cons x xs => exact ⟨_, (he 0 x rfl).1⟩
theorem elems_cs {h : PHeap} {a : Addr} {xs : List KComp} (he : Elems CompR h (some a) xs) : Cs h a (xs.flatMap compE) := by
  intro j v hj
  have hjl := (List.getElem?_eq_some_iff.1 hj).1
  rw [comp_len] at hjl
  have hq : j / 5 < xs.length := by omega
  obtain ⟨_, cs, hc, hr⟩ := he (j / 5) _ (List.getElem?_eq_getElem hq)
  have hr : cs = compE xs[j / 5] := hr
  subst hr
  have key : ∀ (xs : List KComp) (j : Nat) (hq : j / 5 < xs.length), (xs.flatMap compE)[j]? = (compE xs[j / 5])[j % 5]? := by
    intro xs
    induction xs with
    | nil => intro j hq; simp at hq
    | cons x xs ih =>
      intro j hq
      rw [List.flatMap_cons]
      by_cases h5 : j < 5
      · rw [List.getElem?_append_left (by simpa [compE] using h5)]
        have e1 : j / 5 = 0 := by omega
        have e2 : j % 5 = j := by omega
        simp [e1, e2]
      · rw [List.getElem?_append_right (by simp [compE]; omega)]
        have hl : (compE x).length = 5 := rfl
        rw [hl, ih (j - 5) (by simp at hq; omega)]
        have e1 : j / 5 = (j - 5) / 5 + 1 := by omega
        have e2 : (j - 5) % 5 = j % 5 := by omega
        simp [e1, e2]
  rw [key xs j hq] at hj
  have h2 := hc (j % 5) v hj
  have e : ((ba (some a)).add (j / 5 * CompR.n)).add (j % 5) = a.add j := by
    rw [Addr.add_add']
    show a.add (j / 5 * 5 + j % 5) = _
    congr 1; omega
  rw [e] at h2
  exact h2
theorem tf69 : elB Tryz.prog 38 5 40 = true := by kernel_rfl
theorem copyComps_ok (β : Base) (w : World) (hw : St β [] w) (v : Value) (xs : List KComp) (hs : Sl CompR β.heap v xs) (hn : xs.length * 40 ≤ 140737488355328) : Calls Tryz.prog 112 #[v] w fun r w' => ∃ v', r = .returned v' ∧ St β [row v' 38 5 xs.length (xs.flatMap compE)] w' := by
  obtain ⟨va, vc, rfl, vl, vm, ve⟩ := hs.get
  by_cases he : xs = []
  · subst he
    refine enter (n := 7) Tryz.func112 rfl Tryz.ntmps112 rfl ?_ hw
    refine c_seq ?_
    refine c_region ?_
    refine l_val (v := .slice none 0 0) rfl rfl rfl (e_assign) ?_
    refine l_nil ?_
    refine f_then ?_
    refine c_seq ?_
    refine c_region ?_
    refine l_val (v := .slice none 0 0) rfl rfl rfl (e_assign) ?_
    refine l_nil ?_
    refine f_then ?_
    refine c_seq ?_
    refine c_region ?_
    refine l_val (v := .slice none 0 0) rfl rfl rfl (e_move) ?_
    refine l_val (v := .slice va (0) (vc)) rfl rfl rfl (e_move) ?_
    refine l_emp (r := row (.slice none 0 0) 38 5 0 []) (row_nil _ _ _) ?_
    refine l_mv rfl rfl rfl (m_append_nil 0 tf14 (v := .slice none 0 0) (ao := va) (c := vc) rfl rfl rfl) ?_
    rintro _ _ ⟨rfl, rfl⟩
    refine l_val (v := .slice none 0 0) rfl rfl rfl (e_assign) ?_
    refine l_nil ?_
    refine f_then ?_
    refine c_ret ?_
    refine ret1 Tryz.results112 (v := .slice none 0 0) rfl ?_
    intro w hw
    exact ⟨_, rfl, by have h := st_mask (L' := [row (.slice none 0 0) 38 5 (0) ([])]) [true] rfl hw; simpa using h⟩
  · obtain ⟨vad, rfl⟩ := elems_some he ve
    refine enter (n := 7) Tryz.func112 rfl Tryz.ntmps112 rfl ?_ hw
    refine c_seq ?_
    refine c_region ?_
    refine l_val (v := .slice none 0 0) rfl rfl rfl (e_assign) ?_
    refine l_nil ?_
    refine f_then ?_
    refine c_seq ?_
    refine c_region ?_
    refine l_val (v := .slice none 0 0) rfl rfl rfl (e_assign) ?_
    refine l_nil ?_
    refine f_then ?_
    refine c_seq ?_
    refine c_region ?_
    refine l_val (v := .slice none 0 0) rfl rfl rfl (e_move) ?_
    refine l_val (v := .slice (some vad) (xs.length) (vc)) rfl rfl rfl (e_move) ?_
    refine l_emp (r := row (.slice none 0 0) 38 5 0 []) (row_nil _ _ _) ?_
    refine l_mv rfl rfl rfl (m_append 0 tf14 tf69 (v := .slice none 0 0) (m := 0) (vs := []) (ad := vad) (k := xs.length) (c := vc) (news := (xs.flatMap compE)) rfl rfl rfl (comp_len xs) (Knows.of_base (Cs.mono _ _) (elems_cs ve)) (comp_one xs) (by unfold maxLen; omega) (by omega)) ?_
    rintro v1 _ ⟨hnv1, rfl⟩
    refine l_val (v := v1) rfl rfl rfl (e_assign) ?_
    refine l_nil ?_
    refine f_then ?_
    refine c_ret ?_
    refine ret1 Tryz.results112 (v := v1) rfl ?_
    intro w hw
    exact ⟨_, rfl, by have h := st_mask (L' := [row v1 38 5 (0 + xs.length) ([] ++ (xs.flatMap compE))]) [true] rfl hw; simpa using h⟩
end Go.Proofs

namespace Go.Proofs
open Go Go.Sl
theorem st_form {β : Base} {L : List Res} {w : World} {v : Value} {T k m : Nat} {vs : List Value} (h : St β (row v T k m vs :: L) w) : ∃ p c, v = .slice p m c := by
  obtain ⟨_, _, _, a, _, _, _, hL⟩ := h
  obtain ⟨a1, _, hr⟩ := hL.each _ (List.mem_cons_self)
  exact row_form hr
theorem copyComps_ok' (β : Base) (w : World) (hw : St β [] w) (v : Value) (xs : List KComp) (hs : Sl CompR β.heap v xs) (hn : xs.length * 40 ≤ 140737488355328) :
    Calls Tryz.prog 112 #[v] w fun r w' => ∃ p c, r = .returned (.slice p xs.length c) ∧ St β [row (.slice p xs.length c) 38 5 xs.length (xs.flatMap compE)] w' :=
  (copyComps_ok β w hw v xs hs hn).mono fun r w' ⟨v', h1, h2⟩ => by
    obtain ⟨p, c, rfl⟩ := st_form h2
    exact ⟨p, c, h1, h2⟩
def sla : Value → Option Addr
  | .slice a _ _ => a
  | _ => none
def slc : Value → Nat
  | .slice _ _ c => c
  | _ => 0
theorem tf70 : cfB Tryz.prog 112 = true := by kernel_rfl
theorem copyEntity_ok (β : Base) (w : World) (hw : St β [] w) (e : KEnt) (v : Value) (hs : Sl CompR β.heap v e.comps) (hn : e.comps.length * 40 ≤ 140737488355328) : Calls Tryz.prog 73 #[.agg #[Ix e.id, v]] w fun r w' => ∃ p c, r = .returned (.agg #[Ix e.id, .slice p e.comps.length c]) ∧ St β [row (.slice p e.comps.length c) 38 5 e.comps.length (e.comps.flatMap compE)] w' := by
  obtain ⟨va, vc, rfl, vl, vm, ve⟩ := hs.get
  refine enter (n := 8) Tryz.func73 rfl Tryz.ntmps73 rfl ?_ hw
  refine c_seq ?_
  refine c_region ?_
  refine l_mv rfl rfl rfl (m_box (v := .agg #[Ix (e.id), .slice va (e.comps.length) (vc)]) rfl) ?_
  rintro _ _ ⟨b1, rfl, rfl⟩
  refine l_mv rfl rfl rfl (m_alloc tf33) ?_
  rintro _ _ ⟨b2, rfl, rfl⟩
  refine l_nil ?_
  refine f_then ?_
  refine c_seq ?_
  refine c_region ?_
  refine l_val (v := .pointer (some ⟨b1, 1, none⟩)) rfl rfl rfl (e_fieldPt (b := b1) (o := 0) rfl tf11) ?_
  refine l_val (v := .slice va (e.comps.length) (vc)) rfl rfl rfl (e_load1 tf12 (v := .slice va (e.comps.length) (vc)) rfl (k_pt 1 (cs := #[Ix (e.id), .slice va (e.comps.length) (vc)]) (vs := [.slice va (e.comps.length) (vc)]) rfl rfl)) ?_
  refine l_call rfl rfl rfl (cl_value (fst := []) (cap := []) (vs := [.slice va (e.comps.length) (vc)]) (all := [.slice va (e.comps.length) (vc)]) tf70 rfl rfl rfl) ?_
  intro w hw
  obtain ⟨β1, sb, kn, hw1, back⟩ := St.frame_all hw
  refine (copyComps_ok' β1 w hw1 _ e.comps (Sl.mono _ _ _ _ _ sb (⟨⟨_, _, rfl, vl, vm, ve⟩⟩ : Sl CompR _ _ e.comps)) (by assumption)).mono ?_
  rintro e w' ⟨p3, c4, rfl, hw'⟩
  refine ⟨_, rfl, _, back _ _ hw', ?_⟩
  clear hw hw1 hw' back kn sb
  refine l_val (v := .pointer (some ⟨b1, 1, none⟩)) rfl rfl rfl (e_fieldPt (b := b1) (o := 0) rfl tf11) ?_
  refine l_mu rfl rfl (m_store 2 tf12 (b := b1) (o := 1) (T := 35) (cs := #[Ix (e.id), .slice va (e.comps.length) (vc)]) (cs' := #[Ix (e.id), .slice p3 (e.comps.length) c4]) (v := .slice p3 (e.comps.length) c4) rfl rfl rfl rfl rfl rfl rfl) ?_
  refine l_nil ?_
  refine f_then ?_
  refine c_seq ?_
  refine c_region ?_
  refine l_val (v := .agg #[Ix (e.id), .slice p3 (e.comps.length) c4]) rfl rfl rfl (e_load tf24 (cs := [Ix (e.id), .slice p3 (e.comps.length) c4]) rfl (k_pt 2 (cs := #[Ix (e.id), .slice p3 (e.comps.length) c4]) (vs := [Ix (e.id), .slice p3 (e.comps.length) c4]) rfl rfl) rfl) ?_
  refine l_mu rfl rfl (m_store 1 tf24 (b := b2) (o := 0) (T := 35) (cs := #[.int .i64 (0), .slice none 0 0]) (cs' := #[Ix (e.id), .slice p3 (e.comps.length) c4]) (v := .agg #[Ix (e.id), .slice p3 (e.comps.length) c4]) rfl rfl rfl rfl rfl rfl rfl) ?_
  refine l_nil ?_
  refine f_then ?_
  refine c_ret ?_
  refine retG (l := [.cell 2 35]) (m := [.agg #[Ix (e.id), .slice p3 (e.comps.length) c4]]) (v := .agg #[Ix (e.id), .slice p3 (e.comps.length) c4]) Tryz.results73 ⟨rd_cell tf24 (cs := [Ix (e.id), .slice p3 (e.comps.length) c4]) rfl (k_pt 1 (cs := #[Ix (e.id), .slice p3 (e.comps.length) c4]) (vs := [Ix (e.id), .slice p3 (e.comps.length) c4]) rfl rfl) rfl, trivial⟩ rfl ?_
  intro w hw
  exact ⟨_, _, rfl, st_mask [true, false, false] rfl hw⟩
end Go.Proofs

namespace Go.Proofs
open Go Go.Sl
def entCells : List Value → List KEnt → List Value
  | v :: vs, e :: es => Ix e.id :: v :: entCells vs es
  | _, _ => []
def compRow (v : Value) (e : KEnt) : Res := row v 38 5 e.comps.length (e.comps.flatMap compE)
def compRows : List Value → List KEnt → List Res
  | v :: vs, e :: es => compRow v e :: compRows vs es
  | _, _ => []
theorem ent_cells_append {vs us : List Value} {es fs : List KEnt} (h : vs.length = es.length) : entCells (vs ++ us) (es ++ fs) = entCells vs es ++ entCells us fs := by
  induction vs generalizing es with
  | nil => cases es with
    | nil => rfl
    | cons e es => simp at h
  | cons v vs ih => cases es with
    | nil => simp at h
    | cons e es =>
      show Ix e.id :: v :: entCells (vs ++ us) (es ++ fs) = _
      rw [ih (by simpa using h)]; rfl
theorem comp_rows_append {vs us : List Value} {es fs : List KEnt} (h : vs.length = es.length) : compRows (vs ++ us) (es ++ fs) = compRows vs es ++ compRows us fs := by
  induction vs generalizing es with
  | nil => cases es with
    | nil => rfl
    | cons e es => simp at h
  | cons v vs ih => cases es with
    | nil => simp at h
    | cons e es =>
      show compRow v e :: compRows (vs ++ us) (es ++ fs) = _
      rw [ih (by simpa using h)]; rfl
theorem ent_cells_snoc {es : List KEnt} {k : Nat} {e : KEnt} (hx : es[k]? = some e) {vs : List Value} {v : Value} (h : vs.length = k) (hk : k ≤ es.length) : entCells (vs ++ [v]) (es.take (k + 1)) = entCells vs (es.take k) ++ [Ix e.id, v] := by
  rw [take_succ hx, ent_cells_append (by simp; omega)]; rfl
theorem comp_rows_snoc {es : List KEnt} {k : Nat} {e : KEnt} (hx : es[k]? = some e) {vs : List Value} {v : Value} (h : vs.length = k) (hk : k ≤ es.length) : (compRow v e :: compRows vs (es.take k)).Perm (compRows (vs ++ [v]) (es.take (k + 1))) := by
  rw [take_succ hx, comp_rows_append (by simp; omega)]
  exact List.perm_append_comm (l₁ := [compRow v e])
theorem tf71 : cfB Tryz.prog 73 = true := by kernel_rfl
theorem tf72 : elB Tryz.prog 35 2 32 = true := by kernel_rfl
theorem copyEntities_ok (β : Base) (w : World) (hw : St β [] w) (v : Value) (xs : List KEnt) (hs : Sl EntR β.heap v xs) (hn : xs.length * 32 ≤ 140737488355328) (hbig : ∀ (i : Nat) e, xs[i]? = some e → e.comps.length * 40 ≤ 140737488355328) : Calls Tryz.prog 39 #[v] w fun r w' => ∃ v' vs, r = .returned v' ∧ vs.length = xs.length ∧ St β (row v' 35 2 xs.length (entCells vs xs) :: compRows vs xs) w' := by
  obtain ⟨va, vc, rfl, vl, vm, ve⟩ := hs.get
  refine enter (n := 22) Tryz.func39 rfl Tryz.ntmps39 rfl ?_ hw
  refine c_seq ?_
  refine c_region ?_
  refine l_val (v := .slice none 0 0) rfl rfl rfl (e_assign) ?_
  refine l_nil ?_
  refine f_then ?_
  refine c_seq ?_
  refine c_region ?_
  refine l_val (v := .slice none 0 0) rfl rfl rfl (e_assign) ?_
  refine l_nil ?_
  refine f_then ?_
  refine c_seq ?_
  refine c_seq ?_
  refine c_emp (r := row (.slice none 0 0) 35 2 0 []) (row_nil _ _ _) ?_
  refine c_region ?_
  refine l_val (v := .int .i64 (0)) rfl rfl rfl (e_assign) ?_
  refine l_nil ?_
  refine f_then ?_
  refine c_block ?_
  refine c_mask [true] rfl ?_
  refine c_loop (fun (x_ : Nat × Value × List Value) (f : Fm) (L : List Res) => match x_ with | (k, o, vs) => (f 0 = .slice va (xs.length) (vc) ∧ f 3 = o ∧ f 4 = Nx (k)) ∧ L = (row o 35 2 (k) ((entCells vs (xs.take k))) :: (compRows vs (xs.take k))) ∧ (k ≤ xs.length ∧ vs.length = k)) (fun (x_ : Nat × Value × List Value) => match x_ with | (k, o, vs) => xs.length - k) (0, (.slice none 0 0), []) ?_ ?_
  · exact ⟨⟨rfl, rfl, rfl⟩, rfl, ⟨by omega, rfl⟩⟩
  rintro ⟨k, o, vs⟩ f0 L0 ⟨⟨hs0, hs3, hs4⟩, hL, ⟨hp1, hp2⟩⟩
  subst L0
  refine rebase (d := 0) hs0 ?_
  refine rebase (d := 3) hs3 ?_
  refine rebase (d := 4) hs4 ?_
  clear hs0 hs3 hs4
  refine c_seq ?_
  refine c_seq ?_
  refine c_region ?_
  refine l_val (v := Nx (k)) rfl rfl rfl (e_move) ?_
  refine l_val (v := .slice va (xs.length) (vc)) rfl rfl rfl (e_move) ?_
  refine l_val (v := Nx (xs.length)) rfl rfl rfl (e_len (a := va) (n := xs.length) (c := vc) rfl tf31) ?_
  refine l_val (v := .bool (decide (((k : Nat) : Int) < ((xs.length : Nat) : Int)))) rfl rfl rfl (e_lss (a := ((k : Nat) : Int)) (b := ((xs.length : Nat) : Int)) rfl rfl) ?_
  refine l_nil ?_
  refine f_then ?_
  refine c_if (((k : Nat) : Int) < ((xs.length : Nat) : Int)) rfl (fun hc1 => ?_) (fun hc1 => ?_)
  ·
    refine c_skip ?_
    refine f_then ?_
    refine c_seq ?_
    refine c_block ?_
    refine c_seq ?_
    refine c_region ?_
    refine l_val (v := .slice va (xs.length) (vc)) rfl rfl rfl (e_move) ?_
    refine l_val (v := Nx (k)) rfl rfl rfl (e_move) ?_
    obtain ⟨x2, hx3⟩ : ∃ x_, (xs)[k]? = some x_ := ⟨_, List.getElem?_eq_getElem (by omega)⟩
    obtain ⟨ha4, cs5, hc6, hr7⟩ := ve _ _ hx3
    obtain ⟨v8, rfl, hv9⟩ := hr7
    obtain ⟨v8a, v8c, rfl, v8l, v8m, v8e⟩ := hv9.get
    refine l_val (v := .pointer (some ((ba va).add (k * 2)))) rfl rfl rfl (e_indexAddr (k := k) (len := xs.length) (cap := vc) (a := va) rfl rfl tf32 (by omega) ha4) ?_
    refine l_val (v := .agg #[Ix (x2.id), .slice v8a (x2.comps.length) (v8c)]) rfl rfl rfl (e_load tf24 (cs := [Ix (x2.id), .slice v8a (x2.comps.length) (v8c)]) rfl (Knows.of_base (Cs.mono _ _) hc6) rfl) ?_
    refine l_call rfl rfl rfl (cl_value (fst := []) (cap := []) (vs := [.agg #[Ix (x2.id), .slice v8a (x2.comps.length) (v8c)]]) (all := [.agg #[Ix (x2.id), .slice v8a (x2.comps.length) (v8c)]]) tf71 rfl rfl rfl) ?_
    intro w hw
    obtain ⟨β1, sb, kn, hw1, back⟩ := St.frame_all hw
    refine (copyEntity_ok β1 w hw1 x2 _ (Sl.mono _ _ _ _ _ sb (⟨⟨_, _, rfl, v8l, v8m, v8e⟩⟩ : Sl CompR _ _ x2.comps)) (hbig _ _ hx3)).mono ?_
    rintro e w' ⟨p10, c11, rfl, hw'⟩
    refine ⟨_, rfl, _, back _ _ hw', ?_⟩
    clear hw hw1 hw' back kn sb
    refine l_mv rfl rfl rfl (m_alloc tf33) ?_
    rintro _ _ ⟨b12, rfl, rfl⟩
    refine l_mu rfl rfl (m_store 0 tf24 (b := b12) (o := 0) (T := 35) (cs := #[.int .i64 (0), .slice none 0 0]) (cs' := #[Ix (x2.id), .slice p10 (x2.comps.length) c11]) (v := .agg #[Ix (x2.id), .slice p10 (x2.comps.length) c11]) rfl rfl rfl rfl rfl rfl rfl) ?_
    refine l_nil ?_
    refine f_then ?_
    refine c_region ?_
    refine l_val (v := o) rfl rfl rfl (e_move) ?_
    refine l_val (v := .agg #[Ix (x2.id), .slice p10 (x2.comps.length) c11]) rfl rfl rfl (e_load tf24 (cs := [Ix (x2.id), .slice p10 (x2.comps.length) c11]) rfl (k_pt 0 (cs := #[Ix (x2.id), .slice p10 (x2.comps.length) c11]) (vs := [Ix (x2.id), .slice p10 (x2.comps.length) c11]) rfl rfl) rfl) ?_
    refine l_mv rfl rfl rfl (m_slices tf32 tf33 (vs := [(0, .agg #[Ix (x2.id), .slice p10 (x2.comps.length) c11])]) (cells := #[Ix (x2.id), .slice p10 (x2.comps.length) c11]) rfl rfl rfl rfl) ?_
    rintro _ _ ⟨b13, rfl, rfl⟩
    refine l_mv rfl rfl rfl (m_append 3 tf32 tf72 (v := o) (m := k) (vs := (entCells vs (xs.take k))) (ad := ⟨b13, 0, none⟩) (k := 1) (c := 1) (news := [Ix (x2.id), .slice p10 (x2.comps.length) c11]) rfl rfl rfl rfl (k_pt 0 (cs := #[Ix (x2.id), .slice p10 (x2.comps.length) c11]) (vs := [Ix (x2.id), .slice p10 (x2.comps.length) c11]) rfl rfl) rfl (by unfold maxLen; omega) (by omega)) ?_
    rintro v14 _ ⟨hnv14, rfl⟩
    refine l_val (v := v14) rfl rfl rfl (e_assign) ?_
    refine l_nil ?_
    refine f_block ?_
    refine f_then ?_
    refine c_region ?_
    refine l_val (v := Nx (k)) rfl rfl rfl (e_move) ?_
    refine l_val (v := Nx (k + 1)) rfl rfl rfl (e_add (a := ((k : Nat) : Int)) (b := (1 : Int)) rfl rfl (i64n (by omega) (by omega))) ?_
    refine l_val (v := Nx (k + 1)) rfl rfl rfl (e_assign) ?_
    refine l_nil ?_
    refine f_mask (L' := (row (.slice p10 (x2.comps.length) c11) 38 5 (x2.comps.length) ((x2.comps.flatMap compE)) :: row v14 35 2 (k + 1) ((entCells vs (xs.take k)) ++ [Ix (x2.id), .slice p10 (x2.comps.length) c11]) :: (compRows vs (xs.take k)))) [false, false, true, true] rfl ?_
    refine f_perm (List.Perm.swap _ _ _) ?_
    refine f_perm (L' := (row v14 35 2 (k + 1) ((entCells vs (xs.take k)) ++ [Ix (x2.id), .slice p10 (x2.comps.length) c11]) :: (compRows (vs ++ [.slice p10 (x2.comps.length) c11]) (xs.take (k + 1))))) ((comp_rows_snoc hx3 hp2 (by omega)).cons _) ?_
    exact f_cut ⟨(k + 1, v14, (vs ++ [.slice p10 (x2.comps.length) c11])), ⟨⟨rfl, rfl, rfl⟩, (by rw [ent_cells_snoc hx3 hp2 (by omega)]), ⟨by omega, by simp; omega⟩⟩, (show xs.length - (k + 1) < xs.length - k from by omega)⟩
  ·
    refine c_exit ?_
    refine f_then_exit ?_
    refine f_then_exit ?_
    refine f_exit ?_
    refine f_then ?_
    refine c_seq ?_
    refine c_region ?_
    refine l_val (v := o) rfl rfl rfl (e_move) ?_
    refine l_val (v := o) rfl rfl rfl (e_assign) ?_
    refine l_nil ?_
    refine f_then ?_
    refine c_ret ?_
    refine ret1 Tryz.results39 (v := o) rfl ?_
    intro w hw
    rw [List.take_of_length_le (show xs.length ≤ k by omega)] at hw
    have hk : k = xs.length := by omega
    subst hk
    exact ⟨_, vs, rfl, hp2, hw⟩
end Go.Proofs

namespace Go.Proofs
open Go Go.Sl
theorem copyEntities_ok' (β : Base) (w : World) (hw : St β [] w) (v : Value) (xs : List KEnt) (hs : Sl EntR β.heap v xs) (hn : xs.length * 32 ≤ 140737488355328) (hbig : ∀ (i : Nat) e, xs[i]? = some e → e.comps.length * 40 ≤ 140737488355328) :
    Calls Tryz.prog 39 #[v] w fun r w' => ∃ p c vs, r = .returned (.slice p xs.length c) ∧ vs.length = xs.length ∧ St β (row (.slice p xs.length c) 35 2 xs.length (entCells vs xs) :: compRows vs xs) w' :=
  (copyEntities_ok β w hw v xs hs hn hbig).mono fun r w' ⟨v', vs, h1, h3, h2⟩ => by
    obtain ⟨p, c, rfl⟩ := st_form h2
    exact ⟨p, c, vs, h1, h3, h2⟩
theorem tf73 : cfB Tryz.prog 39 = true := by kernel_rfl
theorem copyWorld_ok (β : Base) (w : World) (hw : St β [] w) (x : KWorld) (v : Value) (hs : Sl EntR β.heap v x.ents) (hn : x.ents.length * 32 ≤ 140737488355328) (hbig : ∀ (i : Nat) e, x.ents[i]? = some e → e.comps.length * 40 ≤ 140737488355328) : Calls Tryz.prog 14 #[.agg #[Ix x.tick, v]] w fun r w' => ∃ p c vs, r = .returned (.agg #[Ix x.tick, .slice p x.ents.length c]) ∧ vs.length = x.ents.length ∧ St β (row (.slice p x.ents.length c) 35 2 x.ents.length (entCells vs x.ents) :: compRows vs x.ents) w' := by
  obtain ⟨va, vc, rfl, vl, vm, ve⟩ := hs.get
  refine enter (n := 8) Tryz.func14 rfl Tryz.ntmps14 rfl ?_ hw
  refine c_seq ?_
  refine c_region ?_
  refine l_mv rfl rfl rfl (m_box (v := .agg #[Ix (x.tick), .slice va (x.ents.length) (vc)]) rfl) ?_
  rintro _ _ ⟨b1, rfl, rfl⟩
  refine l_mv rfl rfl rfl (m_alloc tf49) ?_
  rintro _ _ ⟨b2, rfl, rfl⟩
  refine l_nil ?_
  refine f_then ?_
  refine c_seq ?_
  refine c_region ?_
  refine l_val (v := .pointer (some ⟨b1, 1, none⟩)) rfl rfl rfl (e_fieldPt (b := b1) (o := 0) rfl tf29) ?_
  refine l_val (v := .slice va (x.ents.length) (vc)) rfl rfl rfl (e_load1 tf30 (v := .slice va (x.ents.length) (vc)) rfl (k_pt 1 (cs := #[Ix (x.tick), .slice va (x.ents.length) (vc)]) (vs := [.slice va (x.ents.length) (vc)]) rfl rfl)) ?_
  refine l_call rfl rfl rfl (cl_value (fst := []) (cap := []) (vs := [.slice va (x.ents.length) (vc)]) (all := [.slice va (x.ents.length) (vc)]) tf73 rfl rfl rfl) ?_
  intro w hw
  obtain ⟨β1, sb, kn, hw1, back⟩ := St.frame_all hw
  refine (copyEntities_ok' β1 w hw1 _ x.ents (Sl.mono _ _ _ _ _ sb (⟨⟨_, _, rfl, vl, vm, ve⟩⟩ : Sl EntR _ _ x.ents)) (by assumption) (by assumption)).mono ?_
  rintro e w' ⟨p3, c4, vs5, rfl, hvs, hw'⟩
  refine ⟨_, rfl, _, St.perm (L' := row (.slice p3 (x.ents.length) c4) 35 2 (x.ents.length) ((entCells vs5 x.ents)) :: pt b2 (.cells #[.int .i64 (0), .slice none 0 0] 24) :: pt b1 (.cells #[Ix (x.tick), .slice va (x.ents.length) (vc)] 24) :: (compRows vs5 x.ents)) (back _ _ hw') (List.Perm.cons _ List.perm_append_comm), ?_⟩
  clear hw hw1 hw' back kn sb
  refine l_val (v := .pointer (some ⟨b1, 1, none⟩)) rfl rfl rfl (e_fieldPt (b := b1) (o := 0) rfl tf29) ?_
  refine l_mu rfl rfl (m_store 2 tf30 (b := b1) (o := 1) (T := 24) (cs := #[Ix (x.tick), .slice va (x.ents.length) (vc)]) (cs' := #[Ix (x.tick), .slice p3 (x.ents.length) c4]) (v := .slice p3 (x.ents.length) c4) rfl rfl rfl rfl rfl rfl rfl) ?_
  refine l_nil ?_
  refine f_then ?_
  refine c_seq ?_
  refine c_region ?_
  refine l_val (v := .agg #[Ix (x.tick), .slice p3 (x.ents.length) c4]) rfl rfl rfl (e_load tf46 (cs := [Ix (x.tick), .slice p3 (x.ents.length) c4]) rfl (k_pt 2 (cs := #[Ix (x.tick), .slice p3 (x.ents.length) c4]) (vs := [Ix (x.tick), .slice p3 (x.ents.length) c4]) rfl rfl) rfl) ?_
  refine l_mu rfl rfl (m_store 1 tf46 (b := b2) (o := 0) (T := 24) (cs := #[.int .i64 (0), .slice none 0 0]) (cs' := #[Ix (x.tick), .slice p3 (x.ents.length) c4]) (v := .agg #[Ix (x.tick), .slice p3 (x.ents.length) c4]) rfl rfl rfl rfl rfl rfl rfl) ?_
  refine l_nil ?_
  refine f_then ?_
  refine c_ret ?_
  refine retG (l := [.cell 2 24]) (m := [.agg #[Ix (x.tick), .slice p3 (x.ents.length) c4]]) (v := .agg #[Ix (x.tick), .slice p3 (x.ents.length) c4]) Tryz.results14 ⟨rd_cell tf46 (cs := [Ix (x.tick), .slice p3 (x.ents.length) c4]) rfl (k_pt 1 (cs := #[Ix (x.tick), .slice p3 (x.ents.length) c4]) (vs := [Ix (x.tick), .slice p3 (x.ents.length) c4]) rfl rfl) rfl, trivial⟩ rfl ?_
  intro w hw
  exact ⟨_, _, _, rfl, hvs, st_mask (L' := (row (.slice p3 (x.ents.length) c4) 35 2 (x.ents.length) ((entCells vs5 x.ents)) :: (compRows vs5 x.ents))) [true, false, false] rfl hw⟩
end Go.Proofs
