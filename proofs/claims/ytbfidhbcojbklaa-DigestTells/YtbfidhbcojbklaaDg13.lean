import Derived.Test.YtbfidhbcojbklaaDg12
namespace Go.Proofs
open Go Go.Sl
def entCells : List Value → List KEnt → List Value
  | v :: vs, e :: es => Ix e.id :: v :: entCells vs es
  | _, _ => []
def compRow (v : Value) (e : KEnt) : Res := row v 55 5 e.comps.length (e.comps.flatMap compE)
def compRows : List Value → List KEnt → List Res
  | v :: vs, e :: es => compRow v e :: compRows vs es
  | _, _ => []
theorem ent_cells_append {vs us : List Value} {es fs : List KEnt} (h : vs.length = es.length) : entCells (vs ++ us) (es ++ fs) = entCells vs es ++ entCells us fs := by
  induction vs generalizing es with
  | nil => cases es with
    | nil => rfl
    | cons e es => simp at h
  | cons v vs ih => cases es with
    | nil => simp at h
    | cons e es =>
      show Ix e.id :: v :: entCells (vs ++ us) (es ++ fs) = _
      rw [ih (by simpa using h)]; rfl
theorem comp_rows_append {vs us : List Value} {es fs : List KEnt} (h : vs.length = es.length) : compRows (vs ++ us) (es ++ fs) = compRows vs es ++ compRows us fs := by
  induction vs generalizing es with
  | nil => cases es with
    | nil => rfl
    | cons e es => simp at h
  | cons v vs ih => cases es with
    | nil => simp at h
    | cons e es =>
      show compRow v e :: compRows (vs ++ us) (es ++ fs) = _
      rw [ih (by simpa using h)]; rfl
theorem ent_cells_snoc {es : List KEnt} {k : Nat} {e : KEnt} (hx : es[k]? = some e) {vs : List Value} {v : Value} (h : vs.length = k) (hk : k ≤ es.length) : entCells (vs ++ [v]) (es.take (k + 1)) = entCells vs (es.take k) ++ [Ix e.id, v] := by
  rw [take_succ hx, ent_cells_append (by simp; omega)]; rfl
theorem comp_rows_snoc {es : List KEnt} {k : Nat} {e : KEnt} (hx : es[k]? = some e) {vs : List Value} {v : Value} (h : vs.length = k) (hk : k ≤ es.length) : (compRow v e :: compRows vs (es.take k)).Perm (compRows (vs ++ [v]) (es.take (k + 1))) := by
  rw [take_succ hx, comp_rows_append (by simp; omega)]
  exact List.perm_append_comm (l₁ := [compRow v e])
theorem tf71 : cfB Try.prog 30 = true := by kernel_rfl
theorem tf72 : elB Try.prog 33 2 32 = true := by kernel_rfl
theorem copyEntities_ok (β : Base) (w : World) (hw : St β [] w) (v : Value) (xs : List KEnt) (hs : Sl EntR β.heap v xs) (hn : xs.length * 32 ≤ 140737488355328) (hbig : ∀ (i : Nat) e, xs[i]? = some e → e.comps.length * 40 ≤ 140737488355328) : Calls Try.prog 45 #[v] w fun r w' => ∃ v' vs, r = .returned v' ∧ vs.length = xs.length ∧ St β (row v' 33 2 xs.length (entCells vs xs) :: compRows vs xs) w' := by
  obtain ⟨va, vc, rfl, vl, vm, ve⟩ := hs.get
  refine enter (n := 22) Try.func45 rfl Try.ntmps45 rfl ?_ hw
  refine c_seq ?_
  refine c_region ?_
  refine l_val (v := .slice none 0 0) rfl rfl rfl (e_assign) ?_
  refine l_nil ?_
  refine f_then ?_
  refine c_seq ?_
  refine c_region ?_
  refine l_val (v := .slice none 0 0) rfl rfl rfl (e_assign) ?_
  refine l_nil ?_
  refine f_then ?_
  refine c_seq ?_
  refine c_seq ?_
  refine c_emp (r := row (.slice none 0 0) 33 2 0 []) (row_nil _ _ _) ?_
  refine c_region ?_
  refine l_val (v := .int .i64 (0)) rfl rfl rfl (e_assign) ?_
  refine l_nil ?_
  refine f_then ?_
  refine c_block ?_
  refine c_mask [true] rfl ?_
  refine c_loop (fun (x_ : Nat × Value × List Value) (f : Fm) (L : List Res) => match x_ with | (k, o, vs) => (f 0 = .slice va (xs.length) (vc) ∧ f 3 = o ∧ f 4 = Nx (k)) ∧ L = (row o 33 2 (k) ((entCells vs (xs.take k))) :: (compRows vs (xs.take k))) ∧ (k ≤ xs.length ∧ vs.length = k)) (fun (x_ : Nat × Value × List Value) => match x_ with | (k, o, vs) => xs.length - k) (0, (.slice none 0 0), []) ?_ ?_
  · exact ⟨⟨rfl, rfl, rfl⟩, rfl, ⟨by omega, rfl⟩⟩
  rintro ⟨k, o, vs⟩ f0 L0 ⟨⟨hs0, hs3, hs4⟩, hL, ⟨hp1, hp2⟩⟩
  subst L0
  refine rebase (d := 0) hs0 ?_
  refine rebase (d := 3) hs3 ?_
  refine rebase (d := 4) hs4 ?_
  clear hs0 hs3 hs4
  refine c_seq ?_
  refine c_seq ?_
  refine c_region ?_
  refine l_val (v := Nx (k)) rfl rfl rfl (e_move) ?_
  refine l_val (v := .slice va (xs.length) (vc)) rfl rfl rfl (e_move) ?_
  refine l_val (v := Nx (xs.length)) rfl rfl rfl (e_len (a := va) (n := xs.length) (c := vc) rfl tf31) ?_
  refine l_val (v := .bool (decide (((k : Nat) : Int) < ((xs.length : Nat) : Int)))) rfl rfl rfl (e_lss (a := ((k : Nat) : Int)) (b := ((xs.length : Nat) : Int)) rfl rfl) ?_
  refine l_nil ?_
  refine f_then ?_
  refine c_if (((k : Nat) : Int) < ((xs.length : Nat) : Int)) rfl (fun hc1 => ?_) (fun hc1 => ?_)
  ·
    refine c_skip ?_
    refine f_then ?_
    refine c_seq ?_
    refine c_block ?_
    refine c_seq ?_
    refine c_region ?_
    refine l_val (v := .slice va (xs.length) (vc)) rfl rfl rfl (e_move) ?_
    refine l_val (v := Nx (k)) rfl rfl rfl (e_move) ?_
    obtain ⟨x2, hx3⟩ : ∃ x_, (xs)[k]? = some x_ := ⟨_, List.getElem?_eq_getElem (by omega)⟩
    obtain ⟨ha4, cs5, hc6, hr7⟩ := ve _ _ hx3
    obtain ⟨v8, rfl, hv9⟩ := hr7
    obtain ⟨v8a, v8c, rfl, v8l, v8m, v8e⟩ := hv9.get
    refine l_val (v := .pointer (some ((ba va).add (k * 2)))) rfl rfl rfl (e_indexAddr (k := k) (len := xs.length) (cap := vc) (a := va) rfl rfl tf32 (by omega) ha4) ?_
    refine l_val (v := .agg #[Ix (x2.id), .slice v8a (x2.comps.length) (v8c)]) rfl rfl rfl (e_load tf24 (cs := [Ix (x2.id), .slice v8a (x2.comps.length) (v8c)]) rfl (Knows.of_base (Cs.mono _ _) hc6) rfl) ?_
    refine l_call rfl rfl rfl (cl_value (fst := []) (cap := []) (vs := [.agg #[Ix (x2.id), .slice v8a (x2.comps.length) (v8c)]]) (all := [.agg #[Ix (x2.id), .slice v8a (x2.comps.length) (v8c)]]) tf71 rfl rfl rfl) ?_
    intro w hw
    obtain ⟨β1, sb, kn, hw1, back⟩ := St.frame_all hw
    refine (copyEntity_ok β1 w hw1 x2 _ (Sl.mono _ _ _ _ _ sb (⟨⟨_, _, rfl, v8l, v8m, v8e⟩⟩ : Sl CompR _ _ x2.comps)) (hbig _ _ hx3)).mono ?_
    rintro e w' ⟨p10, c11, rfl, hw'⟩
    refine ⟨_, rfl, _, back _ _ hw', ?_⟩
    clear hw hw1 hw' back kn sb
    refine l_mv rfl rfl rfl (m_alloc tf33) ?_
    rintro _ _ ⟨b12, rfl, rfl⟩
    refine l_mu rfl rfl (m_store 0 tf24 (b := b12) (o := 0) (T := 33) (cs := #[.int .i64 (0), .slice none 0 0]) (cs' := #[Ix (x2.id), .slice p10 (x2.comps.length) c11]) (v := .agg #[Ix (x2.id), .slice p10 (x2.comps.length) c11]) rfl rfl rfl rfl rfl rfl rfl) ?_
    refine l_nil ?_
    refine f_then ?_
    refine c_region ?_
    refine l_val (v := o) rfl rfl rfl (e_move) ?_
    refine l_val (v := .agg #[Ix (x2.id), .slice p10 (x2.comps.length) c11]) rfl rfl rfl (e_load tf24 (cs := [Ix (x2.id), .slice p10 (x2.comps.length) c11]) rfl (k_pt 0 (cs := #[Ix (x2.id), .slice p10 (x2.comps.length) c11]) (vs := [Ix (x2.id), .slice p10 (x2.comps.length) c11]) rfl rfl) rfl) ?_
    refine l_mv rfl rfl rfl (m_slices tf32 tf33 (vs := [(0, .agg #[Ix (x2.id), .slice p10 (x2.comps.length) c11])]) (cells := #[Ix (x2.id), .slice p10 (x2.comps.length) c11]) rfl rfl rfl rfl) ?_
    rintro _ _ ⟨b13, rfl, rfl⟩
    refine l_mv rfl rfl rfl (m_append 3 tf32 tf72 (v := o) (m := k) (vs := (entCells vs (xs.take k))) (ad := ⟨b13, 0, none⟩) (k := 1) (c := 1) (news := [Ix (x2.id), .slice p10 (x2.comps.length) c11]) rfl rfl rfl rfl (k_pt 0 (cs := #[Ix (x2.id), .slice p10 (x2.comps.length) c11]) (vs := [Ix (x2.id), .slice p10 (x2.comps.length) c11]) rfl rfl) rfl (by unfold maxLen; omega) (by omega)) ?_
    rintro v14 _ ⟨hnv14, rfl⟩
    refine l_val (v := v14) rfl rfl rfl (e_assign) ?_
    refine l_nil ?_
    refine f_block ?_
    refine f_then ?_
    refine c_region ?_
    refine l_val (v := Nx (k)) rfl rfl rfl (e_move) ?_
    refine l_val (v := Nx (k + 1)) rfl rfl rfl (e_add (a := ((k : Nat) : Int)) (b := (1 : Int)) rfl rfl (i64n (by omega) (by omega))) ?_
    refine l_val (v := Nx (k + 1)) rfl rfl rfl (e_assign) ?_
    refine l_nil ?_
    refine f_mask (L' := (row (.slice p10 (x2.comps.length) c11) 55 5 (x2.comps.length) ((x2.comps.flatMap compE)) :: row v14 33 2 (k + 1) ((entCells vs (xs.take k)) ++ [Ix (x2.id), .slice p10 (x2.comps.length) c11]) :: (compRows vs (xs.take k)))) [false, false, true, true] rfl ?_
    refine f_perm (List.Perm.swap _ _ _) ?_
    refine f_perm (L' := (row v14 33 2 (k + 1) ((entCells vs (xs.take k)) ++ [Ix (x2.id), .slice p10 (x2.comps.length) c11]) :: (compRows (vs ++ [.slice p10 (x2.comps.length) c11]) (xs.take (k + 1))))) ((comp_rows_snoc hx3 hp2 (by omega)).cons _) ?_
    exact f_cut ⟨(k + 1, v14, (vs ++ [.slice p10 (x2.comps.length) c11])), ⟨⟨rfl, rfl, rfl⟩, (by rw [ent_cells_snoc hx3 hp2 (by omega)]), ⟨by omega, by simp; omega⟩⟩, (show xs.length - (k + 1) < xs.length - k from by omega)⟩
  ·
    refine c_exit ?_
    refine f_then_exit ?_
    refine f_then_exit ?_
    refine f_exit ?_
    refine f_then ?_
    refine c_seq ?_
    refine c_region ?_
    refine l_val (v := o) rfl rfl rfl (e_move) ?_
    refine l_val (v := o) rfl rfl rfl (e_assign) ?_
    refine l_nil ?_
    refine f_then ?_
    refine c_ret ?_
    refine ret1 Try.results45 (v := o) rfl ?_
    intro w hw
    rw [List.take_of_length_le (show xs.length ≤ k by omega)] at hw
    have hk : k = xs.length := by omega
    subst hk
    exact ⟨_, vs, rfl, hp2, hw⟩
end Go.Proofs
