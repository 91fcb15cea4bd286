import Derived.Test.YtbfidhbcojbklaaDg11
namespace Go.Proofs
open Go Go.Sl
theorem st_form {β : Base} {L : List Res} {w : World} {v : Value} {T k m : Nat} {vs : List Value} (h : St β (row v T k m vs :: L) w) : ∃ p c, v = .slice p m c := by
  obtain ⟨_, _, _, a, _, _, _, hL⟩ := h
  obtain ⟨a1, _, hr⟩ := hL.each _ (List.mem_cons_self)
  exact row_form hr
theorem copyComps_ok' (β : Base) (w : World) (hw : St β [] w) (v : Value) (xs : List KComp) (hs : Sl CompR β.heap v xs) (hn : xs.length * 40 ≤ 140737488355328) :
    Calls Try.prog 46 #[v] w fun r w' => ∃ p c, r = .returned (.slice p xs.length c) ∧ St β [row (.slice p xs.length c) 55 5 xs.length (xs.flatMap compE)] w' :=
  (copyComps_ok β w hw v xs hs hn).mono fun r w' ⟨v', h1, h2⟩ => by
    obtain ⟨p, c, rfl⟩ := st_form h2
    exact ⟨p, c, h1, h2⟩
def sla : Value → Option Addr
  | .slice a _ _ => a
  | _ => none
def slc : Value → Nat
  | .slice _ _ c => c
  | _ => 0
theorem tf70 : cfB Try.prog 46 = true := by kernel_rfl
theorem copyEntity_ok (β : Base) (w : World) (hw : St β [] w) (e : KEnt) (v : Value) (hs : Sl CompR β.heap v e.comps) (hn : e.comps.length * 40 ≤ 140737488355328) : Calls Try.prog 30 #[.agg #[Ix e.id, v]] w fun r w' => ∃ p c, r = .returned (.agg #[Ix e.id, .slice p e.comps.length c]) ∧ St β [row (.slice p e.comps.length c) 55 5 e.comps.length (e.comps.flatMap compE)] w' := by
  obtain ⟨va, vc, rfl, vl, vm, ve⟩ := hs.get
  refine enter (n := 8) Try.func30 rfl Try.ntmps30 rfl ?_ hw
  refine c_seq ?_
  refine c_region ?_
  refine l_mv rfl rfl rfl (m_box (v := .agg #[Ix (e.id), .slice va (e.comps.length) (vc)]) rfl) ?_
  rintro _ _ ⟨b1, rfl, rfl⟩
  refine l_mv rfl rfl rfl (m_alloc tf33) ?_
  rintro _ _ ⟨b2, rfl, rfl⟩
  refine l_nil ?_
  refine f_then ?_
  refine c_seq ?_
  refine c_region ?_
  refine l_val (v := .pointer (some ⟨b1, 1, none⟩)) rfl rfl rfl (e_fieldPt (b := b1) (o := 0) rfl tf11) ?_
  refine l_val (v := .slice va (e.comps.length) (vc)) rfl rfl rfl (e_load1 tf12 (v := .slice va (e.comps.length) (vc)) rfl (k_pt 1 (cs := #[Ix (e.id), .slice va (e.comps.length) (vc)]) (vs := [.slice va (e.comps.length) (vc)]) rfl rfl)) ?_
  refine l_call rfl rfl rfl (cl_value (fst := []) (cap := []) (vs := [.slice va (e.comps.length) (vc)]) (all := [.slice va (e.comps.length) (vc)]) tf70 rfl rfl rfl) ?_
  intro w hw
  obtain ⟨β1, sb, kn, hw1, back⟩ := St.frame_all hw
  refine (copyComps_ok' β1 w hw1 _ e.comps (Sl.mono _ _ _ _ _ sb (⟨⟨_, _, rfl, vl, vm, ve⟩⟩ : Sl CompR _ _ e.comps)) (by assumption)).mono ?_
  rintro e w' ⟨p3, c4, rfl, hw'⟩
  refine ⟨_, rfl, _, back _ _ hw', ?_⟩
  clear hw hw1 hw' back kn sb
  refine l_val (v := .pointer (some ⟨b1, 1, none⟩)) rfl rfl rfl (e_fieldPt (b := b1) (o := 0) rfl tf11) ?_
  refine l_mu rfl rfl (m_store 2 tf12 (b := b1) (o := 1) (T := 33) (cs := #[Ix (e.id), .slice va (e.comps.length) (vc)]) (cs' := #[Ix (e.id), .slice p3 (e.comps.length) c4]) (v := .slice p3 (e.comps.length) c4) rfl rfl rfl rfl rfl rfl rfl) ?_
  refine l_nil ?_
  refine f_then ?_
  refine c_seq ?_
  refine c_region ?_
  refine l_val (v := .agg #[Ix (e.id), .slice p3 (e.comps.length) c4]) rfl rfl rfl (e_load tf24 (cs := [Ix (e.id), .slice p3 (e.comps.length) c4]) rfl (k_pt 2 (cs := #[Ix (e.id), .slice p3 (e.comps.length) c4]) (vs := [Ix (e.id), .slice p3 (e.comps.length) c4]) rfl rfl) rfl) ?_
  refine l_mu rfl rfl (m_store 1 tf24 (b := b2) (o := 0) (T := 33) (cs := #[.int .i64 (0), .slice none 0 0]) (cs' := #[Ix (e.id), .slice p3 (e.comps.length) c4]) (v := .agg #[Ix (e.id), .slice p3 (e.comps.length) c4]) rfl rfl rfl rfl rfl rfl rfl) ?_
  refine l_nil ?_
  refine f_then ?_
  refine c_ret ?_
  refine retG (l := [.cell 2 33]) (m := [.agg #[Ix (e.id), .slice p3 (e.comps.length) c4]]) (v := .agg #[Ix (e.id), .slice p3 (e.comps.length) c4]) Try.results30 ⟨rd_cell tf24 (cs := [Ix (e.id), .slice p3 (e.comps.length) c4]) rfl (k_pt 1 (cs := #[Ix (e.id), .slice p3 (e.comps.length) c4]) (vs := [Ix (e.id), .slice p3 (e.comps.length) c4]) rfl rfl) rfl, trivial⟩ rfl ?_
  intro w hw
  exact ⟨_, _, rfl, st_mask [true, false, false] rfl hw⟩
end Go.Proofs
