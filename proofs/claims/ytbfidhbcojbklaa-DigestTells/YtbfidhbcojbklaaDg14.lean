import Derived.Test.YtbfidhbcojbklaaDg13
namespace Go.Proofs
open Go Go.Sl
theorem copyEntities_ok' (β : Base) (w : World) (hw : St β [] w) (v : Value) (xs : List KEnt) (hs : Sl EntR β.heap v xs) (hn : xs.length * 32 ≤ 140737488355328) (hbig : ∀ (i : Nat) e, xs[i]? = some e → e.comps.length * 40 ≤ 140737488355328) :
    Calls Try.prog 45 #[v] w fun r w' => ∃ p c vs, r = .returned (.slice p xs.length c) ∧ vs.length = xs.length ∧ St β (row (.slice p xs.length c) 33 2 xs.length (entCells vs xs) :: compRows vs xs) w' :=
  (copyEntities_ok β w hw v xs hs hn hbig).mono fun r w' ⟨v', vs, h1, h3, h2⟩ => by
    obtain ⟨p, c, rfl⟩ := st_form h2
    exact ⟨p, c, vs, h1, h3, h2⟩
theorem tf73 : cfB Try.prog 45 = true := by kernel_rfl
theorem copyWorld_ok (β : Base) (w : World) (hw : St β [] w) (x : KWorld) (v : Value) (hs : Sl EntR β.heap v x.ents) (hn : x.ents.length * 32 ≤ 140737488355328) (hbig : ∀ (i : Nat) e, x.ents[i]? = some e → e.comps.length * 40 ≤ 140737488355328) : Calls Try.prog 29 #[.agg #[Ix x.tick, v]] w fun r w' => ∃ p c vs, r = .returned (.agg #[Ix x.tick, .slice p x.ents.length c]) ∧ vs.length = x.ents.length ∧ St β (row (.slice p x.ents.length c) 33 2 x.ents.length (entCells vs x.ents) :: compRows vs x.ents) w' := by
  obtain ⟨va, vc, rfl, vl, vm, ve⟩ := hs.get
  refine enter (n := 8) Try.func29 rfl Try.ntmps29 rfl ?_ hw
  refine c_seq ?_
  refine c_region ?_
  refine l_mv rfl rfl rfl (m_box (v := .agg #[Ix (x.tick), .slice va (x.ents.length) (vc)]) rfl) ?_
  rintro _ _ ⟨b1, rfl, rfl⟩
  refine l_mv rfl rfl rfl (m_alloc tf49) ?_
  rintro _ _ ⟨b2, rfl, rfl⟩
  refine l_nil ?_
  refine f_then ?_
  refine c_seq ?_
  refine c_region ?_
  refine l_val (v := .pointer (some ⟨b1, 1, none⟩)) rfl rfl rfl (e_fieldPt (b := b1) (o := 0) rfl tf29) ?_
  refine l_val (v := .slice va (x.ents.length) (vc)) rfl rfl rfl (e_load1 tf30 (v := .slice va (x.ents.length) (vc)) rfl (k_pt 1 (cs := #[Ix (x.tick), .slice va (x.ents.length) (vc)]) (vs := [.slice va (x.ents.length) (vc)]) rfl rfl)) ?_
  refine l_call rfl rfl rfl (cl_value (fst := []) (cap := []) (vs := [.slice va (x.ents.length) (vc)]) (all := [.slice va (x.ents.length) (vc)]) tf73 rfl rfl rfl) ?_
  intro w hw
  obtain ⟨β1, sb, kn, hw1, back⟩ := St.frame_all hw
  refine (copyEntities_ok' β1 w hw1 _ x.ents (Sl.mono _ _ _ _ _ sb (⟨⟨_, _, rfl, vl, vm, ve⟩⟩ : Sl EntR _ _ x.ents)) (by assumption) (by assumption)).mono ?_
  rintro e w' ⟨p3, c4, vs5, rfl, hvs, hw'⟩
  refine ⟨_, rfl, _, St.perm (L' := row (.slice p3 (x.ents.length) c4) 33 2 (x.ents.length) ((entCells vs5 x.ents)) :: pt b2 (.cells #[.int .i64 (0), .slice none 0 0] 24) :: pt b1 (.cells #[Ix (x.tick), .slice va (x.ents.length) (vc)] 24) :: (compRows vs5 x.ents)) (back _ _ hw') (List.Perm.cons _ List.perm_append_comm), ?_⟩
  clear hw hw1 hw' back kn sb
  refine l_val (v := .pointer (some ⟨b1, 1, none⟩)) rfl rfl rfl (e_fieldPt (b := b1) (o := 0) rfl tf29) ?_
  refine l_mu rfl rfl (m_store 2 tf30 (b := b1) (o := 1) (T := 24) (cs := #[Ix (x.tick), .slice va (x.ents.length) (vc)]) (cs' := #[Ix (x.tick), .slice p3 (x.ents.length) c4]) (v := .slice p3 (x.ents.length) c4) rfl rfl rfl rfl rfl rfl rfl) ?_
  refine l_nil ?_
  refine f_then ?_
  refine c_seq ?_
  refine c_region ?_
  refine l_val (v := .agg #[Ix (x.tick), .slice p3 (x.ents.length) c4]) rfl rfl rfl (e_load tf46 (cs := [Ix (x.tick), .slice p3 (x.ents.length) c4]) rfl (k_pt 2 (cs := #[Ix (x.tick), .slice p3 (x.ents.length) c4]) (vs := [Ix (x.tick), .slice p3 (x.ents.length) c4]) rfl rfl) rfl) ?_
  refine l_mu rfl rfl (m_store 1 tf46 (b := b2) (o := 0) (T := 24) (cs := #[.int .i64 (0), .slice none 0 0]) (cs' := #[Ix (x.tick), .slice p3 (x.ents.length) c4]) (v := .agg #[Ix (x.tick), .slice p3 (x.ents.length) c4]) rfl rfl rfl rfl rfl rfl rfl) ?_
  refine l_nil ?_
  refine f_then ?_
  refine c_ret ?_
  refine retG (l := [.cell 2 24]) (m := [.agg #[Ix (x.tick), .slice p3 (x.ents.length) c4]]) (v := .agg #[Ix (x.tick), .slice p3 (x.ents.length) c4]) Try.results29 ⟨rd_cell tf46 (cs := [Ix (x.tick), .slice p3 (x.ents.length) c4]) rfl (k_pt 1 (cs := #[Ix (x.tick), .slice p3 (x.ents.length) c4]) (vs := [Ix (x.tick), .slice p3 (x.ents.length) c4]) rfl rfl) rfl, trivial⟩ rfl ?_
  intro w hw
  exact ⟨_, _, _, rfl, hvs, st_mask (L' := (row (.slice p3 (x.ents.length) c4) 33 2 (x.ents.length) ((entCells vs5 x.ents)) :: (compRows vs5 x.ents))) [true, false, false] rfl hw⟩
end Go.Proofs
