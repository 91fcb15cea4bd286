import Derived.Test.YtbfidhbcojbklaaDg2
import Derived.Test.YtbfidhbcojbklaaSlBuild
namespace Go.Proofs
open Go Go.Sl
def entU (e : KEnt) : UInt64 := seqU (wordsE e)
theorem tf22 : cfB Try.prog 33 = true := by kernel_rfl
theorem tf23 : cfB Try.prog 32 = true := by kernel_rfl
theorem tf24 : tyB Try.prog 33 true 2 = true := by kernel_rfl
theorem tf25 : cfB Try.prog 37 = true := by kernel_rfl
theorem name_ok (β : Base) (w : World) (hw : St β [] w) (s : ByteArray) (hs : s.size ≤ 9223372036854775807) : Calls Try.prog 13 #[.string s] w fun e w' => e = .returned (Ux (seqU (wordsB s))) ∧ St β [] w' := by
  refine enter (n := 6) Try.func13 rfl Try.ntmps13 rfl ?_ hw
  refine c_seq ?_
  refine c_region ?_
  refine l_val (v := .int .u64 (0)) rfl rfl rfl (e_assign) ?_
  refine l_nil ?_
  refine f_then ?_
  refine c_seq ?_
  refine c_region ?_
  refine l_val (v := .string (s)) rfl rfl rfl (e_move) ?_
  refine l_call rfl rfl rfl (cl_value (fst := []) (cap := []) (vs := [.string (s)]) (all := [.string (s)]) tf22 rfl rfl rfl) ?_
  intro w hw
  obtain ⟨β1, sb, kn, hw1, back⟩ := St.frame_all hw
  refine (bytes_ok β1 w hw1 s).mono ?_
  rintro e w' ⟨b1, rfl, hw'⟩
  refine ⟨_, rfl, _, back _ _ hw', ?_⟩
  clear hw hw1 hw' back kn sb
  refine l_call rfl rfl rfl (cl_value (fst := []) (cap := []) (vs := [.func (.func 49) #[] #[.pointer (some ⟨b1, 0, none⟩)]]) (all := [.func (.func 49) #[] #[.pointer (some ⟨b1, 0, none⟩)]]) tf23 rfl rfl rfl) ?_
  intro w hw
  obtain ⟨β1, sb, kn, hw1, back⟩ := St.frame_all hw
  have hsq := bytes_seq β1 b1 s (kn _ (k_pt 0 (cs := #[.string (s)]) (vs := [.string (s)]) rfl rfl)) (by omega)
  refine (sequence_ok β1 w hw1 _ (wordsB s) hsq).mono ?_
  rintro e w' ⟨rfl, hw'⟩
  refine ⟨_, rfl, _, back _ _ hw', ?_⟩
  clear hw hw1 hw' back kn sb
  refine l_val (v := Ux (seqU (wordsB s))) rfl rfl rfl (e_assign) ?_
  refine l_nil ?_
  refine f_then ?_
  refine c_ret ?_
  refine ret1 Try.results13 (v := Ux (seqU (wordsB s))) rfl ?_
  intro w hw
  exact ⟨rfl, st_mask [false] rfl hw⟩
theorem entity_ok (β : Base) (w : World) (hw : St β [] w) (e : KEnt) (v : Value) (hs : Sl CompR β.heap v e.comps) : Calls Try.prog 20 #[.agg #[Ix e.id, v]] w fun r w' => r = .returned (Ux (entU e)) ∧ St β [] w' := by
  obtain ⟨va, vc, rfl, vl, vm, ve⟩ := hs.get
  refine enter (n := 6) Try.func20 rfl Try.ntmps20 rfl ?_ hw
  refine c_seq ?_
  refine c_region ?_
  refine l_mv rfl rfl rfl (m_box (v := .agg #[Ix (e.id), .slice va (e.comps.length) (vc)]) rfl) ?_
  rintro _ _ ⟨b1, rfl, rfl⟩
  refine l_val (v := .int .u64 (0)) rfl rfl rfl (e_assign) ?_
  refine l_nil ?_
  refine f_then ?_
  refine c_seq ?_
  refine c_region ?_
  refine l_val (v := .agg #[Ix (e.id), .slice va (e.comps.length) (vc)]) rfl rfl rfl (e_load tf24 (cs := [Ix (e.id), .slice va (e.comps.length) (vc)]) rfl (k_pt 0 (cs := #[Ix (e.id), .slice va (e.comps.length) (vc)]) (vs := [Ix (e.id), .slice va (e.comps.length) (vc)]) rfl rfl) rfl) ?_
  refine l_call rfl rfl rfl (cl_value (fst := []) (cap := []) (vs := [.agg #[Ix (e.id), .slice va (e.comps.length) (vc)]]) (all := [.agg #[Ix (e.id), .slice va (e.comps.length) (vc)]]) tf25 rfl rfl rfl) ?_
  intro w hw
  obtain ⟨β1, sb, kn, hw1, back⟩ := St.frame_all hw
  refine (numbers_ok β1 w hw1 e (.slice va (e.comps.length) (vc))).mono ?_
  rintro e w' ⟨b2, rfl, hw'⟩
  refine ⟨_, rfl, _, back _ _ hw', ?_⟩
  clear hw hw1 hw' back kn sb
  refine l_call rfl rfl rfl (cl_value (fst := []) (cap := []) (vs := [.func (.func 50) #[] #[.pointer (some ⟨b2, 0, none⟩)]]) (all := [.func (.func 50) #[] #[.pointer (some ⟨b2, 0, none⟩)]]) tf23 rfl rfl rfl) ?_
  intro w hw
  obtain ⟨β1, sb, kn, hw1, back⟩ := St.frame_all hw
  have hsq := numbers_seq β1 b2 e _ (kn _ (k_pt 0 (cs := #[Ix (e.id), .slice va (e.comps.length) (vc)]) (vs := [Ix (e.id), .slice va (e.comps.length) (vc)]) rfl rfl)) ((Sl.mono _ _ _ _ _ sb (⟨⟨_, _, rfl, vl, vm, ve⟩⟩ : Sl CompR _ _ e.comps)))
  refine (sequence_ok β1 w hw1 _ (wordsE e) hsq).mono ?_
  rintro e w' ⟨rfl, hw'⟩
  refine ⟨_, rfl, _, back _ _ hw', ?_⟩
  clear hw hw1 hw' back kn sb
  refine l_val (v := Ux (seqU (wordsE e))) rfl rfl rfl (e_assign) ?_
  refine l_nil ?_
  refine f_then ?_
  refine c_ret ?_
  refine ret1 Try.results20 (v := Ux (seqU (wordsE e))) rfl ?_
  intro w hw
  exact ⟨rfl, st_mask [false, false] rfl hw⟩
end Go.Proofs
