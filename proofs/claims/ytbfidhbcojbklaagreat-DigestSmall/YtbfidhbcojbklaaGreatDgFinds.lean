/-
  Own work; plain Lean (DgFinds).
-/
import Derived.Test.YtbfidhbcojbklaaGreatDgApartI
namespace Go.Proofs
open Go Go.Sl
theorem tf232 : cfB Tryz.prog 9 = true := by kernel_rfl
theorem tf233 : cfB Tryz.prog 11 = true := by kernel_rfl
set_option maxHeartbeats 4000000 in
theorem finds_ok (β : Base) (w : World) (hw : St β [] w) (x y : KWorld) (v v' : Value) (hs : Sl EntR β.heap v x.ents) (hs' : Sl EntR β.heap v' y.ents) (hxn : x.ents.length * 32 ≤ 140737488355328) (hxbig : ∀ (i : Nat) e, x.ents[i]? = some e → e.comps.length * 40 ≤ 140737488355328) (hyn : y.ents.length * 32 ≤ 140737488355328) (hybig : ∀ (i : Nat) e, y.ents[i]? = some e → e.comps.length * 40 ≤ 140737488355328) : Calls Tryz.prog 3 #[.agg #[Ix x.tick, v], .agg #[Ix y.tick, v']] w fun r w' => r = .returned (.bool true) ∧ St β [] w' := by
  obtain ⟨va, vc, rfl, vl, vm, ve⟩ := hs.get
  obtain ⟨v'a, v'c, rfl, v'l, v'm, v'e⟩ := hs'.get
  refine enter (n := 54) Tryz.func3 rfl Tryz.ntmps3 rfl ?_ hw
  refine c_seq ?_
  refine c_region ?_
  refine l_mv rfl rfl rfl (m_box (v := .agg #[Ix (x.tick), .slice va (x.ents.length) (vc)]) rfl) ?_
  rintro _ _ ⟨b1, rfl, rfl⟩
  refine l_mv rfl rfl rfl (m_box (v := .agg #[Ix (y.tick), .slice v'a (y.ents.length) (v'c)]) rfl) ?_
  rintro _ _ ⟨b2, rfl, rfl⟩
  refine l_val (v := .bool false) rfl rfl rfl (e_assign) ?_
  refine l_nil ?_
  refine f_then ?_
  refine c_seq ?_
  refine c_any [⟨[], [], [0], [9], fun f => f 9 = .agg #[Ix (x.tick), .slice va (x.ents.length) (vc)]⟩, ⟨[0], [0], [], [10], fun f => f 10 = .agg #[Ix (x.tick), .slice (sla (prt 1 (f 10))) ((fewE x.ents).length) (slc (prt 1 (f 10)))]⟩, ⟨[], [], [1], [11], fun f => f 11 = .agg #[Ix (y.tick), .slice v'a (y.ents.length) (v'c)]⟩, ⟨[0, 1, 2], [2], [], [12], fun f => f 12 = .agg #[Ix (y.tick), .slice (sla (prt 1 (f 12))) ((fewE y.ents).length) (slc (prt 1 (f 12)))]⟩, ⟨[0, 1, 2, 3], [1], [0], [], fun _ => True⟩, ⟨[0, 1, 2, 3, 4], [3], [1], [], fun _ => True⟩] [⟨none, (some 5), [2, 5], [], fun _ => pt b2 (.cells #[Ix (y.tick), .slice v'a (y.ents.length) (v'c)] 24)⟩, ⟨none, (some 4), [0, 4], [], fun _ => pt b1 (.cells #[Ix (x.tick), .slice va (x.ents.length) (vc)] 24)⟩, ⟨(some 1), none, [], [10], fun f => (fun h => Sl EntR h (.slice (sla (prt 1 (f 10))) ((fewE x.ents).length) (slc (prt 1 (f 10)))) (fewE x.ents))⟩, ⟨(some 3), none, [], [12], fun f => (fun h => Sl EntR h (.slice (sla (prt 1 (f 12))) ((fewE y.ents).length) (slc (prt 1 (f 12)))) (fewE y.ents))⟩, ⟨(some 4), none, [], [10], fun f => pt b1 (.cells #[Ix (x.tick), .slice (sla (prt 1 (f 10))) ((fewE x.ents).length) (slc (prt 1 (f 10)))] 24)⟩, ⟨(some 5), none, [], [12], fun f => pt b2 (.cells #[Ix (y.tick), .slice (sla (prt 1 (f 12))) ((fewE y.ents).length) (slc (prt 1 (f 12)))] 24)⟩] [(2, .pointer (some ⟨b1, 0, none⟩)), (3, .pointer (some ⟨b2, 0, none⟩))] [0, 1] [] (by kernel_rfl) (by kernel_rfl) (by kernel_rfl) (by kernel_rfl) rfl ⟨rfl, rfl, trivial⟩ ⟨?_, ?_, ?_, ?_, ?_, ?_, trivial⟩ ?_
  · rintro f M - ⟨i0, -⟩
    have hs2 : f 2 = .pointer (some ⟨b1, 0, none⟩) := i0
    refine ob_start (L' := pt b1 (.cells #[Ix (x.tick), .slice va (x.ents.length) (vc)] 24) :: M) (by rfl) (up_cons rfl hs2) ?_
    refine l_val (v := .agg #[Ix (x.tick), .slice va (x.ents.length) (vc)]) rfl rfl rfl (e_load tf46 (cs := [Ix (x.tick), .slice va (x.ents.length) (vc)]) rfl (k_pt 0 (cs := #[Ix (x.tick), .slice va (x.ents.length) (vc)]) (vs := [Ix (x.tick), .slice va (x.ents.length) (vc)]) rfl rfl) rfl) ?_
    refine l_nil ?_
    exact f_owes_d (up_cons rfl hs2) rfl (perm_front 0 rfl)
  · rintro f M ⟨k0, -⟩ -
    have hs9 : f 9 = .agg #[Ix (x.tick), .slice va (x.ents.length) (vc)] := k0
    refine ob_start (L' := M) (by rfl) (up_cons rfl hs9) ?_
    refine l_call rfl rfl rfl (cl_value (fst := []) (cap := []) (vs := [.agg #[Ix (x.tick), .slice va (x.ents.length) (vc)]]) (all := [.agg #[Ix (x.tick), .slice va (x.ents.length) (vc)]]) tf75 rfl rfl rfl) ?_
    intro w hw
    obtain ⟨β1, sb, kn, hw1, back⟩ := St.frame_all hw
    refine (few_ok' β1 w hw1 x _ (Sl.mono _ _ _ _ _ sb (⟨⟨_, _, rfl, vl, vm, ve⟩⟩ : Sl EntR _ _ x.ents)) hxn hxbig).mono ?_
    rintro e w' ⟨p5, c6, rfl, hw'⟩
    refine ⟨_, rfl, _, back _ _ hw', ?_⟩
    clear hw hw1 hw' back kn sb
    refine l_nil ?_
    exact f_owes_d (up_cons rfl hs9) rfl (perm_front 0 rfl)
  · rintro f M - ⟨i0, -⟩
    have hs3 : f 3 = .pointer (some ⟨b2, 0, none⟩) := i0
    refine ob_start (L' := pt b2 (.cells #[Ix (y.tick), .slice v'a (y.ents.length) (v'c)] 24) :: M) (by rfl) (up_cons rfl hs3) ?_
    refine l_val (v := .agg #[Ix (y.tick), .slice v'a (y.ents.length) (v'c)]) rfl rfl rfl (e_load tf46 (cs := [Ix (y.tick), .slice v'a (y.ents.length) (v'c)]) rfl (k_pt 0 (cs := #[Ix (y.tick), .slice v'a (y.ents.length) (v'c)]) (vs := [Ix (y.tick), .slice v'a (y.ents.length) (v'c)]) rfl rfl) rfl) ?_
    refine l_nil ?_
    exact f_owes_d (up_cons rfl hs3) rfl (perm_front 0 rfl)
  · rintro f M ⟨k0, -⟩ -
    have hs11 : f 11 = .agg #[Ix (y.tick), .slice v'a (y.ents.length) (v'c)] := k0
    refine ob_start (L' := M) (by rfl) (up_cons rfl hs11) ?_
    refine l_call rfl rfl rfl (cl_value (fst := []) (cap := []) (vs := [.agg #[Ix (y.tick), .slice v'a (y.ents.length) (v'c)]]) (all := [.agg #[Ix (y.tick), .slice v'a (y.ents.length) (v'c)]]) tf75 rfl rfl rfl) ?_
    intro w hw
    obtain ⟨β1, sb, kn, hw1, back⟩ := St.frame_all hw
    refine (few_ok' β1 w hw1 y _ (Sl.mono _ _ _ _ _ sb (⟨⟨_, _, rfl, v'l, v'm, v'e⟩⟩ : Sl EntR _ _ y.ents)) hyn hybig).mono ?_
    rintro e w' ⟨p9, c10, rfl, hw'⟩
    refine ⟨_, rfl, _, back _ _ hw', ?_⟩
    clear hw hw1 hw' back kn sb
    refine l_nil ?_
    exact f_owes_d (up_cons rfl hs11) rfl (perm_front 0 rfl)
  · rintro f M ⟨k0, -⟩ ⟨i0, -⟩
    have hs2 : f 2 = .pointer (some ⟨b1, 0, none⟩) := i0
    have hs10 : f 10 = .agg #[Ix (x.tick), .slice (sla (prt 1 (f 10))) ((fewE x.ents).length) (slc (prt 1 (f 10)))] := k0
    refine ob_start (L' := pt b1 (.cells #[Ix (x.tick), .slice va (x.ents.length) (vc)] 24) :: M) (by rfl) (up_cons (up_cons rfl hs2) hs10) ?_
    refine l_mu rfl rfl (m_store 0 tf46 (b := b1) (o := 0) (T := 24) (cs := #[Ix (x.tick), .slice va (x.ents.length) (vc)]) (cs' := #[Ix (x.tick), .slice (sla (prt 1 (f 10))) ((fewE x.ents).length) (slc (prt 1 (f 10)))]) (v := .agg #[Ix (x.tick), .slice (sla (prt 1 (f 10))) ((fewE x.ents).length) (slc (prt 1 (f 10)))]) rfl rfl rfl rfl rfl rfl rfl) ?_
    refine l_nil ?_
    exact f_owes_n (up_cons (up_cons rfl hs2) hs10) trivial (perm_front 0 rfl)
  · rintro f M ⟨k0, -⟩ ⟨i0, -⟩
    have hs3 : f 3 = .pointer (some ⟨b2, 0, none⟩) := i0
    have hs12 : f 12 = .agg #[Ix (y.tick), .slice (sla (prt 1 (f 12))) ((fewE y.ents).length) (slc (prt 1 (f 12)))] := k0
    refine ob_start (L' := pt b2 (.cells #[Ix (y.tick), .slice v'a (y.ents.length) (v'c)] 24) :: M) (by rfl) (up_cons (up_cons rfl hs3) hs12) ?_
    refine l_mu rfl rfl (m_store 0 tf46 (b := b2) (o := 0) (T := 24) (cs := #[Ix (y.tick), .slice v'a (y.ents.length) (v'c)]) (cs' := #[Ix (y.tick), .slice (sla (prt 1 (f 12))) ((fewE y.ents).length) (slc (prt 1 (f 12)))]) (v := .agg #[Ix (y.tick), .slice (sla (prt 1 (f 12))) ((fewE y.ents).length) (slc (prt 1 (f 12)))]) rfl rfl rfl rfl rfl rfl rfl) ?_
    refine l_nil ?_
    exact f_owes_n (up_cons (up_cons rfl hs3) hs12) trivial (perm_front 0 rfl)
  rintro fa11 ⟨-, -, -, -, -, -, -⟩ ⟨j0, j1, -⟩
  refine f_re (L' := [(fun h => Sl EntR h (.slice (sla (prt 1 (fa11 10))) ((fewE x.ents).length) (slc (prt 1 (fa11 10)))) (fewE x.ents)), (fun h => Sl EntR h (.slice (sla (prt 1 (fa11 12))) ((fewE y.ents).length) (slc (prt 1 (fa11 12)))) (fewE y.ents)), pt b1 (.cells #[Ix (x.tick), .slice (sla (prt 1 (fa11 10))) ((fewE x.ents).length) (slc (prt 1 (fa11 10)))] 24), pt b2 (.cells #[Ix (y.tick), .slice (sla (prt 1 (fa11 12))) ((fewE y.ents).length) (slc (prt 1 (fa11 12)))] 24)]) (by rfl) ?_
  refine f_rebase (d := 2) (v := .pointer (some ⟨b1, 0, none⟩)) j0 ?_
  refine f_rebase (d := 3) (v := .pointer (some ⟨b2, 0, none⟩)) j1 ?_
  refine f_then ?_
  refine c_seq ?_
  generalize (sla (prt 1 (fa11 10))) = fp_esa
  generalize (slc (prt 1 (fa11 10))) = fc_esa
  generalize (sla (prt 1 (fa11 12))) = fp_esb
  generalize (slc (prt 1 (fa11 12))) = fc_esb
  refine c_perm (L' := [(fun h => Sl EntR h (.slice fp_esa ((fewE x.ents).length) fc_esa) (fewE x.ents)), (fun h => Sl EntR h (.slice fp_esb ((fewE y.ents).length) fc_esb) (fewE y.ents)), pt b1 (.cells #[Ix (x.tick), .slice fp_esa ((fewE x.ents).length) fc_esa] 24), pt b2 (.cells #[Ix (y.tick), .slice fp_esb ((fewE y.ents).length) fc_esb] 24)]) ((((perm_front 3 rfl).trans (perm_front 3 rfl)).trans (perm_front 3 rfl)).trans (perm_front 3 rfl)) ?_
  refine c_perm (L' := [(fun h => Sl EntR h (.slice fp_esb ((fewE y.ents).length) fc_esb) (fewE y.ents)), pt b1 (.cells #[Ix (x.tick), .slice fp_esa ((fewE x.ents).length) fc_esa] 24), pt b2 (.cells #[Ix (y.tick), .slice fp_esb ((fewE y.ents).length) fc_esb] 24), (fun h => Sl EntR h (.slice fp_esa ((fewE x.ents).length) fc_esa) (fewE x.ents))]) ((((perm_front 0 rfl).trans (perm_front 3 rfl)).trans (perm_front 3 rfl)).trans (perm_front 3 rfl)) ?_
  refine c_freeze (M := [(fun h => Sl EntR h (.slice fp_esb ((fewE y.ents).length) fc_esb) (fewE y.ents)), pt b1 (.cells #[Ix (x.tick), .slice fp_esa ((fewE x.ents).length) fc_esa] 24), pt b2 (.cells #[Ix (y.tick), .slice fp_esb ((fewE y.ents).length) fc_esb] 24)]) (K := [(fun h => Sl EntR h (.slice fp_esa ((fewE x.ents).length) fc_esa) (fewE x.ents))]) rfl (fun β₁ ext₁ kn₁ => ?_)
  have hf := kn₁ _ (Knows.of_res 0 rfl (fun _ _ hs h => Sl.mono EntR _ _ _ _ hs h) fun _ h => h)
  obtain ⟨esa, hesa⟩ : ∃ z, z = fewE x.ents := ⟨_, rfl⟩
  have hesal : esa.length ≤ 40 := by rw [hesa]; simp [fewE]; omega
  rw [← hesa] at hf ⊢
  obtain ⟨fp_esal, fp_esam, fp_esae⟩ := sl_parts hf
  clear hf
  have hesab := few_big hesa
  refine c_perm (L' := [(fun h => Sl EntR h (.slice fp_esb ((fewE y.ents).length) fc_esb) (fewE y.ents)), pt b1 (.cells #[Ix (x.tick), .slice fp_esa (esa.length) (fc_esa)] 24), pt b2 (.cells #[Ix (y.tick), .slice fp_esb ((fewE y.ents).length) fc_esb] 24)]) (((perm_front 2 rfl).trans (perm_front 2 rfl)).trans (perm_front 2 rfl)) ?_
  refine c_perm (L' := [pt b1 (.cells #[Ix (x.tick), .slice fp_esa (esa.length) (fc_esa)] 24), pt b2 (.cells #[Ix (y.tick), .slice fp_esb ((fewE y.ents).length) fc_esb] 24), (fun h => Sl EntR h (.slice fp_esb ((fewE y.ents).length) fc_esb) (fewE y.ents))]) (((perm_front 0 rfl).trans (perm_front 2 rfl)).trans (perm_front 2 rfl)) ?_
  refine c_freeze (M := [pt b1 (.cells #[Ix (x.tick), .slice fp_esa (esa.length) (fc_esa)] 24), pt b2 (.cells #[Ix (y.tick), .slice fp_esb ((fewE y.ents).length) fc_esb] 24)]) (K := [(fun h => Sl EntR h (.slice fp_esb ((fewE y.ents).length) fc_esb) (fewE y.ents))]) rfl (fun β₂ ext₂ kn₂ => ?_)
  have hf := kn₂ _ (Knows.of_res 0 rfl (fun _ _ hs h => Sl.mono EntR _ _ _ _ hs h) fun _ h => h)
  obtain ⟨esb, hesb⟩ : ∃ z, z = fewE y.ents := ⟨_, rfl⟩
  have hesbl : esb.length ≤ 40 := by rw [hesb]; simp [fewE]; omega
  rw [← hesb] at hf ⊢
  obtain ⟨fp_esbl, fp_esbm, fp_esbe⟩ := sl_parts hf
  clear hf
  replace fp_esae := Elems.mono EntR _ _ _ _ ext₂.sub fp_esae
  have hesbb := few_big hesb
  refine c_any [⟨[], [], [0], [13], fun f => f 13 = .agg #[Ix (x.tick), .slice fp_esa (esa.length) (fc_esa)]⟩, ⟨[0], [0], [], [14], fun f => f 14 = .agg #[Ix (x.tick), .slice (sla (prt 1 (f 14))) (esa.length) (slc (prt 1 (f 14)))]⟩, ⟨[], [], [1], [15], fun f => f 15 = .agg #[Ix (y.tick), .slice fp_esb (esb.length) (fc_esb)]⟩, ⟨[0, 1, 2], [2], [], [16], fun f => f 16 = .agg #[Ix (y.tick), .slice (sla (prt 1 (f 16))) (esb.length) (slc (prt 1 (f 16)))]⟩, ⟨[], [], [], [5], fun f => f 5 = .pointer (some ⟨(blk (f 5)), 0, none⟩)⟩, ⟨[], [], [], [6], fun f => f 6 = .pointer (some ⟨(blk (f 6)), 0, none⟩)⟩, ⟨[0, 1, 2, 3, 4, 5], [4, 1], [], [], fun _ => True⟩, ⟨[0, 1, 2, 3, 4, 5, 6], [5, 3], [], [], fun _ => True⟩] [⟨none, none, [0], [], fun _ => pt b1 (.cells #[Ix (x.tick), .slice fp_esa (esa.length) (fc_esa)] 24)⟩, ⟨none, none, [2], [], fun _ => pt b2 (.cells #[Ix (y.tick), .slice fp_esb (esb.length) (fc_esb)] 24)⟩, ⟨(some 1), none, [], [14], fun f => (fun h => LESl h (.slice (sla (prt 1 (f 14))) (esa.length) (slc (prt 1 (f 14)))) esa)⟩, ⟨(some 3), none, [], [16], fun f => (fun h => LESl h (.slice (sla (prt 1 (f 16))) (esb.length) (slc (prt 1 (f 16)))) esb)⟩, ⟨(some 4), (some 6), [6], [5], fun f => pt (blk (f 5)) (.cells #[.int .i64 (0), .slice none 0 0] 24)⟩, ⟨(some 5), (some 7), [7], [6], fun f => pt (blk (f 6)) (.cells #[.int .i64 (0), .slice none 0 0] 24)⟩, ⟨(some 6), none, [], [5, 14], fun f => pt (blk (f 5)) (.cells #[Ix (x.tick), .slice (sla (prt 1 (f 14))) (esa.length) (slc (prt 1 (f 14)))] 24)⟩, ⟨(some 7), none, [], [6, 16], fun f => pt (blk (f 6)) (.cells #[Ix (y.tick), .slice (sla (prt 1 (f 16))) (esb.length) (slc (prt 1 (f 16)))] 24)⟩] [(2, .pointer (some ⟨b1, 0, none⟩)), (3, .pointer (some ⟨b2, 0, none⟩))] [0, 1] [] (by kernel_rfl) (by kernel_rfl) (by kernel_rfl) (by kernel_rfl) rfl ⟨rfl, rfl, trivial⟩ ⟨?_, ?_, ?_, ?_, ?_, ?_, ?_, ?_, trivial⟩ ?_
  · rintro f M - ⟨i0, -⟩
    have hs2 : f 2 = .pointer (some ⟨b1, 0, none⟩) := i0
    refine ob_start (L' := pt b1 (.cells #[Ix (x.tick), .slice fp_esa (esa.length) (fc_esa)] 24) :: M) (by rfl) (up_cons rfl hs2) ?_
    refine l_val (v := .agg #[Ix (x.tick), .slice fp_esa (esa.length) (fc_esa)]) rfl rfl rfl (e_load tf46 (cs := [Ix (x.tick), .slice fp_esa (esa.length) (fc_esa)]) rfl (k_pt 0 (cs := #[Ix (x.tick), .slice fp_esa (esa.length) (fc_esa)]) (vs := [Ix (x.tick), .slice fp_esa (esa.length) (fc_esa)]) rfl rfl) rfl) ?_
    refine l_nil ?_
    exact f_owes_d (up_cons rfl hs2) rfl (perm_front 0 rfl)
  · rintro f M ⟨k0, -⟩ -
    have hs13 : f 13 = .agg #[Ix (x.tick), .slice fp_esa (esa.length) (fc_esa)] := k0
    refine ob_start (L' := M) (by rfl) (up_cons rfl hs13) ?_
    refine l_call rfl rfl rfl (cl_value (fst := []) (cap := []) (vs := [.agg #[Ix (x.tick), .slice fp_esa (esa.length) (fc_esa)]]) (all := [.agg #[Ix (x.tick), .slice fp_esa (esa.length) (fc_esa)]]) tf99 rfl rfl rfl) ?_
    intro w hw
    obtain ⟨β1, sb, kn, hw1, back⟩ := St.frame_all hw
    refine (lentWorld_res β1 w hw1 x.tick esa _ (Sl.mono _ _ _ _ _ sb (⟨⟨_, _, rfl, fp_esal, fp_esam, fp_esae⟩⟩ : Sl EntR _ _ esa)) (by omega) hesab).mono ?_
    rintro e w' ⟨p14, c15, rfl, hw'⟩
    refine ⟨_, rfl, _, back _ _ hw', ?_⟩
    clear hw hw1 hw' back kn sb
    refine l_nil ?_
    exact f_owes_d (up_cons rfl hs13) rfl (perm_front 0 rfl)
  · rintro f M - ⟨i0, -⟩
    have hs3 : f 3 = .pointer (some ⟨b2, 0, none⟩) := i0
    refine ob_start (L' := pt b2 (.cells #[Ix (y.tick), .slice fp_esb (esb.length) (fc_esb)] 24) :: M) (by rfl) (up_cons rfl hs3) ?_
    refine l_val (v := .agg #[Ix (y.tick), .slice fp_esb (esb.length) (fc_esb)]) rfl rfl rfl (e_load tf46 (cs := [Ix (y.tick), .slice fp_esb (esb.length) (fc_esb)]) rfl (k_pt 0 (cs := #[Ix (y.tick), .slice fp_esb (esb.length) (fc_esb)]) (vs := [Ix (y.tick), .slice fp_esb (esb.length) (fc_esb)]) rfl rfl) rfl) ?_
    refine l_nil ?_
    exact f_owes_d (up_cons rfl hs3) rfl (perm_front 0 rfl)
  · rintro f M ⟨k0, -⟩ -
    have hs15 : f 15 = .agg #[Ix (y.tick), .slice fp_esb (esb.length) (fc_esb)] := k0
    refine ob_start (L' := M) (by rfl) (up_cons rfl hs15) ?_
    refine l_call rfl rfl rfl (cl_value (fst := []) (cap := []) (vs := [.agg #[Ix (y.tick), .slice fp_esb (esb.length) (fc_esb)]]) (all := [.agg #[Ix (y.tick), .slice fp_esb (esb.length) (fc_esb)]]) tf99 rfl rfl rfl) ?_
    intro w hw
    obtain ⟨β1, sb, kn, hw1, back⟩ := St.frame_all hw
    refine (lentWorld_res β1 w hw1 y.tick esb _ (Sl.mono _ _ _ _ _ sb (⟨⟨_, _, rfl, fp_esbl, fp_esbm, fp_esbe⟩⟩ : Sl EntR _ _ esb)) (by omega) hesbb).mono ?_
    rintro e w' ⟨p18, c19, rfl, hw'⟩
    refine ⟨_, rfl, _, back _ _ hw', ?_⟩
    clear hw hw1 hw' back kn sb
    refine l_nil ?_
    exact f_owes_d (up_cons rfl hs15) rfl (perm_front 0 rfl)
  · rintro f M - -
    refine ob_start (L' := M) (by rfl) rfl ?_
    refine l_mv rfl rfl rfl (m_alloc tf49) ?_
    rintro _ _ ⟨b21, rfl, rfl⟩
    refine l_nil ?_
    exact f_owes_d rfl rfl (perm_front 0 rfl)
  · rintro f M - -
    refine ob_start (L' := M) (by rfl) rfl ?_
    refine l_mv rfl rfl rfl (m_alloc tf49) ?_
    rintro _ _ ⟨b23, rfl, rfl⟩
    refine l_nil ?_
    exact f_owes_d rfl rfl (perm_front 0 rfl)
  · rintro f M ⟨k0, k1, -⟩ -
    have hs5 : f 5 = .pointer (some ⟨(blk (f 5)), 0, none⟩) := k0
    have hs14 : f 14 = .agg #[Ix (x.tick), .slice (sla (prt 1 (f 14))) (esa.length) (slc (prt 1 (f 14)))] := k1
    refine ob_start (L' := pt (blk (f 5)) (.cells #[.int .i64 (0), .slice none 0 0] 24) :: M) (by rfl) (up_cons (up_cons rfl hs5) hs14) ?_
    refine l_mu rfl rfl (m_store 0 tf46 (b := (blk (f 5))) (o := 0) (T := 24) (cs := #[.int .i64 (0), .slice none 0 0]) (cs' := #[Ix (x.tick), .slice (sla (prt 1 (f 14))) (esa.length) (slc (prt 1 (f 14)))]) (v := .agg #[Ix (x.tick), .slice (sla (prt 1 (f 14))) (esa.length) (slc (prt 1 (f 14)))]) rfl rfl rfl rfl rfl rfl rfl) ?_
    refine l_nil ?_
    exact f_owes_n (up_cons (up_cons rfl hs5) hs14) trivial (perm_front 0 rfl)
  · rintro f M ⟨k0, k1, -⟩ -
    have hs6 : f 6 = .pointer (some ⟨(blk (f 6)), 0, none⟩) := k0
    have hs16 : f 16 = .agg #[Ix (y.tick), .slice (sla (prt 1 (f 16))) (esb.length) (slc (prt 1 (f 16)))] := k1
    refine ob_start (L' := pt (blk (f 6)) (.cells #[.int .i64 (0), .slice none 0 0] 24) :: M) (by rfl) (up_cons (up_cons rfl hs6) hs16) ?_
    refine l_mu rfl rfl (m_store 0 tf46 (b := (blk (f 6))) (o := 0) (T := 24) (cs := #[.int .i64 (0), .slice none 0 0]) (cs' := #[Ix (y.tick), .slice (sla (prt 1 (f 16))) (esb.length) (slc (prt 1 (f 16)))]) (v := .agg #[Ix (y.tick), .slice (sla (prt 1 (f 16))) (esb.length) (slc (prt 1 (f 16)))]) rfl rfl rfl rfl rfl rfl rfl) ?_
    refine l_nil ?_
    exact f_owes_n (up_cons (up_cons rfl hs6) hs16) trivial (perm_front 0 rfl)
  rintro fa24 ⟨-, -, -, -, k4, k5, -, -, -⟩ ⟨j0, j1, -⟩
  refine f_re (L' := [pt b1 (.cells #[Ix (x.tick), .slice fp_esa (esa.length) (fc_esa)] 24), pt b2 (.cells #[Ix (y.tick), .slice fp_esb (esb.length) (fc_esb)] 24), (fun h => LESl h (.slice (sla (prt 1 (fa24 14))) (esa.length) (slc (prt 1 (fa24 14)))) esa), (fun h => LESl h (.slice (sla (prt 1 (fa24 16))) (esb.length) (slc (prt 1 (fa24 16)))) esb), pt (blk (fa24 5)) (.cells #[Ix (x.tick), .slice (sla (prt 1 (fa24 14))) (esa.length) (slc (prt 1 (fa24 14)))] 24), pt (blk (fa24 6)) (.cells #[Ix (y.tick), .slice (sla (prt 1 (fa24 16))) (esb.length) (slc (prt 1 (fa24 16)))] 24)]) (by rfl) ?_
  refine f_rebase (d := 2) (v := .pointer (some ⟨b1, 0, none⟩)) j0 ?_
  refine f_rebase (d := 3) (v := .pointer (some ⟨b2, 0, none⟩)) j1 ?_
  refine f_rebase (d := 5) (v := .pointer (some ⟨(blk (fa24 5)), 0, none⟩)) k4 ?_
  refine f_rebase (d := 6) (v := .pointer (some ⟨(blk (fa24 6)), 0, none⟩)) k5 ?_
  refine f_then ?_
  refine c_seq ?_
  generalize (sla (prt 1 (fa24 14))) = lp_esa
  generalize (slc (prt 1 (fa24 14))) = lc_esa
  refine c_perm (L' := [pt b1 (.cells #[Ix (x.tick), .slice fp_esa (esa.length) (fc_esa)] 24), pt b2 (.cells #[Ix (y.tick), .slice fp_esb (esb.length) (fc_esb)] 24), (fun h => LESl h (.slice (sla (prt 1 (fa24 16))) (esb.length) (slc (prt 1 (fa24 16)))) esb), pt (blk (fa24 5)) (.cells #[Ix (x.tick), .slice lp_esa (esa.length) lc_esa] 24), pt (blk (fa24 6)) (.cells #[Ix (y.tick), .slice (sla (prt 1 (fa24 16))) (esb.length) (slc (prt 1 (fa24 16)))] 24), (fun h => LESl h (.slice lp_esa (esa.length) lc_esa) esa)]) ((((((perm_front 2 rfl).trans (perm_front 5 rfl)).trans (perm_front 5 rfl)).trans (perm_front 5 rfl)).trans (perm_front 5 rfl)).trans (perm_front 5 rfl)) ?_
  refine c_freeze (M := [pt b1 (.cells #[Ix (x.tick), .slice fp_esa (esa.length) (fc_esa)] 24), pt b2 (.cells #[Ix (y.tick), .slice fp_esb (esb.length) (fc_esb)] 24), (fun h => LESl h (.slice (sla (prt 1 (fa24 16))) (esb.length) (slc (prt 1 (fa24 16)))) esb), pt (blk (fa24 5)) (.cells #[Ix (x.tick), .slice lp_esa (esa.length) lc_esa] 24), pt (blk (fa24 6)) (.cells #[Ix (y.tick), .slice (sla (prt 1 (fa24 16))) (esb.length) (slc (prt 1 (fa24 16)))] 24)]) (K := [(fun h => LESl h (.slice lp_esa (esa.length) lc_esa) esa)]) rfl (fun β₃ ext₃ kn₃ => ?_)
  have hLE : LESl β₃.heap (.slice lp_esa esa.length lc_esa) esa := kn₃ _ (Knows.of_res 0 rfl (LESl.mono _ _) fun _ h => h)
  obtain ⟨Lesal, Lesam, Lesae, Lesaf⟩ := lesl_parts hLE
  have Lesas := Elems.left Lesaf
  clear hLE
  replace fp_esae := Elems.mono EntR _ _ _ _ ext₃.sub fp_esae
  replace fp_esbe := Elems.mono EntR _ _ _ _ ext₃.sub fp_esbe
  generalize (sla (prt 1 (fa24 16))) = lp_esb
  generalize (slc (prt 1 (fa24 16))) = lc_esb
  refine c_perm (L' := [pt b1 (.cells #[Ix (x.tick), .slice fp_esa (esa.length) (fc_esa)] 24), pt b2 (.cells #[Ix (y.tick), .slice fp_esb (esb.length) (fc_esb)] 24), pt (blk (fa24 5)) (.cells #[Ix (x.tick), .slice lp_esa (esa.length) (lc_esa)] 24), pt (blk (fa24 6)) (.cells #[Ix (y.tick), .slice lp_esb (esb.length) lc_esb] 24), (fun h => LESl h (.slice lp_esb (esb.length) lc_esb) esb)]) (((((perm_front 2 rfl).trans (perm_front 4 rfl)).trans (perm_front 4 rfl)).trans (perm_front 4 rfl)).trans (perm_front 4 rfl)) ?_
  refine c_freeze (M := [pt b1 (.cells #[Ix (x.tick), .slice fp_esa (esa.length) (fc_esa)] 24), pt b2 (.cells #[Ix (y.tick), .slice fp_esb (esb.length) (fc_esb)] 24), pt (blk (fa24 5)) (.cells #[Ix (x.tick), .slice lp_esa (esa.length) (lc_esa)] 24), pt (blk (fa24 6)) (.cells #[Ix (y.tick), .slice lp_esb (esb.length) lc_esb] 24)]) (K := [(fun h => LESl h (.slice lp_esb (esb.length) lc_esb) esb)]) rfl (fun β₄ ext₄ kn₄ => ?_)
  have hLE : LESl β₄.heap (.slice lp_esb esb.length lc_esb) esb := kn₄ _ (Knows.of_res 0 rfl (LESl.mono _ _) fun _ h => h)
  obtain ⟨Lesbl, Lesbm, Lesbe, Lesbf⟩ := lesl_parts hLE
  have Lesbs := Elems.left Lesbf
  clear hLE
  replace fp_esae := Elems.mono EntR _ _ _ _ ext₄.sub fp_esae
  replace fp_esbe := Elems.mono EntR _ _ _ _ ext₄.sub fp_esbe
  replace Lesae := Elems.mono LEntR _ _ _ _ ext₄.sub Lesae
  replace Lesaf := Elems.mono EntR _ _ _ _ ext₄.sub Lesaf
  replace Lesas := Elems.mono EntR _ _ _ _ ext₄.sub Lesas
  refine c_any [⟨[], [], [0], [17], fun f => f 17 = .agg #[Ix (x.tick), .slice lp_esa (esa.length) (lc_esa)]⟩, ⟨[], [], [1], [18], fun f => f 18 = .agg #[Ix (y.tick), .slice lp_esb (esb.length) (lc_esb)]⟩, ⟨[0, 1], [0, 1], [], [19], fun f => f 19 = ((f 19))⟩, ⟨[], [], [0], [20], fun f => f 20 = .agg #[Ix (x.tick), .slice lp_esa (esa.length) (lc_esa)]⟩, ⟨[], [], [1], [21], fun f => f 21 = .agg #[Ix (y.tick), .slice lp_esb (esb.length) (lc_esb)]⟩, ⟨[0, 1, 2, 3, 4], [3, 4], [], [22], fun f => f 22 = ((f 22))⟩, ⟨[0, 1, 2, 3, 4, 5], [2], [], [7, 19], fun f => f 7 = ((f 19))⟩, ⟨[0, 1, 2, 3, 4, 5, 6], [5], [], [8, 22], fun f => f 8 = ((f 22))⟩] [⟨none, none, [], [], fun _ => pt b1 (.cells #[Ix (x.tick), .slice fp_esa (esa.length) (fc_esa)] 24)⟩, ⟨none, none, [], [], fun _ => pt b2 (.cells #[Ix (y.tick), .slice fp_esb (esb.length) (fc_esb)] 24)⟩, ⟨none, none, [0, 3], [], fun _ => pt (blk (fa24 5)) (.cells #[Ix (x.tick), .slice lp_esa (esa.length) (lc_esa)] 24)⟩, ⟨none, none, [1, 4], [], fun _ => pt (blk (fa24 6)) (.cells #[Ix (y.tick), .slice lp_esb (esb.length) (lc_esb)] 24)⟩, ⟨(some 2), none, [], [19], fun f => row ((f 19)) 3 1 ((differU (⟨x.tick, esa⟩ : KWorld) (⟨y.tick, esb⟩ : KWorld)).length) (((differU (⟨x.tick, esa⟩ : KWorld) (⟨y.tick, esb⟩ : KWorld)).map fun z => Ix z))⟩, ⟨(some 5), none, [], [22], fun f => row ((f 22)) 3 1 ((differU (⟨x.tick, esa⟩ : KWorld) (⟨y.tick, esb⟩ : KWorld)).length) (((differU (⟨x.tick, esa⟩ : KWorld) (⟨y.tick, esb⟩ : KWorld)).map fun z => Ix z))⟩] [(5, .pointer (some ⟨(blk (fa24 5)), 0, none⟩)), (6, .pointer (some ⟨(blk (fa24 6)), 0, none⟩)), (2, .pointer (some ⟨b1, 0, none⟩)), (3, .pointer (some ⟨b2, 0, none⟩))] [2, 3, 0, 1] [] (by kernel_rfl) (by kernel_rfl) (by kernel_rfl) (by kernel_rfl) rfl ⟨rfl, rfl, rfl, rfl, trivial⟩ ⟨?_, ?_, ?_, ?_, ?_, ?_, ?_, ?_, trivial⟩ ?_
  · rintro f M - ⟨i0, -⟩
    have hs5 : f 5 = .pointer (some ⟨(blk (fa24 5)), 0, none⟩) := i0
    refine ob_start (L' := pt (blk (fa24 5)) (.cells #[Ix (x.tick), .slice lp_esa (esa.length) (lc_esa)] 24) :: M) (by rfl) (up_cons rfl hs5) ?_
    refine l_val (v := .agg #[Ix (x.tick), .slice lp_esa (esa.length) (lc_esa)]) rfl rfl rfl (e_load tf46 (cs := [Ix (x.tick), .slice lp_esa (esa.length) (lc_esa)]) rfl (k_pt 0 (cs := #[Ix (x.tick), .slice lp_esa (esa.length) (lc_esa)]) (vs := [Ix (x.tick), .slice lp_esa (esa.length) (lc_esa)]) rfl rfl) rfl) ?_
    refine l_nil ?_
    exact f_owes_d (up_cons rfl hs5) rfl (perm_front 0 rfl)
  · rintro f M - ⟨i0, -⟩
    have hs6 : f 6 = .pointer (some ⟨(blk (fa24 6)), 0, none⟩) := i0
    refine ob_start (L' := pt (blk (fa24 6)) (.cells #[Ix (y.tick), .slice lp_esb (esb.length) (lc_esb)] 24) :: M) (by rfl) (up_cons rfl hs6) ?_
    refine l_val (v := .agg #[Ix (y.tick), .slice lp_esb (esb.length) (lc_esb)]) rfl rfl rfl (e_load tf46 (cs := [Ix (y.tick), .slice lp_esb (esb.length) (lc_esb)]) rfl (k_pt 0 (cs := #[Ix (y.tick), .slice lp_esb (esb.length) (lc_esb)]) (vs := [Ix (y.tick), .slice lp_esb (esb.length) (lc_esb)]) rfl rfl) rfl) ?_
    refine l_nil ?_
    exact f_owes_d (up_cons rfl hs6) rfl (perm_front 0 rfl)
  · rintro f M ⟨k0, k1, -⟩ -
    have hs17 : f 17 = .agg #[Ix (x.tick), .slice lp_esa (esa.length) (lc_esa)] := k0
    have hs18 : f 18 = .agg #[Ix (y.tick), .slice lp_esb (esb.length) (lc_esb)] := k1
    refine ob_start (L' := M) (by rfl) (up_cons (up_cons rfl hs17) hs18) ?_
    refine l_call rfl rfl rfl (cl_value (fst := []) (cap := []) (vs := [.agg #[Ix (x.tick), .slice lp_esa (esa.length) (lc_esa)], .agg #[Ix (y.tick), .slice lp_esb (esb.length) (lc_esb)]]) (all := [.agg #[Ix (x.tick), .slice lp_esa (esa.length) (lc_esa)], .agg #[Ix (y.tick), .slice lp_esb (esb.length) (lc_esb)]]) tf61 rfl rfl rfl) ?_
    intro w hw
    obtain ⟨β1, sb, kn, hw1, back⟩ := St.frame_all hw
    refine (differ_ok β1 w hw1 (⟨x.tick, esa⟩ : KWorld) (⟨y.tick, esb⟩ : KWorld) _ _ (Sl.mono _ _ _ _ _ sb (⟨⟨_, _, rfl, by omega, Lesam, Lesas⟩⟩ : Sl EntR _ _ esa)) (Sl.mono _ _ _ _ _ sb (⟨⟨_, _, rfl, by omega, Lesbm, Lesbs⟩⟩ : Sl EntR _ _ esb)) (show esa.length ≤ 1000000 by omega) (show esb.length ≤ 1000000 by omega)).mono ?_
    rintro e w' ⟨v26, rfl, hw'⟩
    refine ⟨_, rfl, _, back _ _ hw', ?_⟩
    clear hw hw1 hw' back kn sb
    refine l_nil ?_
    exact f_owes_d (up_cons (up_cons rfl hs17) hs18) rfl (perm_front 0 rfl)
  · rintro f M - ⟨i0, -⟩
    have hs5 : f 5 = .pointer (some ⟨(blk (fa24 5)), 0, none⟩) := i0
    refine ob_start (L' := pt (blk (fa24 5)) (.cells #[Ix (x.tick), .slice lp_esa (esa.length) (lc_esa)] 24) :: M) (by rfl) (up_cons rfl hs5) ?_
    refine l_val (v := .agg #[Ix (x.tick), .slice lp_esa (esa.length) (lc_esa)]) rfl rfl rfl (e_load tf46 (cs := [Ix (x.tick), .slice lp_esa (esa.length) (lc_esa)]) rfl (k_pt 0 (cs := #[Ix (x.tick), .slice lp_esa (esa.length) (lc_esa)]) (vs := [Ix (x.tick), .slice lp_esa (esa.length) (lc_esa)]) rfl rfl) rfl) ?_
    refine l_nil ?_
    exact f_owes_d (up_cons rfl hs5) rfl (perm_front 0 rfl)
  · rintro f M - ⟨i0, -⟩
    have hs6 : f 6 = .pointer (some ⟨(blk (fa24 6)), 0, none⟩) := i0
    refine ob_start (L' := pt (blk (fa24 6)) (.cells #[Ix (y.tick), .slice lp_esb (esb.length) (lc_esb)] 24) :: M) (by rfl) (up_cons rfl hs6) ?_
    refine l_val (v := .agg #[Ix (y.tick), .slice lp_esb (esb.length) (lc_esb)]) rfl rfl rfl (e_load tf46 (cs := [Ix (y.tick), .slice lp_esb (esb.length) (lc_esb)]) rfl (k_pt 0 (cs := #[Ix (y.tick), .slice lp_esb (esb.length) (lc_esb)]) (vs := [Ix (y.tick), .slice lp_esb (esb.length) (lc_esb)]) rfl rfl) rfl) ?_
    refine l_nil ?_
    exact f_owes_d (up_cons rfl hs6) rfl (perm_front 0 rfl)
  · rintro f M ⟨k0, k1, -⟩ -
    have hs20 : f 20 = .agg #[Ix (x.tick), .slice lp_esa (esa.length) (lc_esa)] := k0
    have hs21 : f 21 = .agg #[Ix (y.tick), .slice lp_esb (esb.length) (lc_esb)] := k1
    refine ob_start (L' := M) (by rfl) (up_cons (up_cons rfl hs20) hs21) ?_
    refine l_call rfl rfl rfl (cl_value (fst := []) (cap := []) (vs := [.agg #[Ix (x.tick), .slice lp_esa (esa.length) (lc_esa)], .agg #[Ix (y.tick), .slice lp_esb (esb.length) (lc_esb)]]) (all := [.agg #[Ix (x.tick), .slice lp_esa (esa.length) (lc_esa)], .agg #[Ix (y.tick), .slice lp_esb (esb.length) (lc_esb)]]) tf61 rfl rfl rfl) ?_
    intro w hw
    obtain ⟨β1, sb, kn, hw1, back⟩ := St.frame_all hw
    refine (differ_ok β1 w hw1 (⟨x.tick, esa⟩ : KWorld) (⟨y.tick, esb⟩ : KWorld) _ _ (Sl.mono _ _ _ _ _ sb (⟨⟨_, _, rfl, by omega, Lesam, Lesas⟩⟩ : Sl EntR _ _ esa)) (Sl.mono _ _ _ _ _ sb (⟨⟨_, _, rfl, by omega, Lesbm, Lesbs⟩⟩ : Sl EntR _ _ esb)) (show esa.length ≤ 1000000 by omega) (show esb.length ≤ 1000000 by omega)).mono ?_
    rintro e w' ⟨v28, rfl, hw'⟩
    refine ⟨_, rfl, _, back _ _ hw', ?_⟩
    clear hw hw1 hw' back kn sb
    refine l_nil ?_
    exact f_owes_d (up_cons (up_cons rfl hs20) hs21) rfl (perm_front 0 rfl)
  · rintro f M ⟨k0, -⟩ -
    have hs19 : f 19 = ((f 19)) := k0
    refine ob_start (L' := M) (by rfl) (up_cons rfl hs19) ?_
    refine l_val (v := ((f 19))) rfl rfl rfl (e_assign) ?_
    refine l_nil ?_
    exact f_owes_d (up_cons rfl hs19) rfl (List.Perm.refl _)
  · rintro f M ⟨k0, -⟩ -
    have hs22 : f 22 = ((f 22)) := k0
    refine ob_start (L' := M) (by rfl) (up_cons rfl hs22) ?_
    refine l_val (v := ((f 22))) rfl rfl rfl (e_assign) ?_
    refine l_nil ?_
    exact f_owes_d (up_cons rfl hs22) rfl (List.Perm.refl _)
  rintro fa29 ⟨-, -, -, -, -, -, k6, k7, -⟩ ⟨j0, j1, j2, j3, -⟩
  refine f_re (L' := [pt b1 (.cells #[Ix (x.tick), .slice fp_esa (esa.length) (fc_esa)] 24), pt b2 (.cells #[Ix (y.tick), .slice fp_esb (esb.length) (fc_esb)] 24), pt (blk (fa24 5)) (.cells #[Ix (x.tick), .slice lp_esa (esa.length) (lc_esa)] 24), pt (blk (fa24 6)) (.cells #[Ix (y.tick), .slice lp_esb (esb.length) (lc_esb)] 24), row ((fa29 19)) 3 1 ((differU (⟨x.tick, esa⟩ : KWorld) (⟨y.tick, esb⟩ : KWorld)).length) (((differU (⟨x.tick, esa⟩ : KWorld) (⟨y.tick, esb⟩ : KWorld)).map fun z => Ix z)), row ((fa29 22)) 3 1 ((differU (⟨x.tick, esa⟩ : KWorld) (⟨y.tick, esb⟩ : KWorld)).length) (((differU (⟨x.tick, esa⟩ : KWorld) (⟨y.tick, esb⟩ : KWorld)).map fun z => Ix z))]) (by rfl) ?_
  refine f_rebase (d := 2) (v := .pointer (some ⟨b1, 0, none⟩)) j0 ?_
  refine f_rebase (d := 3) (v := .pointer (some ⟨b2, 0, none⟩)) j1 ?_
  refine f_rebase (d := 5) (v := .pointer (some ⟨(blk (fa24 5)), 0, none⟩)) j2 ?_
  refine f_rebase (d := 6) (v := .pointer (some ⟨(blk (fa24 6)), 0, none⟩)) j3 ?_
  refine f_rebase (d := 7) (v := ((fa29 19))) k6 ?_
  refine f_rebase (d := 8) (v := ((fa29 22))) k7 ?_
  refine f_then ?_
  refine c_seq ?_
  refine c_seq ?_
  have hdl := differ_len (⟨x.tick, esa⟩ : KWorld) (⟨y.tick, esb⟩ : KWorld)
  have hdl2 : (differU (⟨x.tick, esa⟩ : KWorld) (⟨y.tick, esb⟩ : KWorld)).length ≤ 1000000 := by have := hdl; simp only at this; omega
  refine c_rowform 4 rfl (fun dpa dca hda _ _ => ?_)
  rw [hda]
  refine c_rowform 5 rfl (fun dpb dcb hdb _ _ => ?_)
  rw [hdb]
  refine c_region ?_
  refine l_val (v := .slice dpa ((differU (⟨x.tick, esa⟩ : KWorld) (⟨y.tick, esb⟩ : KWorld)).length) dca) rfl rfl rfl (e_move) ?_
  refine l_val (v := .agg #[Ix (x.tick), .slice fp_esa (esa.length) (fc_esa)]) rfl rfl rfl (e_load tf46 (cs := [Ix (x.tick), .slice fp_esa (esa.length) (fc_esa)]) rfl (k_pt 0 (cs := #[Ix (x.tick), .slice fp_esa (esa.length) (fc_esa)]) (vs := [Ix (x.tick), .slice fp_esa (esa.length) (fc_esa)]) rfl rfl) rfl) ?_
  refine l_val (v := .agg #[Ix (y.tick), .slice fp_esb (esb.length) (fc_esb)]) rfl rfl rfl (e_load tf46 (cs := [Ix (y.tick), .slice fp_esb (esb.length) (fc_esb)]) rfl (k_pt 1 (cs := #[Ix (y.tick), .slice fp_esb (esb.length) (fc_esb)]) (vs := [Ix (y.tick), .slice fp_esb (esb.length) (fc_esb)]) rfl rfl) rfl) ?_
  refine l_call rfl rfl rfl (cl_value (fst := []) (cap := []) (vs := [.agg #[Ix (x.tick), .slice fp_esa (esa.length) (fc_esa)], .agg #[Ix (y.tick), .slice fp_esb (esb.length) (fc_esb)]]) (all := [.agg #[Ix (x.tick), .slice fp_esa (esa.length) (fc_esa)], .agg #[Ix (y.tick), .slice fp_esb (esb.length) (fc_esb)]]) tf232 rfl rfl rfl) ?_
  intro w hw
  obtain ⟨β1, sb, kn, hw1, back⟩ := St.frame_all hw
  refine (rdiffer_ok β1 w hw1 (⟨x.tick, esa⟩ : KWorld) (⟨y.tick, esb⟩ : KWorld) _ _ (Sl.mono _ _ _ _ _ sb (⟨⟨_, _, rfl, fp_esal, fp_esam, fp_esae⟩⟩ : Sl EntR _ _ esa)) (Sl.mono _ _ _ _ _ sb (⟨⟨_, _, rfl, fp_esbl, fp_esbm, fp_esbe⟩⟩ : Sl EntR _ _ esb)) (show esa.length ≤ 1000 by omega) hesab (show esb.length ≤ 1000 by omega) hesbb).mono ?_
  rintro e w' ⟨p30, c31, rfl, hw'⟩
  refine ⟨_, rfl, _, back _ _ hw', ?_⟩
  clear hw hw1 hw' back kn sb
  refine l_call rfl rfl rfl (cl_value (fst := []) (cap := []) (vs := [.slice dpa ((differU (⟨x.tick, esa⟩ : KWorld) (⟨y.tick, esb⟩ : KWorld)).length) dca, .slice p30 ((differU (⟨x.tick, esa⟩ : KWorld) (⟨y.tick, esb⟩ : KWorld)).length) c31]) (all := [.slice dpa ((differU (⟨x.tick, esa⟩ : KWorld) (⟨y.tick, esb⟩ : KWorld)).length) dca, .slice p30 ((differU (⟨x.tick, esa⟩ : KWorld) (⟨y.tick, esb⟩ : KWorld)).length) c31]) tf62 rfl rfl rfl) ?_
  intro w hw
  obtain ⟨β1, sb, kn, hw1, back⟩ := St.frame_all hw
  refine (sameInts_ok β1 w hw1 _ _ (differU (⟨x.tick, esa⟩ : KWorld) (⟨y.tick, esb⟩ : KWorld)) (differU (⟨x.tick, esa⟩ : KWorld) (⟨y.tick, esb⟩ : KWorld)) (kn (fun h => Sl IntR h _ (differU (⟨x.tick, esa⟩ : KWorld) (⟨y.tick, esb⟩ : KWorld))) (Knows.of_res 5 rfl (fun _ _ hs h => Sl.mono IntR _ _ _ _ hs h) fun _ h => row_slI h)) (kn (fun h => Sl IntR h _ (differU (⟨x.tick, esa⟩ : KWorld) (⟨y.tick, esb⟩ : KWorld))) (Knows.of_res 0 rfl (fun _ _ hs h => Sl.mono IntR _ _ _ _ hs h) fun _ h => row_slI h))).mono ?_
  rintro e w' ⟨rfl, hw'⟩
  refine ⟨_, rfl, _, back _ _ hw', ?_⟩
  clear hw hw1 hw' back kn sb
  refine l_val (v := .bool (decide (¬ ((differU (⟨x.tick, esa⟩ : KWorld) (⟨y.tick, esb⟩ : KWorld)) = (differU (⟨x.tick, esa⟩ : KWorld) (⟨y.tick, esb⟩ : KWorld)))))) rfl rfl rfl (e_not_p (p := (differU (⟨x.tick, esa⟩ : KWorld) (⟨y.tick, esb⟩ : KWorld)) = (differU (⟨x.tick, esa⟩ : KWorld) (⟨y.tick, esb⟩ : KWorld))) rfl) ?_
  refine l_val (v := .bool (decide (¬ ((differU (⟨x.tick, esa⟩ : KWorld) (⟨y.tick, esb⟩ : KWorld)) = (differU (⟨x.tick, esa⟩ : KWorld) (⟨y.tick, esb⟩ : KWorld)))))) rfl rfl rfl (e_move) ?_
  refine l_split (s := 29) (p := ¬ ((differU (⟨x.tick, esa⟩ : KWorld) (⟨y.tick, esb⟩ : KWorld)) = (differU (⟨x.tick, esa⟩ : KWorld) (⟨y.tick, esb⟩ : KWorld)))) rfl (fun h => ?_) (fun h => ?_)
  exact absurd h (fun h => h rfl)
  refine g_val (v := .agg #[Ix (y.tick), .slice lp_esb (esb.length) (lc_esb)]) rfl rfl rfl rfl rfl (e_load tf46 (cs := [Ix (y.tick), .slice lp_esb (esb.length) (lc_esb)]) rfl (k_pt 4 (cs := #[Ix (y.tick), .slice lp_esb (esb.length) (lc_esb)]) (vs := [Ix (y.tick), .slice lp_esb (esb.length) (lc_esb)]) rfl rfl) rfl) ?_
  refine g_val (v := .agg #[Ix (x.tick), .slice lp_esa (esa.length) (lc_esa)]) rfl rfl rfl rfl rfl (e_load tf46 (cs := [Ix (x.tick), .slice lp_esa (esa.length) (lc_esa)]) rfl (k_pt 3 (cs := #[Ix (x.tick), .slice lp_esa (esa.length) (lc_esa)]) (vs := [Ix (x.tick), .slice lp_esa (esa.length) (lc_esa)]) rfl rfl) rfl) ?_
  refine g_call rfl rfl rfl rfl rfl (cl_value (fst := []) (cap := []) (vs := [.agg #[Ix (y.tick), .slice lp_esb (esb.length) (lc_esb)], .agg #[Ix (x.tick), .slice lp_esa (esa.length) (lc_esa)]]) (all := [.agg #[Ix (y.tick), .slice lp_esb (esb.length) (lc_esb)], .agg #[Ix (x.tick), .slice lp_esa (esa.length) (lc_esa)]]) tf61 rfl rfl rfl) ?_
  intro w hw
  obtain ⟨β1, sb, kn, hw1, back⟩ := St.frame_all hw
  refine (differ_ok β1 w hw1 (⟨y.tick, esb⟩ : KWorld) (⟨x.tick, esa⟩ : KWorld) _ _ (Sl.mono _ _ _ _ _ sb (⟨⟨_, _, rfl, by omega, Lesbm, Lesbs⟩⟩ : Sl EntR _ _ esb)) (Sl.mono _ _ _ _ _ sb (⟨⟨_, _, rfl, by omega, Lesam, Lesas⟩⟩ : Sl EntR _ _ esa)) (show esb.length ≤ 1000000 by omega) (show esa.length ≤ 1000000 by omega)).mono ?_
  rintro e w' ⟨v32, rfl, hw'⟩
  refine ⟨_, rfl, _, back _ _ hw', ?_⟩
  clear hw hw1 hw' back kn sb
  refine g_val (v := .slice dpa ((differU (⟨x.tick, esa⟩ : KWorld) (⟨y.tick, esb⟩ : KWorld)).length) dca) rfl rfl rfl rfl rfl (e_move) ?_
  refine g_call rfl rfl rfl rfl rfl (cl_value (fst := []) (cap := []) (vs := [v32, .slice dpa ((differU (⟨x.tick, esa⟩ : KWorld) (⟨y.tick, esb⟩ : KWorld)).length) dca]) (all := [v32, .slice dpa ((differU (⟨x.tick, esa⟩ : KWorld) (⟨y.tick, esb⟩ : KWorld)).length) dca]) tf62 rfl rfl rfl) ?_
  intro w hw
  obtain ⟨β1, sb, kn, hw1, back⟩ := St.frame_all hw
  refine (sameInts_ok β1 w hw1 _ _ (differU (⟨y.tick, esb⟩ : KWorld) (⟨x.tick, esa⟩ : KWorld)) (differU (⟨x.tick, esa⟩ : KWorld) (⟨y.tick, esb⟩ : KWorld)) (kn (fun h => Sl IntR h _ (differU (⟨y.tick, esb⟩ : KWorld) (⟨x.tick, esa⟩ : KWorld))) (Knows.of_res 0 rfl (fun _ _ hs h => Sl.mono IntR _ _ _ _ hs h) fun _ h => row_slI h)) (kn (fun h => Sl IntR h _ (differU (⟨x.tick, esa⟩ : KWorld) (⟨y.tick, esb⟩ : KWorld))) (Knows.of_res 6 rfl (fun _ _ hs h => Sl.mono IntR _ _ _ _ hs h) fun _ h => row_slI h))).mono ?_
  rintro e w' ⟨rfl, hw'⟩
  refine ⟨_, rfl, _, back _ _ hw', ?_⟩
  clear hw hw1 hw' back kn sb
  refine g_val (v := .bool (decide (¬ ((differU (⟨y.tick, esb⟩ : KWorld) (⟨x.tick, esa⟩ : KWorld)) = (differU (⟨x.tick, esa⟩ : KWorld) (⟨y.tick, esb⟩ : KWorld)))))) rfl rfl rfl rfl rfl (e_not_p (p := (differU (⟨y.tick, esb⟩ : KWorld) (⟨x.tick, esa⟩ : KWorld)) = (differU (⟨x.tick, esa⟩ : KWorld) (⟨y.tick, esb⟩ : KWorld))) rfl) ?_
  refine l_val (v := .bool (decide (¬ ((differU (⟨y.tick, esb⟩ : KWorld) (⟨x.tick, esa⟩ : KWorld)) = (differU (⟨x.tick, esa⟩ : KWorld) (⟨y.tick, esb⟩ : KWorld)))))) rfl rfl rfl (e_pick_f rfl) ?_
  refine l_nil ?_
  refine f_then ?_
  refine c_if (¬ ((differU (⟨y.tick, esb⟩ : KWorld) (⟨x.tick, esa⟩ : KWorld)) = (differU (⟨x.tick, esa⟩ : KWorld) (⟨y.tick, esb⟩ : KWorld)))) rfl (fun hc33 => ?_) (fun hc33 => ?_)
  ·
    exact absurd hc33 (fun h => h (differ_symm _ _))
  ·
    refine c_skip ?_
    refine f_then ?_
    refine c_seq ?_
    refine c_region ?_
    refine l_val (v := .agg #[Ix (x.tick), .slice lp_esa (esa.length) (lc_esa)]) rfl rfl rfl (e_load tf46 (cs := [Ix (x.tick), .slice lp_esa (esa.length) (lc_esa)]) rfl (k_pt 4 (cs := #[Ix (x.tick), .slice lp_esa (esa.length) (lc_esa)]) (vs := [Ix (x.tick), .slice lp_esa (esa.length) (lc_esa)]) rfl rfl) rfl) ?_
    refine l_val (v := .agg #[Ix (x.tick), .slice fp_esa (esa.length) (fc_esa)]) rfl rfl rfl (e_load tf46 (cs := [Ix (x.tick), .slice fp_esa (esa.length) (fc_esa)]) rfl (k_pt 2 (cs := #[Ix (x.tick), .slice fp_esa (esa.length) (fc_esa)]) (vs := [Ix (x.tick), .slice fp_esa (esa.length) (fc_esa)]) rfl rfl) rfl) ?_
    refine l_call rfl rfl rfl (cl_value (fst := []) (cap := []) (vs := [.agg #[Ix (x.tick), .slice lp_esa (esa.length) (lc_esa)], .agg #[Ix (x.tick), .slice fp_esa (esa.length) (fc_esa)]]) (all := [.agg #[Ix (x.tick), .slice lp_esa (esa.length) (lc_esa)], .agg #[Ix (x.tick), .slice fp_esa (esa.length) (fc_esa)]]) tf103 rfl rfl rfl) ?_
    intro w hw
    obtain ⟨β1, sb, kn, hw1, back⟩ := St.frame_all hw
    refine (keptWorld_ok β1 w hw1 (⟨x.tick, esa⟩ : KWorld) (⟨x.tick, esa⟩ : KWorld) _ _ (LESl.mono _ _ _ _ sb (⟨_, _, rfl, Lesal, Lesam, Lesae, Lesaf⟩ : LESl _ _ esa)) (Sl.mono _ _ _ _ _ sb (⟨⟨_, _, rfl, fp_esal, fp_esam, fp_esae⟩⟩ : Sl EntR _ _ esa))).mono ?_
    rintro e w' ⟨rfl, hw'⟩
    refine ⟨_, rfl, _, back _ _ hw', ?_⟩
    clear hw hw1 hw' back kn sb
    refine l_val (v := .bool (decide ((⟨x.tick, esa⟩ : KWorld) = (⟨x.tick, esa⟩ : KWorld)))) rfl rfl rfl (e_move) ?_
    refine l_split (s := 40) (p := (⟨x.tick, esa⟩ : KWorld) = (⟨x.tick, esa⟩ : KWorld)) rfl (fun h => ?_) (fun h => ?_)
    rotate_left; exact absurd rfl h
    refine g_val (v := .agg #[Ix (y.tick), .slice lp_esb (esb.length) (lc_esb)]) rfl rfl rfl rfl rfl (e_load tf46 (cs := [Ix (y.tick), .slice lp_esb (esb.length) (lc_esb)]) rfl (k_pt 5 (cs := #[Ix (y.tick), .slice lp_esb (esb.length) (lc_esb)]) (vs := [Ix (y.tick), .slice lp_esb (esb.length) (lc_esb)]) rfl rfl) rfl) ?_
    refine g_val (v := .agg #[Ix (y.tick), .slice fp_esb (esb.length) (fc_esb)]) rfl rfl rfl rfl rfl (e_load tf46 (cs := [Ix (y.tick), .slice fp_esb (esb.length) (fc_esb)]) rfl (k_pt 3 (cs := #[Ix (y.tick), .slice fp_esb (esb.length) (fc_esb)]) (vs := [Ix (y.tick), .slice fp_esb (esb.length) (fc_esb)]) rfl rfl) rfl) ?_
    refine g_call rfl rfl rfl rfl rfl (cl_value (fst := []) (cap := []) (vs := [.agg #[Ix (y.tick), .slice lp_esb (esb.length) (lc_esb)], .agg #[Ix (y.tick), .slice fp_esb (esb.length) (fc_esb)]]) (all := [.agg #[Ix (y.tick), .slice lp_esb (esb.length) (lc_esb)], .agg #[Ix (y.tick), .slice fp_esb (esb.length) (fc_esb)]]) tf103 rfl rfl rfl) ?_
    intro w hw
    obtain ⟨β1, sb, kn, hw1, back⟩ := St.frame_all hw
    refine (keptWorld_ok β1 w hw1 (⟨y.tick, esb⟩ : KWorld) (⟨y.tick, esb⟩ : KWorld) _ _ (LESl.mono _ _ _ _ sb (⟨_, _, rfl, Lesbl, Lesbm, Lesbe, Lesbf⟩ : LESl _ _ esb)) (Sl.mono _ _ _ _ _ sb (⟨⟨_, _, rfl, fp_esbl, fp_esbm, fp_esbe⟩⟩ : Sl EntR _ _ esb))).mono ?_
    rintro e w' ⟨rfl, hw'⟩
    refine ⟨_, rfl, _, back _ _ hw', ?_⟩
    clear hw hw1 hw' back kn sb
    refine l_val (v := .bool (decide ((⟨y.tick, esb⟩ : KWorld) = (⟨y.tick, esb⟩ : KWorld)))) rfl rfl rfl (e_pick_t rfl) ?_
    refine l_val (v := .bool (decide ((⟨y.tick, esb⟩ : KWorld) = (⟨y.tick, esb⟩ : KWorld)))) rfl rfl rfl (e_move) ?_
    refine l_split (s := 45) (p := (⟨y.tick, esb⟩ : KWorld) = (⟨y.tick, esb⟩ : KWorld)) rfl (fun h => ?_) (fun h => ?_)
    rotate_left; exact absurd rfl h
    refine g_val (v := .slice dpa ((differU (⟨x.tick, esa⟩ : KWorld) (⟨y.tick, esb⟩ : KWorld)).length) dca) rfl rfl rfl rfl rfl (e_move) ?_
    refine g_val (v := .slice dpb ((differU (⟨x.tick, esa⟩ : KWorld) (⟨y.tick, esb⟩ : KWorld)).length) dcb) rfl rfl rfl rfl rfl (e_move) ?_
    refine g_mv rfl rfl rfl rfl rfl (m_slices tf164 tf167 (vs := [(0, .slice dpa ((differU (⟨x.tick, esa⟩ : KWorld) (⟨y.tick, esb⟩ : KWorld)).length) dca), (1, .slice dpb ((differU (⟨x.tick, esa⟩ : KWorld) (⟨y.tick, esb⟩ : KWorld)).length) dcb)]) (cells := #[.slice dpa ((differU (⟨x.tick, esa⟩ : KWorld) (⟨y.tick, esb⟩ : KWorld)).length) dca, .slice dpb ((differU (⟨x.tick, esa⟩ : KWorld) (⟨y.tick, esb⟩ : KWorld)).length) dcb]) rfl rfl rfl rfl) ?_
    rintro _ _ ⟨b34, rfl, rfl⟩
    refine g_call rfl rfl rfl rfl rfl (cl_value (fst := []) (cap := []) (vs := [.slice (some ⟨b34, 0, none⟩) 2 2]) (all := [.slice (some ⟨b34, 0, none⟩) 2 2]) tf233 rfl rfl rfl) ?_
    intro w hw
    replace hw := hw.perm (L' := _ :: _ :: _ :: _ :: _ :: _ :: _ :: _ :: _ :: []) (by exact (((((((((perm_front 6 rfl).trans (perm_front 6 rfl)).trans (perm_front 6 rfl)).trans (perm_front 6 rfl)).trans (perm_front 6 rfl)).trans (perm_front 6 rfl)).trans (perm_front 6 rfl)).trans (perm_front 8 rfl)).trans (perm_front 8 rfl)))
    obtain ⟨β1, sb, kn, hw1, back⟩ := St.frame (L := [_, _]) (M := _ :: _ :: _ :: _ :: _ :: _ :: _ :: []) hw
    refine (apartInts_ok β1 w (some ⟨b34, 0, none⟩) 2 rfl dpa dpb dca dcb (differU (⟨x.tick, esa⟩ : KWorld) (⟨y.tick, esb⟩ : KWorld)) (differU (⟨x.tick, esa⟩ : KWorld) (⟨y.tick, esb⟩ : KWorld)) hdl2 hdl2 (kn _ (k_pt 0 (cs := #[.slice dpa ((differU (⟨x.tick, esa⟩ : KWorld) (⟨y.tick, esb⟩ : KWorld)).length) dca, .slice dpb ((differU (⟨x.tick, esa⟩ : KWorld) (⟨y.tick, esb⟩ : KWorld)).length) dcb]) (vs := [.slice dpa ((differU (⟨x.tick, esa⟩ : KWorld) (⟨y.tick, esb⟩ : KWorld)).length) dca, .slice dpb ((differU (⟨x.tick, esa⟩ : KWorld) (⟨y.tick, esb⟩ : KWorld)).length) dcb]) rfl rfl)) hw1).mono ?_
    rintro e w' ⟨rfl, hw'⟩
    refine ⟨_, rfl, _, back _ _ hw', ?_⟩
    clear hw hw1 hw' back kn sb
    refine l_val (v := .bool true) rfl rfl rfl (e_pick_t rfl) ?_
    refine l_val (v := .bool true) rfl rfl rfl (e_move) ?_
    refine g_call rfl rfl rfl rfl rfl (cl_value (fst := []) (cap := []) (vs := []) (all := []) tf63 rfl rfl rfl) ?_
    intro w hw
    obtain ⟨β1, sb, kn, hw1, back⟩ := St.frame_all hw
    refine (awake_ok β1 w hw1).mono ?_
    rintro e w' ⟨rfl, hw'⟩
    refine ⟨_, rfl, _, back _ _ hw', ?_⟩
    clear hw hw1 hw' back kn sb
    refine l_val (v := .bool true) rfl rfl rfl (e_pick_t rfl) ?_
    refine l_val (v := .bool true) rfl rfl rfl (e_assign) ?_
    refine l_nil ?_
    refine f_then ?_
    refine c_ret ?_
    refine ret1 Tryz.results3 (v := .bool true) rfl ?_
    intro w hw
    exact ⟨rfl, St.weaken ext₁ (St.weaken ext₂ (St.weaken ext₃ (St.weaken ext₄ (st_mask [false, false, false, false, false, false, false] rfl hw))))⟩
end Go.Proofs
