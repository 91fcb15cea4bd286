/-
  Own work; plain Lean (DgTells).
-/
import Derived.Test.YtbfidhbcojbklaaGreatDgLent
namespace Go.Proofs
open Go Go.Sl
theorem lesl_parts {h : PHeap} {a : Option Addr} {n c : Nat} {xs : List KEnt} (hl : LESl h (.slice a n c) xs) : xs.length + 12 ≤ c ∧ c ≤ 9223372036854775807 ∧ Elems LEntR h a xs ∧ Elems EntR h a (xs ++ marksE 12) := by
  obtain ⟨p, c', e, h1, h2, h3, h4⟩ := hl
  injection e with e1 e2 e3
  subst e1; subst e3
  exact ⟨h1, h2, h3, h4⟩
theorem tf99 : cfB Tryz.prog 6 = true := by kernel_rfl
theorem tf100 : cfB Tryz.prog 34 = true := by kernel_rfl
theorem tf101 : cfB Tryz.prog 35 = true := by kernel_rfl
theorem tf102 : cfB Tryz.prog 37 = true := by kernel_rfl
theorem tf103 : cfB Tryz.prog 10 = true := by kernel_rfl
set_option maxHeartbeats 4000000 in
theorem tells_ok (β : Base) (w : World) (hw : St β [] w) (x : KWorld) (v : Value) (hs : Sl EntR β.heap v x.ents) (hxn : x.ents.length * 32 ≤ 140737488355328) (hxbig : ∀ (i : Nat) e, x.ents[i]? = some e → e.comps.length * 40 ≤ 140737488355328) (text : ByteArray) (ht : text.size ≤ 9223372036854775807) (tick_ : Int) (d word : UInt64) : Calls Tryz.prog 13 #[.agg #[Ix x.tick, v], .string text, Ix tick_, Ux d, Ux word] w fun r w' => r = .returned (.bool true) ∧ St β [] w' := by
  obtain ⟨va, vc, rfl, vl, vm, ve⟩ := hs.get
  refine enter (n := 90) Tryz.func13 rfl Tryz.ntmps13 rfl ?_ hw
  refine c_seq ?_
  refine c_region ?_
  refine l_mv rfl rfl rfl (m_box (v := .agg #[Ix (x.tick), .slice va (x.ents.length) (vc)]) rfl) ?_
  rintro _ _ ⟨b1, rfl, rfl⟩
  refine l_val (v := .bool false) rfl rfl rfl (e_assign) ?_
  refine l_nil ?_
  refine f_then ?_
  refine c_seq ?_
  obtain ⟨s6, hz7⟩ : ∃ z, z = (text).extract 0 (min ((text).size) 1000) := ⟨_, rfl⟩
  have zl8 : s6.size = min ((text).size) 1000 := by rw [hz7, ByteArray.size_extract]; omega
  refine c_any [⟨[], [], [0], [15], fun f => f 15 = .agg #[Ix (x.tick), .slice va (x.ents.length) (vc)]⟩, ⟨[0], [0], [], [16], fun f => f 16 = .agg #[Ix (x.tick), .slice (sla (prt 1 (f 16))) ((fewE x.ents).length) (slc (prt 1 (f 16)))]⟩, ⟨[], [], [1], [17], fun f => f 17 = .string (text)⟩, ⟨[], [], [1], [18], fun f => f 18 = .string (text)⟩, ⟨[3], [3], [], [19], fun f => f 19 = Nx ((text).size)⟩, ⟨[3, 4], [4], [], [20], fun f => f 20 = Nx (min ((text).size) 1000)⟩, ⟨[2, 3, 4, 5], [2, 5], [], [21], fun f => f 21 = .string (s6)⟩, ⟨[0, 1], [1], [0], [], fun _ => True⟩, ⟨[0, 1, 2, 3, 4, 5, 6, 7], [6], [], [1], fun f => f 1 = .string (s6)⟩] [⟨none, (some 7), [0, 7], [], fun _ => pt b1 (.cells #[Ix (x.tick), .slice va (x.ents.length) (vc)] 24)⟩, ⟨(some 1), none, [], [16], fun f => (fun h => Sl EntR h (.slice (sla (prt 1 (f 16))) ((fewE x.ents).length) (slc (prt 1 (f 16)))) (fewE x.ents))⟩, ⟨(some 7), none, [], [16], fun f => pt b1 (.cells #[Ix (x.tick), .slice (sla (prt 1 (f 16))) ((fewE x.ents).length) (slc (prt 1 (f 16)))] 24)⟩] [(5, .pointer (some ⟨b1, 0, none⟩)), (1, .string (text)), (2, Ix (tick_)), (3, Ux (d)), (4, Ux (word))] [2, 3, 4, 0] [] (by kernel_rfl) (by kernel_rfl) (by kernel_rfl) (by kernel_rfl) rfl ⟨rfl, rfl, rfl, rfl, rfl, trivial⟩ ⟨?_, ?_, ?_, ?_, ?_, ?_, ?_, ?_, ?_, trivial⟩ ?_
  · rintro f M - ⟨i0, -⟩
    have hs5 : f 5 = .pointer (some ⟨b1, 0, none⟩) := i0
    refine ob_start (L' := pt b1 (.cells #[Ix (x.tick), .slice va (x.ents.length) (vc)] 24) :: M) (by rfl) (up_cons rfl hs5) ?_
    refine l_val (v := .agg #[Ix (x.tick), .slice va (x.ents.length) (vc)]) rfl rfl rfl (e_load tf46 (cs := [Ix (x.tick), .slice va (x.ents.length) (vc)]) rfl (k_pt 0 (cs := #[Ix (x.tick), .slice va (x.ents.length) (vc)]) (vs := [Ix (x.tick), .slice va (x.ents.length) (vc)]) rfl rfl) rfl) ?_
    refine l_nil ?_
    exact f_owes_d (up_cons rfl hs5) rfl (perm_front 0 rfl)
  · rintro f M ⟨k0, -⟩ -
    have hs15 : f 15 = .agg #[Ix (x.tick), .slice va (x.ents.length) (vc)] := k0
    refine ob_start (L' := M) (by rfl) (up_cons rfl hs15) ?_
    refine l_call rfl rfl rfl (cl_value (fst := []) (cap := []) (vs := [.agg #[Ix (x.tick), .slice va (x.ents.length) (vc)]]) (all := [.agg #[Ix (x.tick), .slice va (x.ents.length) (vc)]]) tf75 rfl rfl rfl) ?_
    intro w hw
    obtain ⟨β1, sb, kn, hw1, back⟩ := St.frame_all hw
    refine (few_ok' β1 w hw1 x _ (Sl.mono _ _ _ _ _ sb (⟨⟨_, _, rfl, vl, vm, ve⟩⟩ : Sl EntR _ _ x.ents)) hxn hxbig).mono ?_
    rintro e w' ⟨p4, c5, rfl, hw'⟩
    refine ⟨_, rfl, _, back _ _ hw', ?_⟩
    clear hw hw1 hw' back kn sb
    refine l_nil ?_
    exact f_owes_d (up_cons rfl hs15) rfl (perm_front 0 rfl)
  · rintro f M - ⟨i0, -⟩
    have hs1 : f 1 = .string (text) := i0
    refine ob_start (L' := M) (by rfl) (up_cons rfl hs1) ?_
    refine l_val (v := .string (text)) rfl rfl rfl (e_move) ?_
    refine l_nil ?_
    exact f_owes_d (up_cons rfl hs1) rfl (List.Perm.refl _)
  · rintro f M - ⟨i0, -⟩
    have hs1 : f 1 = .string (text) := i0
    refine ob_start (L' := M) (by rfl) (up_cons rfl hs1) ?_
    refine l_val (v := .string (text)) rfl rfl rfl (e_move) ?_
    refine l_nil ?_
    exact f_owes_d (up_cons rfl hs1) rfl (List.Perm.refl _)
  · rintro f M ⟨k0, -⟩ -
    have hs18 : f 18 = .string (text) := k0
    refine ob_start (L' := M) (by rfl) (up_cons rfl hs18) ?_
    refine l_val (v := Nx ((text).size)) rfl rfl rfl (e_len_s (s := text) rfl tf7) ?_
    refine l_nil ?_
    exact f_owes_d (up_cons rfl hs18) rfl (List.Perm.refl _)
  · rintro f M ⟨k0, -⟩ -
    have hs19 : f 19 = Nx ((text).size) := k0
    refine ob_start (L' := M) (by rfl) (up_cons rfl hs19) ?_
    refine l_val (v := Nx (min ((text).size) 1000)) rfl rfl rfl (ev_eq (congrArg (Value.int .i64) (by omega)) (e_min (a := (((text).size : Nat) : Int)) (b := (1000 : Int)) rfl rfl)) ?_
    refine l_nil ?_
    exact f_owes_d (up_cons rfl hs19) rfl (List.Perm.refl _)
  · rintro f M ⟨k0, k1, -⟩ -
    have hs17 : f 17 = .string (text) := k0
    have hs20 : f 20 = Nx (min ((text).size) 1000) := k1
    refine ob_start (L' := M) (by rfl) (up_cons (up_cons rfl hs17) hs20) ?_
    refine l_val (v := .string (s6)) rfl rfl rfl (ev_eq (congrArg Value.string hz7.symm) (e_slice_s (s := text) (h := min ((text).size) 1000) tf7 rfl rfl (by omega))) ?_
    refine l_nil ?_
    exact f_owes_d (up_cons (up_cons rfl hs17) hs20) rfl (List.Perm.refl _)
  · rintro f M ⟨k0, -⟩ ⟨i0, -⟩
    have hs5 : f 5 = .pointer (some ⟨b1, 0, none⟩) := i0
    have hs16 : f 16 = .agg #[Ix (x.tick), .slice (sla (prt 1 (f 16))) ((fewE x.ents).length) (slc (prt 1 (f 16)))] := k0
    refine ob_start (L' := pt b1 (.cells #[Ix (x.tick), .slice va (x.ents.length) (vc)] 24) :: M) (by rfl) (up_cons (up_cons rfl hs5) hs16) ?_
    refine l_mu rfl rfl (m_store 0 tf46 (b := b1) (o := 0) (T := 24) (cs := #[Ix (x.tick), .slice va (x.ents.length) (vc)]) (cs' := #[Ix (x.tick), .slice (sla (prt 1 (f 16))) ((fewE x.ents).length) (slc (prt 1 (f 16)))]) (v := .agg #[Ix (x.tick), .slice (sla (prt 1 (f 16))) ((fewE x.ents).length) (slc (prt 1 (f 16)))]) rfl rfl rfl rfl rfl rfl rfl) ?_
    refine l_nil ?_
    exact f_owes_n (up_cons (up_cons rfl hs5) hs16) trivial (perm_front 0 rfl)
  · rintro f M ⟨k0, -⟩ -
    have hs21 : f 21 = .string (s6) := k0
    refine ob_start (L' := M) (by rfl) (up_cons rfl hs21) ?_
    refine l_val (v := .string (s6)) rfl rfl rfl (e_assign) ?_
    refine l_nil ?_
    exact f_owes_d (up_cons rfl hs21) rfl (List.Perm.refl _)
  rintro fa9 ⟨-, -, -, -, -, -, -, -, k8, -⟩ ⟨j0, j1, j2, j3, -⟩
  refine f_re (L' := [(fun h => Sl EntR h (.slice (sla (prt 1 (fa9 16))) ((fewE x.ents).length) (slc (prt 1 (fa9 16)))) (fewE x.ents)), pt b1 (.cells #[Ix (x.tick), .slice (sla (prt 1 (fa9 16))) ((fewE x.ents).length) (slc (prt 1 (fa9 16)))] 24)]) (by rfl) ?_
  refine f_rebase (d := 1) (v := .string (s6)) k8 ?_
  refine f_rebase (d := 2) (v := Ix (tick_)) j0 ?_
  refine f_rebase (d := 3) (v := Ux (d)) j1 ?_
  refine f_rebase (d := 4) (v := Ux (word)) j2 ?_
  refine f_rebase (d := 5) (v := .pointer (some ⟨b1, 0, none⟩)) j3 ?_
  refine f_then ?_
  refine c_seq ?_
  generalize (sla (prt 1 (fa9 16))) = fp_es
  generalize (slc (prt 1 (fa9 16))) = fc_es
  refine c_perm (L' := [pt b1 (.cells #[Ix (x.tick), .slice fp_es ((fewE x.ents).length) fc_es] 24), (fun h => Sl EntR h (.slice fp_es ((fewE x.ents).length) fc_es) (fewE x.ents))]) ((perm_front 0 rfl).trans (perm_front 1 rfl)) ?_
  refine c_freeze (M := [pt b1 (.cells #[Ix (x.tick), .slice fp_es ((fewE x.ents).length) fc_es] 24)]) (K := [(fun h => Sl EntR h (.slice fp_es ((fewE x.ents).length) fc_es) (fewE x.ents))]) rfl (fun β₁ ext₁ kn₁ => ?_)
  have hf := kn₁ _ (Knows.of_res 0 rfl (fun _ _ hs h => Sl.mono EntR _ _ _ _ hs h) fun _ h => h)
  obtain ⟨es, hes⟩ : ∃ z, z = fewE x.ents := ⟨_, rfl⟩
  have hesl : es.length ≤ 40 := by rw [hes]; simp [fewE]; omega
  rw [← hes] at hf ⊢
  obtain ⟨fp_esl, fp_esm, fp_ese⟩ := sl_parts hf
  clear hf
  have hesb := few_big hes
  refine c_region ?_
  refine l_val (v := .agg #[Ix (x.tick), .slice fp_es (es.length) (fc_es)]) rfl rfl rfl (e_load tf46 (cs := [Ix (x.tick), .slice fp_es (es.length) (fc_es)]) rfl (k_pt 0 (cs := #[Ix (x.tick), .slice fp_es (es.length) (fc_es)]) (vs := [Ix (x.tick), .slice fp_es (es.length) (fc_es)]) rfl rfl) rfl) ?_
  refine l_call rfl rfl rfl (cl_value (fst := []) (cap := []) (vs := [.agg #[Ix (x.tick), .slice fp_es (es.length) (fc_es)]]) (all := [.agg #[Ix (x.tick), .slice fp_es (es.length) (fc_es)]]) tf99 rfl rfl rfl) ?_
  intro w hw
  obtain ⟨β1, sb, kn, hw1, back⟩ := St.frame_all hw
  refine (lentWorld_ok β1 w hw1 (⟨x.tick, es⟩ : KWorld) _ (Sl.mono _ _ _ _ _ sb (⟨⟨_, _, rfl, fp_esl, fp_esm, fp_ese⟩⟩ : Sl EntR _ _ es)) (show es.length ≤ 1000 by omega) hesb).mono ?_
  rintro e w' ⟨p10, c11, vs12, rfl, hvs, hw'⟩
  refine ⟨_, rfl, _, St.perm (L' := row (.slice p10 (es.length + 12) c11) 35 2 (es.length + 12) ((entCells (vs12 ++ nils 12) (es ++ marksE 12))) :: pt b1 (.cells #[Ix (x.tick), .slice fp_es (es.length) (fc_es)] 24) :: (lentRows vs12 es)) (back _ _ hw') (List.Perm.cons _ List.perm_append_comm), ?_⟩
  clear hw hw1 hw' back kn sb
  refine l_mv rfl rfl rfl (m_alloc tf49) ?_
  rintro _ _ ⟨b13, rfl, rfl⟩
  refine l_mu rfl rfl (m_store 0 tf46 (b := b13) (o := 0) (T := 24) (cs := #[.int .i64 (0), .slice none 0 0]) (cs' := #[Ix (x.tick), .slice p10 (es.length) c11]) (v := .agg #[Ix (x.tick), .slice p10 (es.length) c11]) rfl rfl rfl rfl rfl rfl rfl) ?_
  refine l_nil ?_
  refine f_then ?_
  refine c_seq ?_
  refine c_seq ?_
  refine c_perm (L' := (pt b13 (.cells #[Ix (x.tick), .slice p10 (es.length) c11] 24) :: pt b1 (.cells #[Ix (x.tick), .slice fp_es (es.length) (fc_es)] 24) :: row (.slice p10 (es.length + 12) c11) 35 2 (es.length + 12) ((entCells (vs12 ++ nils 12) (es ++ marksE 12))) :: (lentRows vs12 es))) (((perm_front 1 rfl).trans (perm_front 2 rfl)).trans (perm_front 2 rfl)) ?_
  refine c_freeze2 (M := [pt b13 (.cells #[Ix (x.tick), .slice p10 (es.length) c11] 24), pt b1 (.cells #[Ix (x.tick), .slice fp_es (es.length) (fc_es)] 24)]) (K := (row (.slice p10 (es.length + 12) c11) 35 2 (es.length + 12) ((entCells (vs12 ++ nils 12) (es ++ marksE 12))) :: (lentRows vs12 es))) rfl (fun β₂ ext₂ kn₂ backkn₂ => ?_)
  have hLE : LESl β₂.heap (.slice p10 es.length c11) es := lent_ents hvs rfl (kn₂ (fun H => ∃ a, Sub a H ∧ (row (.slice p10 (es.length + 12) c11) 35 2 (es.length + 12) ((entCells (vs12 ++ nils 12) (es ++ marksE 12)))) a) (fun h hs hr => hr _ List.mem_cons_self)) (kn₂ (fun H => ∀ r ∈ (lentRows vs12 es), ∃ a, Sub a H ∧ r a) (fun h hs hr r hm => hr r (List.mem_cons_of_mem _ hm)))
  obtain ⟨Lesl, Lesm, Lese, Lesf⟩ := lesl_parts hLE
  have Less := Elems.left Lesf
  clear hLE hvs
  replace fp_ese := Elems.mono EntR _ _ _ _ ext₂.sub fp_ese
  refine c_quiet (by kernel_rfl) (by kernel_rfl) ?_
  refine q_val (v := .agg #[Ix (x.tick), .slice p10 (es.length) (c11)]) rfl rfl rfl (e_load tf46 (cs := [Ix (x.tick), .slice p10 (es.length) (c11)]) rfl (k_pt 0 (cs := #[Ix (x.tick), .slice p10 (es.length) (c11)]) (vs := [Ix (x.tick), .slice p10 (es.length) (c11)]) rfl rfl) rfl) ?_
  refine q_call (v := Ux (worldU (⟨x.tick, es⟩ : KWorld))) rfl rfl rfl (cl_value (fst := []) (cap := []) (vs := [.agg #[Ix (x.tick), .slice p10 (es.length) (c11)]]) (all := [.agg #[Ix (x.tick), .slice p10 (es.length) (c11)]]) tf59 rfl rfl rfl) (fun w hw => ?_) ?_
  · obtain ⟨β1, sb, kn, hw1, back⟩ := St.frame_all hw
    exact (world_ok β1 w hw1 (⟨x.tick, es⟩ : KWorld) _ (Sl.mono _ _ _ _ _ sb (⟨⟨_, _, rfl, by omega, Lesm, Less⟩⟩ : Sl EntR _ _ es))).mono (fun e w' ⟨he, hw'⟩ => ⟨he, st_mask [true, true] rfl (back _ _ hw')⟩)
  refine q_val (v := .agg #[Ix (x.tick), .slice fp_es (es.length) (fc_es)]) rfl rfl rfl (e_load tf46 (cs := [Ix (x.tick), .slice fp_es (es.length) (fc_es)]) rfl (k_pt 1 (cs := #[Ix (x.tick), .slice fp_es (es.length) (fc_es)]) (vs := [Ix (x.tick), .slice fp_es (es.length) (fc_es)]) rfl rfl) rfl) ?_
  refine q_call (v := Ux (worldU (⟨x.tick, es⟩ : KWorld))) rfl rfl rfl (cl_value (fst := []) (cap := []) (vs := [.agg #[Ix (x.tick), .slice fp_es (es.length) (fc_es)]]) (all := [.agg #[Ix (x.tick), .slice fp_es (es.length) (fc_es)]]) tf100 rfl rfl rfl) (fun w hw => ?_) ?_
  · obtain ⟨β1, sb, kn, hw1, back⟩ := St.frame_all hw
    exact (rworld_ok β1 w hw1 (⟨x.tick, es⟩ : KWorld) _ (Sl.mono _ _ _ _ _ sb (⟨⟨_, _, rfl, fp_esl, fp_esm, fp_ese⟩⟩ : Sl EntR _ _ es)) hesb).mono (fun e w' ⟨he, hw'⟩ => ⟨he, st_mask [true, true] rfl (back _ _ hw')⟩)
  refine q_val (v := .bool (decide (((worldU (⟨x.tick, es⟩ : KWorld)).toNat : Int) ≠ ((worldU (⟨x.tick, es⟩ : KWorld)).toNat : Int)))) rfl rfl rfl (e_neq (a := ((worldU (⟨x.tick, es⟩ : KWorld)).toNat : Int)) (b := ((worldU (⟨x.tick, es⟩ : KWorld)).toNat : Int)) rfl rfl) ?_
  refine q_val (v := .bool (decide (((worldU (⟨x.tick, es⟩ : KWorld)).toNat : Int) ≠ ((worldU (⟨x.tick, es⟩ : KWorld)).toNat : Int)))) rfl rfl rfl (e_move) ?_
  refine q_split (s := 29) (p := ((worldU (⟨x.tick, es⟩ : KWorld)).toNat : Int) ≠ ((worldU (⟨x.tick, es⟩ : KWorld)).toNat : Int)) rfl (fun h => ?_) (fun h => ?_)
  exact absurd h (fun h => h rfl)
  refine qg_val (v := .string (s6)) rfl rfl rfl rfl rfl (e_move) ?_
  refine qg_call (v := Ux (seqU (wordsB s6))) rfl rfl rfl rfl rfl (cl_value (fst := []) (cap := []) (vs := [.string (s6)]) (all := [.string (s6)]) tf56 rfl rfl rfl) (fun w hw => ?_) ?_
  · obtain ⟨β1, sb, kn, hw1, back⟩ := St.frame_all hw
    exact (name_ok β1 w hw1 s6 (by omega)).mono (fun e w' ⟨he, hw'⟩ => ⟨he, st_mask [true, true] rfl (back _ _ hw')⟩)
  refine qg_val (v := .string (s6)) rfl rfl rfl rfl rfl (e_move) ?_
  refine qg_call (v := Ux (seqU (wordsB s6))) rfl rfl rfl rfl rfl (cl_value (fst := []) (cap := []) (vs := [.string (s6)]) (all := [.string (s6)]) tf101 rfl rfl rfl) (fun w hw => ?_) ?_
  · obtain ⟨β1, sb, kn, hw1, back⟩ := St.frame_all hw
    exact (rname_ok β1 w hw1 s6 (by omega)).mono (fun e w' ⟨he, hw'⟩ => ⟨he, st_mask [true, true] rfl (back _ _ hw')⟩)
  refine qg_val (v := .bool (decide (((seqU (wordsB s6)).toNat : Int) ≠ ((seqU (wordsB s6)).toNat : Int)))) rfl rfl rfl rfl rfl (e_neq (a := ((seqU (wordsB s6)).toNat : Int)) (b := ((seqU (wordsB s6)).toNat : Int)) rfl rfl) ?_
  refine q_val (v := .bool (decide (((seqU (wordsB s6)).toNat : Int) ≠ ((seqU (wordsB s6)).toNat : Int)))) rfl rfl rfl (e_pick_f rfl) ?_
  refine q_val (v := .bool (decide (((seqU (wordsB s6)).toNat : Int) ≠ ((seqU (wordsB s6)).toNat : Int)))) rfl rfl rfl (e_move) ?_
  refine q_split (s := 36) (p := ((seqU (wordsB s6)).toNat : Int) ≠ ((seqU (wordsB s6)).toNat : Int)) rfl (fun h => ?_) (fun h => ?_)
  exact absurd h (fun h => h rfl)
  refine qg_val (v := Ix (tick_)) rfl rfl rfl rfl rfl (e_move) ?_
  refine qg_call (v := Ux (tickU (tick_))) rfl rfl rfl rfl rfl (cl_value (fst := []) (cap := []) (vs := [Ix (tick_)]) (all := [Ix (tick_)]) tf28 rfl rfl rfl) (fun w hw => ?_) ?_
  · obtain ⟨β1, sb, kn, hw1, back⟩ := St.frame_all hw
    exact (tick_ok β1 w hw1 (tick_)).mono (fun e w' ⟨he, hw'⟩ => ⟨he, st_mask [true, true] rfl (back _ _ hw')⟩)
  refine qg_val (v := Ix (tick_)) rfl rfl rfl rfl rfl (e_move) ?_
  refine qg_call (v := Ux (tickU (tick_))) rfl rfl rfl rfl rfl (cl_value (fst := []) (cap := []) (vs := [Ix (tick_)]) (all := [Ix (tick_)]) tf81 rfl rfl rfl) (fun w hw => ?_) ?_
  · obtain ⟨β1, sb, kn, hw1, back⟩ := St.frame_all hw
    exact (rtick_ok β1 w hw1 (tick_)).mono (fun e w' ⟨he, hw'⟩ => ⟨he, st_mask [true, true] rfl (back _ _ hw')⟩)
  refine qg_val (v := .bool (decide (((tickU (tick_)).toNat : Int) ≠ ((tickU (tick_)).toNat : Int)))) rfl rfl rfl rfl rfl (e_neq (a := ((tickU (tick_)).toNat : Int)) (b := ((tickU (tick_)).toNat : Int)) rfl rfl) ?_
  refine q_val (v := .bool (decide (((tickU (tick_)).toNat : Int) ≠ ((tickU (tick_)).toNat : Int)))) rfl rfl rfl (e_pick_f rfl) ?_
  refine q_val (v := .bool (decide (((tickU (tick_)).toNat : Int) ≠ ((tickU (tick_)).toNat : Int)))) rfl rfl rfl (e_move) ?_
  refine q_split (s := 43) (p := ((tickU (tick_)).toNat : Int) ≠ ((tickU (tick_)).toNat : Int)) rfl (fun h => ?_) (fun h => ?_)
  exact absurd h (fun h => h rfl)
  refine qg_val (v := Ux (d)) rfl rfl rfl rfl rfl (e_move) ?_
  refine qg_val (v := Ux (word)) rfl rfl rfl rfl rfl (e_move) ?_
  refine qg_call (v := Ux (chainU d word)) rfl rfl rfl rfl rfl (cl_value (fst := []) (cap := []) (vs := [Ux (d), Ux (word)]) (all := [Ux (d), Ux (word)]) tf3 rfl rfl rfl) (fun w hw => ?_) ?_
  · obtain ⟨β1, sb, kn, hw1, back⟩ := St.frame_all hw
    exact (chain_ok β1 w hw1 d word).mono (fun e w' ⟨he, hw'⟩ => ⟨he, st_mask [true, true] rfl (back _ _ hw')⟩)
  refine qg_val (v := Ux (d)) rfl rfl rfl rfl rfl (e_move) ?_
  refine qg_val (v := Ux (word)) rfl rfl rfl rfl rfl (e_move) ?_
  refine qg_call (v := Ux (chainU d word)) rfl rfl rfl rfl rfl (cl_value (fst := []) (cap := []) (vs := [Ux (d), Ux (word)]) (all := [Ux (d), Ux (word)]) tf102 rfl rfl rfl) (fun w hw => ?_) ?_
  · obtain ⟨β1, sb, kn, hw1, back⟩ := St.frame_all hw
    exact (rchain_ok β1 w hw1 d word).mono (fun e w' ⟨he, hw'⟩ => ⟨he, st_mask [true, true] rfl (back _ _ hw')⟩)
  refine qg_val (v := .bool (decide (((chainU d word).toNat : Int) ≠ ((chainU d word).toNat : Int)))) rfl rfl rfl rfl rfl (e_neq (a := ((chainU d word).toNat : Int)) (b := ((chainU d word).toNat : Int)) rfl rfl) ?_
  refine q_val (v := .bool (decide (((chainU d word).toNat : Int) ≠ ((chainU d word).toNat : Int)))) rfl rfl rfl (e_pick_f rfl) ?_
  refine q_nil ?_
  refine f_then ?_
  refine c_if (((chainU d word).toNat : Int) ≠ ((chainU d word).toNat : Int)) rfl (fun hc14 => ?_) (fun hc14 => ?_)
  ·
    exact absurd hc14 (fun h => h rfl)
  ·
    refine c_skip ?_
    refine f_then ?_
    refine c_seq ?_
    refine c_seq ?_
    refine c_region ?_
    refine l_val (v := .pointer (some ⟨b13, 1, none⟩)) rfl rfl rfl (e_fieldPt (b := b13) (o := 0) rfl tf29) ?_
    refine l_val (v := .slice p10 (es.length) (c11)) rfl rfl rfl (e_load1 tf30 (v := .slice p10 (es.length) (c11)) rfl (k_pt 0 (cs := #[Ix (x.tick), .slice p10 (es.length) (c11)]) (vs := [.slice p10 (es.length) (c11)]) rfl rfl)) ?_
    refine l_val (v := Nx (es.length)) rfl rfl rfl (e_len (a := p10) (n := es.length) (c := c11) rfl tf31) ?_
    refine l_val (v := .int .i64 (0)) rfl rfl rfl (e_move) ?_
    refine l_nil ?_
    refine f_then ?_
    refine c_block ?_
    refine c_loop (fun (k : Nat) (f : Fm) (L : List Res) => (f 3 = Ux (d) ∧ f 5 = .pointer (some ⟨b1, 0, none⟩) ∧ f 11 = .pointer (some ⟨b13, 0, none⟩) ∧ f 53 = .slice p10 (es.length) (c11) ∧ f 54 = Nx (es.length) ∧ f 55 = Nx (k)) ∧ L = [pt b13 (.cells #[Ix (x.tick), .slice p10 (es.length) (c11)] 24), pt b1 (.cells #[Ix (x.tick), .slice fp_es (es.length) (fc_es)] 24)] ∧ (k ≤ es.length)) (fun (k : Nat) => es.length - k) 0 ?_ ?_
    · exact ⟨⟨rfl, rfl, rfl, rfl, rfl, rfl⟩, rfl, (by omega)⟩
    rintro k f0 L0 ⟨⟨hs3, hs5, hs11, hs53, hs54, hs55⟩, hL, hk⟩
    subst L0
    refine rebase (d := 3) hs3 ?_
    refine rebase (d := 5) hs5 ?_
    refine rebase (d := 11) hs11 ?_
    refine rebase (d := 53) hs53 ?_
    refine rebase (d := 54) hs54 ?_
    refine rebase (d := 55) hs55 ?_
    clear hs3 hs5 hs11 hs53 hs54 hs55
    refine c_seq ?_
    refine c_region ?_
    refine l_val (v := .bool (decide (((k : Nat) : Int) < ((es.length : Nat) : Int)))) rfl rfl rfl (e_lss (a := ((k : Nat) : Int)) (b := ((es.length : Nat) : Int)) rfl rfl) ?_
    refine l_nil ?_
    refine f_then ?_
    refine c_seq ?_
    refine c_if (((k : Nat) : Int) < ((es.length : Nat) : Int)) rfl (fun hc15 => ?_) (fun hc15 => ?_)
    ·
      refine c_skip ?_
      refine f_then ?_
      refine c_seq ?_
      refine c_block ?_
      refine c_seq ?_
      refine c_region ?_
      obtain ⟨x16, hx17⟩ : ∃ x_, (es)[k]? = some x_ := ⟨_, List.getElem?_eq_getElem (by omega)⟩
      obtain ⟨ha18, cs19, hc20, hr21⟩ := Less _ _ hx17
      obtain ⟨v22, rfl, hv23⟩ := hr21
      obtain ⟨v22a, v22c, rfl, v22l, v22m, v22e⟩ := hv23.get
      refine l_val (v := .pointer (some ((ba p10).add (k * 2)))) rfl rfl rfl (e_indexAddr (k := k) (len := es.length) (cap := c11) (a := p10) rfl rfl tf32 (by omega) ha18) ?_
      refine l_val (v := .agg #[Ix (x16.id), .slice v22a (x16.comps.length) (v22c)]) rfl rfl rfl (e_load tf24 (cs := [Ix (x16.id), .slice v22a (x16.comps.length) (v22c)]) rfl (Knows.of_base (Cs.mono _ _) hc20) rfl) ?_
      refine l_mv rfl rfl rfl (m_alloc tf33) ?_
      rintro _ _ ⟨b24, rfl, rfl⟩
      refine l_mu rfl rfl (m_store 0 tf24 (b := b24) (o := 0) (T := 35) (cs := #[.int .i64 (0), .slice none 0 0]) (cs' := #[Ix (x16.id), .slice v22a (x16.comps.length) (v22c)]) (v := .agg #[Ix (x16.id), .slice v22a (x16.comps.length) (v22c)]) rfl rfl rfl rfl rfl rfl rfl) ?_
      refine l_nil ?_
      refine f_then ?_
      refine c_seq ?_
      refine c_region ?_
      refine l_val (v := .agg #[Ix (x16.id), .slice v22a (x16.comps.length) (v22c)]) rfl rfl rfl (e_load tf24 (cs := [Ix (x16.id), .slice v22a (x16.comps.length) (v22c)]) rfl (k_pt 0 (cs := #[Ix (x16.id), .slice v22a (x16.comps.length) (v22c)]) (vs := [Ix (x16.id), .slice v22a (x16.comps.length) (v22c)]) rfl rfl) rfl) ?_
      refine l_call rfl rfl rfl (cl_value (fst := []) (cap := []) (vs := [.agg #[Ix (x16.id), .slice v22a (x16.comps.length) (v22c)]]) (all := [.agg #[Ix (x16.id), .slice v22a (x16.comps.length) (v22c)]]) tf82 rfl rfl rfl) ?_
      intro w hw
      obtain ⟨β1, sb, kn, hw1, back⟩ := St.frame_all hw
      refine (rentity_ok β1 w hw1 x16 _ (Sl.mono _ _ _ _ _ sb (⟨⟨_, _, rfl, v22l, v22m, v22e⟩⟩ : Sl CompR _ _ x16.comps)) (by have := hesb _ _ hx17; omega)).mono ?_
      rintro e w' ⟨rfl, hw'⟩
      refine ⟨_, rfl, _, back _ _ hw', ?_⟩
      clear hw hw1 hw' back kn sb
      refine l_val (v := Ux (entU x16)) rfl rfl rfl (e_assign) ?_
      refine l_nil ?_
      refine f_then ?_
      refine c_seq ?_
      refine c_region ?_
      refine l_val (v := .agg #[Ix (x16.id), .slice v22a (x16.comps.length) (v22c)]) rfl rfl rfl (e_load tf24 (cs := [Ix (x16.id), .slice v22a (x16.comps.length) (v22c)]) rfl (k_pt 0 (cs := #[Ix (x16.id), .slice v22a (x16.comps.length) (v22c)]) (vs := [Ix (x16.id), .slice v22a (x16.comps.length) (v22c)]) rfl rfl) rfl) ?_
      refine l_call rfl rfl rfl (cl_value (fst := []) (cap := []) (vs := [.agg #[Ix (x16.id), .slice v22a (x16.comps.length) (v22c)]]) (all := [.agg #[Ix (x16.id), .slice v22a (x16.comps.length) (v22c)]]) tf26 rfl rfl rfl) ?_
      intro w hw
      obtain ⟨β1, sb, kn, hw1, back⟩ := St.frame_all hw
      refine (entity_ok β1 w hw1 x16 _ (Sl.mono _ _ _ _ _ sb (⟨⟨_, _, rfl, v22l, v22m, v22e⟩⟩ : Sl CompR _ _ x16.comps))).mono ?_
      rintro e w' ⟨rfl, hw'⟩
      refine ⟨_, rfl, _, back _ _ hw', ?_⟩
      clear hw hw1 hw' back kn sb
      refine l_val (v := Ux (entU x16)) rfl rfl rfl (e_move) ?_
      refine l_val (v := .bool (decide (((entU x16).toNat : Int) ≠ ((entU x16).toNat : Int)))) rfl rfl rfl (e_neq (a := ((entU x16).toNat : Int)) (b := ((entU x16).toNat : Int)) rfl rfl) ?_
      refine l_val (v := .bool (decide (((entU x16).toNat : Int) ≠ ((entU x16).toNat : Int)))) rfl rfl rfl (e_move) ?_
      refine l_split (s := 65) (p := ((entU x16).toNat : Int) ≠ ((entU x16).toNat : Int)) rfl (fun h => ?_) (fun h => ?_)
      exact absurd h (fun h => h rfl)
      refine g_val (v := Ux (d)) rfl rfl rfl rfl rfl (e_move) ?_
      refine g_val (v := .agg #[Ix (x16.id), .slice v22a (x16.comps.length) (v22c)]) rfl rfl rfl rfl rfl (e_load tf24 (cs := [Ix (x16.id), .slice v22a (x16.comps.length) (v22c)]) rfl (k_pt 0 (cs := #[Ix (x16.id), .slice v22a (x16.comps.length) (v22c)]) (vs := [Ix (x16.id), .slice v22a (x16.comps.length) (v22c)]) rfl rfl) rfl) ?_
      refine g_call rfl rfl rfl rfl rfl (cl_value (fst := []) (cap := []) (vs := [Ux (d), .agg #[Ix (x16.id), .slice v22a (x16.comps.length) (v22c)]]) (all := [Ux (d), .agg #[Ix (x16.id), .slice v22a (x16.comps.length) (v22c)]]) tf34 rfl rfl rfl) ?_
      intro w hw
      obtain ⟨β1, sb, kn, hw1, back⟩ := St.frame_all hw
      refine (with_ok β1 w hw1 d x16 _ (Sl.mono _ _ _ _ _ sb (⟨⟨_, _, rfl, v22l, v22m, v22e⟩⟩ : Sl CompR _ _ x16.comps))).mono ?_
      rintro e w' ⟨rfl, hw'⟩
      refine ⟨_, rfl, _, back _ _ hw', ?_⟩
      clear hw hw1 hw' back kn sb
      refine g_val (v := Ux (d)) rfl rfl rfl rfl rfl (e_move) ?_
      refine g_val (v := Ux (entU x16)) rfl rfl rfl rfl rfl (e_move) ?_
      refine g_val (v := Ux (d + (entU x16))) rfl rfl rfl rfl rfl (e_add (a := ((d).toNat : Int)) (b := ((entU x16).toNat : Int)) rfl rfl (ux_add _ _)) ?_
      refine g_val (v := .bool (decide (((d + entU x16).toNat : Int) ≠ ((d + (entU x16)).toNat : Int)))) rfl rfl rfl rfl rfl (e_neq (a := ((d + entU x16).toNat : Int)) (b := ((d + (entU x16)).toNat : Int)) rfl rfl) ?_
      refine l_val (v := .bool (decide (((d + entU x16).toNat : Int) ≠ ((d + (entU x16)).toNat : Int)))) rfl rfl rfl (e_pick_f rfl) ?_
      refine l_val (v := .bool (decide (((d + entU x16).toNat : Int) ≠ ((d + (entU x16)).toNat : Int)))) rfl rfl rfl (e_move) ?_
      refine l_split (s := 74) (p := ((d + entU x16).toNat : Int) ≠ ((d + (entU x16)).toNat : Int)) rfl (fun h => ?_) (fun h => ?_)
      exact absurd h (fun h => h rfl)
      refine g_val (v := Ux (d)) rfl rfl rfl rfl rfl (e_move) ?_
      refine g_val (v := .agg #[Ix (x16.id), .slice v22a (x16.comps.length) (v22c)]) rfl rfl rfl rfl rfl (e_load tf24 (cs := [Ix (x16.id), .slice v22a (x16.comps.length) (v22c)]) rfl (k_pt 0 (cs := #[Ix (x16.id), .slice v22a (x16.comps.length) (v22c)]) (vs := [Ix (x16.id), .slice v22a (x16.comps.length) (v22c)]) rfl rfl) rfl) ?_
      refine g_call rfl rfl rfl rfl rfl (cl_value (fst := []) (cap := []) (vs := [Ux (d), .agg #[Ix (x16.id), .slice v22a (x16.comps.length) (v22c)]]) (all := [Ux (d), .agg #[Ix (x16.id), .slice v22a (x16.comps.length) (v22c)]]) tf60 rfl rfl rfl) ?_
      intro w hw
      obtain ⟨β1, sb, kn, hw1, back⟩ := St.frame_all hw
      refine (without_ok β1 w hw1 d x16 _ (Sl.mono _ _ _ _ _ sb (⟨⟨_, _, rfl, v22l, v22m, v22e⟩⟩ : Sl CompR _ _ x16.comps))).mono ?_
      rintro e w' ⟨rfl, hw'⟩
      refine ⟨_, rfl, _, back _ _ hw', ?_⟩
      clear hw hw1 hw' back kn sb
      refine g_val (v := Ux (d)) rfl rfl rfl rfl rfl (e_move) ?_
      refine g_val (v := Ux (entU x16)) rfl rfl rfl rfl rfl (e_move) ?_
      refine g_val (v := Ux (d - (entU x16))) rfl rfl rfl rfl rfl (e_sub (a := ((d).toNat : Int)) (b := ((entU x16).toNat : Int)) rfl rfl (ux_sub _ _)) ?_
      refine g_val (v := .bool (decide (((d - entU x16).toNat : Int) ≠ ((d - (entU x16)).toNat : Int)))) rfl rfl rfl rfl rfl (e_neq (a := ((d - entU x16).toNat : Int)) (b := ((d - (entU x16)).toNat : Int)) rfl rfl) ?_
      refine l_val (v := .bool (decide (((d - entU x16).toNat : Int) ≠ ((d - (entU x16)).toNat : Int)))) rfl rfl rfl (e_pick_f rfl) ?_
      refine l_nil ?_
      refine f_then ?_
      refine c_if (((d - entU x16).toNat : Int) ≠ ((d - (entU x16)).toNat : Int)) rfl (fun hc25 => ?_) (fun hc25 => ?_)
      ·
        exact absurd hc25 (fun h => h rfl)
      ·
        refine c_skip ?_
        refine f_block ?_
        refine f_then ?_
        refine c_region ?_
        refine l_val (v := Nx (k + 1)) rfl rfl rfl (e_add (a := ((k : Nat) : Int)) (b := (1 : Int)) rfl rfl (i64n (by omega) (by omega))) ?_
        refine l_val (v := Nx (k + 1)) rfl rfl rfl (e_move) ?_
        refine l_nil ?_
        refine f_mask (L' := [pt b13 (.cells #[Ix (x.tick), .slice p10 (es.length) (c11)] 24), pt b1 (.cells #[Ix (x.tick), .slice fp_es (es.length) (fc_es)] 24)]) [false, true, true] rfl ?_
        exact f_cut ⟨k + 1, ⟨⟨rfl, rfl, rfl, rfl, rfl, rfl⟩, rfl, (by omega)⟩, (show es.length - (k + 1) < es.length - k from by omega)⟩
    ·
      refine c_exit ?_
      refine f_then_exit ?_
      refine f_then_exit ?_
      refine f_exit ?_
      refine f_then ?_
      refine c_seq ?_
      refine c_region ?_
      refine l_val (v := .agg #[Ix (x.tick), .slice p10 (es.length) (c11)]) rfl rfl rfl (e_load tf46 (cs := [Ix (x.tick), .slice p10 (es.length) (c11)]) rfl (k_pt 0 (cs := #[Ix (x.tick), .slice p10 (es.length) (c11)]) (vs := [Ix (x.tick), .slice p10 (es.length) (c11)]) rfl rfl) rfl) ?_
      refine l_val (v := .agg #[Ix (x.tick), .slice fp_es (es.length) (fc_es)]) rfl rfl rfl (e_load tf46 (cs := [Ix (x.tick), .slice fp_es (es.length) (fc_es)]) rfl (k_pt 1 (cs := #[Ix (x.tick), .slice fp_es (es.length) (fc_es)]) (vs := [Ix (x.tick), .slice fp_es (es.length) (fc_es)]) rfl rfl) rfl) ?_
      refine l_call rfl rfl rfl (cl_value (fst := []) (cap := []) (vs := [.agg #[Ix (x.tick), .slice p10 (es.length) (c11)], .agg #[Ix (x.tick), .slice fp_es (es.length) (fc_es)]]) (all := [.agg #[Ix (x.tick), .slice p10 (es.length) (c11)], .agg #[Ix (x.tick), .slice fp_es (es.length) (fc_es)]]) tf103 rfl rfl rfl) ?_
      intro w hw
      obtain ⟨β1, sb, kn, hw1, back⟩ := St.frame_all hw
      refine (keptWorld_ok β1 w hw1 (⟨x.tick, es⟩ : KWorld) (⟨x.tick, es⟩ : KWorld) _ _ (LESl.mono _ _ _ _ sb (⟨_, _, rfl, Lesl, Lesm, Lese, Lesf⟩ : LESl _ _ es)) (Sl.mono _ _ _ _ _ sb (⟨⟨_, _, rfl, fp_esl, fp_esm, fp_ese⟩⟩ : Sl EntR _ _ es))).mono ?_
      rintro e w' ⟨rfl, hw'⟩
      refine ⟨_, rfl, _, back _ _ hw', ?_⟩
      clear hw hw1 hw' back kn sb
      refine l_val (v := .bool (decide ((⟨x.tick, es⟩ : KWorld) = (⟨x.tick, es⟩ : KWorld)))) rfl rfl rfl (e_move) ?_
      refine l_split (s := 87) (p := (⟨x.tick, es⟩ : KWorld) = (⟨x.tick, es⟩ : KWorld)) rfl (fun h => ?_) (fun h => ?_)
      rotate_left; exact absurd rfl h
      refine g_call rfl rfl rfl rfl rfl (cl_value (fst := []) (cap := []) (vs := []) (all := []) tf63 rfl rfl rfl) ?_
      intro w hw
      obtain ⟨β1, sb, kn, hw1, back⟩ := St.frame_all hw
      refine (awake_ok β1 w hw1).mono ?_
      rintro e w' ⟨rfl, hw'⟩
      refine ⟨_, rfl, _, back _ _ hw', ?_⟩
      clear hw hw1 hw' back kn sb
      refine l_val (v := .bool true) rfl rfl rfl (e_pick_t rfl) ?_
      refine l_val (v := .bool true) rfl rfl rfl (e_assign) ?_
      refine l_nil ?_
      refine f_then ?_
      refine c_ret ?_
      refine ret1 Tryz.results13 (v := .bool true) rfl ?_
      intro w hw
      exact ⟨rfl, St.weaken ext₁ (St.weaken ext₂ (st_mask [false, false] rfl hw))⟩
end Go.Proofs
