import Derived.Test.YtbfidhbcojbklaaDgApartL
namespace Go.Proofs
open Go Go.Sl
theorem tf75 : cfB Try.prog 9 = true := by kernel_rfl
theorem tf76 : Try.prog.underlying 75 = some (.int .u64) := by kernel_rfl
theorem tf77 : cfB Try.prog 26 = true := by kernel_rfl
theorem tf78 : cfB Try.prog 27 = true := by kernel_rfl
set_option maxHeartbeats 4000000 in
theorem apart_ok (β : Base) (w : World) (hw : St β [] w) (x : KWorld) (v : Value) (hs : Sl EntR β.heap v x.ents) (hxn : x.ents.length * 32 ≤ 140737488355328) (hxbig : ∀ (i : Nat) e, x.ents[i]? = some e → e.comps.length * 40 ≤ 140737488355328) (y : Value) (what : List UInt8) (hy : Sl U8R β.heap y what) : Calls Try.prog 8 #[.agg #[Ix x.tick, v], y] w fun r w' => r = .returned (.bool true) ∧ St β [] w' := by
  obtain ⟨va, vc, rfl, vl, vm, ve⟩ := hs.get
  obtain ⟨ya, yc, rfl, yl, ym, ye⟩ := hy.get
  refine enter (n := 128) Try.func8 rfl Try.ntmps8 rfl ?_ hw
  refine c_seq ?_
  refine c_region ?_
  refine l_mv rfl rfl rfl (m_box (v := .agg #[Ix (x.tick), .slice va (x.ents.length) (vc)]) rfl) ?_
  rintro _ _ ⟨b1, rfl, rfl⟩
  refine l_val (v := .bool false) rfl rfl rfl (e_assign) ?_
  refine l_nil ?_
  refine f_then ?_
  refine c_seq ?_
  refine c_region ?_
  refine l_val (v := .agg #[Ix (x.tick), .slice va (x.ents.length) (vc)]) rfl rfl rfl (e_load tf46 (cs := [Ix (x.tick), .slice va (x.ents.length) (vc)]) rfl (k_pt 0 (cs := #[Ix (x.tick), .slice va (x.ents.length) (vc)]) (vs := [Ix (x.tick), .slice va (x.ents.length) (vc)]) rfl rfl) rfl) ?_
  refine l_call rfl rfl rfl (cl_value (fst := []) (cap := []) (vs := [.agg #[Ix (x.tick), .slice va (x.ents.length) (vc)]]) (all := [.agg #[Ix (x.tick), .slice va (x.ents.length) (vc)]]) tf75 rfl rfl rfl) ?_
  intro w hw
  obtain ⟨β1, sb, kn, hw1, back⟩ := St.frame_all hw
  refine (few_ok' β1 w hw1 x _ (Sl.mono _ _ _ _ _ sb (⟨⟨_, _, rfl, vl, vm, ve⟩⟩ : Sl EntR _ _ x.ents)) hxn hxbig).mono ?_
  rintro e w' ⟨p2, c3, rfl, hw'⟩
  refine ⟨_, rfl, _, back _ _ hw', ?_⟩
  clear hw hw1 hw' back kn sb
  refine l_mu rfl rfl (m_store 1 tf46 (b := b1) (o := 0) (T := 24) (cs := #[Ix (x.tick), .slice va (x.ents.length) (vc)]) (cs' := #[Ix (x.tick), .slice p2 ((fewE x.ents).length) c3]) (v := .agg #[Ix (x.tick), .slice p2 ((fewE x.ents).length) c3]) rfl rfl rfl rfl rfl rfl rfl) ?_
  refine l_nil ?_
  refine f_then ?_
  refine c_seq ?_
  refine c_perm (L' := [pt b1 (.cells #[Ix (x.tick), .slice p2 ((fewE x.ents).length) c3] 24), (fun h => Sl EntR h (.slice p2 ((fewE x.ents).length) c3) (fewE x.ents))]) ((perm_front 0 rfl).trans (perm_front 1 rfl)) ?_
  refine c_freeze (M := [pt b1 (.cells #[Ix (x.tick), .slice p2 ((fewE x.ents).length) c3] 24)]) (K := [(fun h => Sl EntR h (.slice p2 ((fewE x.ents).length) c3) (fewE x.ents))]) rfl (fun β₁ ext₁ kn₁ => ?_)
  have hf := kn₁ _ (Knows.of_res 0 rfl (fun _ _ hs h => Sl.mono EntR _ _ _ _ hs h) fun _ h => h)
  obtain ⟨es, hes⟩ : ∃ z, z = fewE x.ents := ⟨_, rfl⟩
  have hesl : es.length ≤ 40 := by rw [hes]; simp [fewE]; omega
  rw [← hes] at hf ⊢
  obtain ⟨p2l, p2m, p2e⟩ := sl_parts hf
  clear hf
  replace ye := Elems.mono U8R _ _ _ _ ext₁.sub ye
  have hesb := few_big hes
  refine c_region ?_
  refine l_val (v := .slice none 0 0) rfl rfl rfl (e_assign) ?_
  refine l_val (v := .slice none 0 0) rfl rfl rfl (e_assign) ?_
  refine l_nil ?_
  refine f_then ?_
  refine c_seq ?_
  refine c_region ?_
  refine l_val (v := .slice none 0 0) rfl rfl rfl (e_assign) ?_
  refine l_nil ?_
  refine f_then ?_
  refine c_seq ?_
  refine c_seq ?_
  refine c_emp (r := gb β₁ [] []) (gb_nil _) ?_
  refine c_emp (r := row (.slice none 0 0) 3 1 0 []) (row_nil _ _ _) ?_
  refine c_emp (r := row (.slice none 0 0) 33 2 0 []) (row_nil _ _ _) ?_
  refine c_emp (r := row (.slice none 0 0) 33 2 0 []) (row_nil _ _ _) ?_
  refine c_region ?_
  refine l_val (v := .pointer (some ⟨b1, 1, none⟩)) rfl rfl rfl (e_fieldPt (b := b1) (o := 0) rfl tf29) ?_
  refine l_val (v := .slice p2 (es.length) (c3)) rfl rfl rfl (e_load1 tf30 (v := .slice p2 (es.length) (c3)) rfl (k_pt 4 (cs := #[Ix (x.tick), .slice p2 (es.length) (c3)]) (vs := [.slice p2 (es.length) (c3)]) rfl rfl)) ?_
  refine l_val (v := Nx (es.length)) rfl rfl rfl (e_len (a := p2) (n := es.length) (c := c3) rfl tf31) ?_
  refine l_val (v := .int .i64 (0)) rfl rfl rfl (e_move) ?_
  refine l_nil ?_
  refine f_then ?_
  refine c_block ?_
  refine c_loop (fun (x_ : Nat × Value × List Value × List KEnt × Value × List Value × List KEnt × Value × List Int) (f : Fm) (L : List Res) => match x_ with | (k, va, ua, ps, vb, ub, bs, vw, ws) => (f 1 = .slice ya (what.length) (yc) ∧ f 2 = .pointer (some ⟨b1, 0, none⟩) ∧ f 5 = va ∧ f 6 = vb ∧ f 7 = vw ∧ f 19 = .slice p2 (es.length) (c3) ∧ f 20 = Nx (es.length) ∧ f 21 = Nx (k)) ∧ L = [row va 33 2 (k) ((entCells ua ps)), row vb 33 2 (bs.length) ((entCells ub bs)), row vw 3 1 (ws.length) ((ws.map fun z => Ix z)), gb β₁ ub bs, pt b1 (.cells #[Ix (x.tick), .slice p2 (es.length) (c3)] 24)] ∧ (k ≤ es.length ∧ EGood β₁.heap ua ps ∧ ub.length = bs.length ∧ Apart k ps bs ws)) (fun (x_ : Nat × Value × List Value × List KEnt × Value × List Value × List KEnt × Value × List Int) => match x_ with | (k, va, ua, ps, vb, ub, bs, vw, ws) => es.length - k) (0, (.slice none 0 0), [], [], (.slice none 0 0), [], [], (.slice none 0 0), []) ?_ ?_
  · exact ⟨⟨rfl, rfl, rfl, rfl, rfl, rfl, rfl, rfl⟩, rfl, ⟨by omega, EGood.nil _, rfl, Apart.start⟩⟩
  rintro ⟨k, va, ua, ps, vb, ub, bs, vw, ws⟩ f0 L0 ⟨⟨hs1, hs2, hs5, hs6, hs7, hs19, hs20, hs21⟩, hL, ⟨hk, hga, hub, hap⟩⟩
  subst L0
  refine rebase (d := 1) hs1 ?_
  refine rebase (d := 2) hs2 ?_
  refine rebase (d := 5) hs5 ?_
  refine rebase (d := 6) hs6 ?_
  refine rebase (d := 7) hs7 ?_
  refine rebase (d := 19) hs19 ?_
  refine rebase (d := 20) hs20 ?_
  refine rebase (d := 21) hs21 ?_
  clear hs1 hs2 hs5 hs6 hs7 hs19 hs20 hs21
  have hapb := hap.lb
  have hapw := hap.lw
  refine c_seq ?_
  refine c_region ?_
  refine l_val (v := .bool (decide (((k : Nat) : Int) < ((es.length : Nat) : Int)))) rfl rfl rfl (e_lss (a := ((k : Nat) : Int)) (b := ((es.length : Nat) : Int)) rfl rfl) ?_
  refine l_nil ?_
  refine f_then ?_
  refine c_seq ?_
  refine c_if (((k : Nat) : Int) < ((es.length : Nat) : Int)) rfl (fun hc4 => ?_) (fun hc4 => ?_)
  ·
    refine c_skip ?_
    refine f_then ?_
    refine c_seq ?_
    refine c_block ?_
    refine c_seq ?_
    refine c_region ?_
    refine l_val (v := Nx (k)) rfl rfl rfl (e_move) ?_
    obtain ⟨x5, hx6⟩ : ∃ x_, (es)[k]? = some x_ := ⟨_, List.getElem?_eq_getElem (by omega)⟩
    obtain ⟨ha7, cs8, hc9, hr10⟩ := p2e _ _ hx6
    obtain ⟨v11, rfl, hv12⟩ := hr10
    obtain ⟨v11a, v11c, rfl, v11l, v11m, v11e⟩ := hv12.get
    refine l_val (v := .pointer (some ((ba p2).add (k * 2)))) rfl rfl rfl (e_indexAddr (k := k) (len := es.length) (cap := c3) (a := p2) rfl rfl tf32 (by omega) ha7) ?_
    refine l_val (v := .agg #[Ix (x5.id), .slice v11a (x5.comps.length) (v11c)]) rfl rfl rfl (e_load tf24 (cs := [Ix (x5.id), .slice v11a (x5.comps.length) (v11c)]) rfl (Knows.of_base (Cs.mono _ _) hc9) rfl) ?_
    refine l_mv rfl rfl rfl (m_alloc tf33) ?_
    rintro _ _ ⟨b13, rfl, rfl⟩
    refine l_val (v := Nx (k)) rfl rfl rfl (e_assign) ?_
    refine l_mu rfl rfl (m_store 0 tf24 (b := b13) (o := 0) (T := 33) (cs := #[.int .i64 (0), .slice none 0 0]) (cs' := #[Ix (x5.id), .slice v11a (x5.comps.length) (v11c)]) (v := .agg #[Ix (x5.id), .slice v11a (x5.comps.length) (v11c)]) rfl rfl rfl rfl rfl rfl rfl) ?_
    refine l_nil ?_
    refine f_then ?_
    refine c_seq ?_
    refine c_region ?_
    refine l_val (v := Nx (k)) rfl rfl rfl (e_move) ?_
    refine l_val (v := Nx (3 * k)) rfl rfl rfl (e_mul (a := (3 : Int)) (b := ((k : Nat) : Int)) rfl rfl (i64n (by omega) (by omega))) ?_
    refine l_val (v := Ix (((3 * k : Nat) : Int) - (20 : Int))) rfl rfl rfl (e_sub (a := ((3 * k : Nat) : Int)) (b := (20 : Int)) rfl rfl (i64w (by omega))) ?_
    refine l_val (v := .pointer (some ⟨b13, 0, none⟩)) rfl rfl rfl (e_fieldPt (b := b13) (o := 0) rfl tf9) ?_
    refine l_mu rfl rfl (m_store 0 tf10 (b := b13) (o := 0) (T := 33) (cs := #[Ix (x5.id), .slice v11a (x5.comps.length) (v11c)]) (cs' := #[Ix (((3 * k : Nat) : Int) - (20 : Int)), .slice v11a (x5.comps.length) (v11c)]) (v := Ix (((3 * k : Nat) : Int) - (20 : Int))) rfl rfl rfl rfl rfl rfl rfl) ?_
    refine l_nil ?_
    refine f_then ?_
    refine c_seq ?_
    refine c_region ?_
    refine l_val (v := va) rfl rfl rfl (e_move) ?_
    refine l_val (v := .agg #[Ix (((3 * k : Nat) : Int) - (20 : Int)), .slice v11a (x5.comps.length) (v11c)]) rfl rfl rfl (e_load tf24 (cs := [Ix (((3 * k : Nat) : Int) - (20 : Int)), .slice v11a (x5.comps.length) (v11c)]) rfl (k_pt 0 (cs := #[Ix (((3 * k : Nat) : Int) - (20 : Int)), .slice v11a (x5.comps.length) (v11c)]) (vs := [Ix (((3 * k : Nat) : Int) - (20 : Int)), .slice v11a (x5.comps.length) (v11c)]) rfl rfl) rfl) ?_
    refine l_mv rfl rfl rfl (m_slices tf32 tf33 (vs := [(0, .agg #[Ix (((3 * k : Nat) : Int) - (20 : Int)), .slice v11a (x5.comps.length) (v11c)])]) (cells := #[Ix (((3 * k : Nat) : Int) - (20 : Int)), .slice v11a (x5.comps.length) (v11c)]) rfl rfl rfl rfl) ?_
    rintro _ _ ⟨b14, rfl, rfl⟩
    refine l_mv rfl rfl rfl (m_append 2 tf32 tf72 (v := va) (m := k) (vs := (entCells ua ps)) (ad := ⟨b14, 0, none⟩) (k := 1) (c := 1) (news := [Ix (((3 * k : Nat) : Int) - (20 : Int)), .slice v11a (x5.comps.length) (v11c)]) rfl rfl rfl rfl (k_pt 0 (cs := #[Ix (((3 * k : Nat) : Int) - (20 : Int)), .slice v11a (x5.comps.length) (v11c)]) (vs := [Ix (((3 * k : Nat) : Int) - (20 : Int)), .slice v11a (x5.comps.length) (v11c)]) rfl rfl) rfl (by unfold maxLen; omega) (by omega)) ?_
    rintro v15 _ ⟨hnv15, rfl⟩
    refine l_val (v := v15) rfl rfl rfl (e_assign) ?_
    refine l_nil ?_
    refine f_then ?_
    refine c_seq ?_
    refine c_region ?_
    refine l_val (v := .int .u8 (0)) rfl rfl rfl (e_assign) ?_
    refine l_nil ?_
    refine f_then ?_
    refine c_seq ?_
    refine c_seq ?_
    refine c_region ?_
    refine l_val (v := Nx (k)) rfl rfl rfl (e_move) ?_
    refine l_val (v := .slice ya (what.length) (yc)) rfl rfl rfl (e_move) ?_
    refine l_val (v := Nx (what.length)) rfl rfl rfl (e_len (a := ya) (n := what.length) (c := yc) rfl tf66) ?_
    refine l_val (v := .bool (decide (((k : Nat) : Int) < ((what.length : Nat) : Int)))) rfl rfl rfl (e_lss (a := ((k : Nat) : Int)) (b := ((what.length : Nat) : Int)) rfl rfl) ?_
    refine l_nil ?_
    refine f_then ?_
    refine c_if (((k : Nat) : Int) < ((what.length : Nat) : Int)) rfl (fun hc16 => ?_) (fun hc16 => ?_)
    ·
      refine c_region ?_
      refine l_val (v := .slice ya (what.length) (yc)) rfl rfl rfl (e_move) ?_
      refine l_val (v := Nx (k)) rfl rfl rfl (e_move) ?_
      obtain ⟨x17, hx18⟩ : ∃ x_, (what)[k]? = some x_ := ⟨_, List.getElem?_eq_getElem (by omega)⟩
      obtain ⟨ha19, cs20, hc21, rfl⟩ := ye _ _ hx18
      refine l_val (v := .pointer (some ((ba ya).add (k * 1)))) rfl rfl rfl (e_indexAddr (k := k) (len := what.length) (cap := yc) (a := ya) rfl rfl tf67 (by omega) ha19) ?_
      refine l_val (v := Bx (x17)) rfl rfl rfl (e_load1 tf18 (v := Bx (x17)) rfl (Knows.of_base (Cs.mono _ _) hc21)) ?_
      refine l_val (v := Bx (x17)) rfl rfl rfl (e_assign) ?_
      refine l_nil ?_
      refine f_then ?_
      refine c_seq ?_
      refine c_region ?_
      refine l_val (v := Bx (x17)) rfl rfl rfl (e_move) ?_
      refine l_val (v := .int .u8 (((x17.toNat % 4 : Nat)) : Int)) rfl rfl rfl (e_rem (a := ((x17).toNat : Int)) (b := ((4 : Nat) : Int)) rfl rfl (by decide) (nat_tmod _ _)) ?_
      refine l_nil ?_
      refine f_then ?_
      refine c_block ?_
      refine c_seq ?_
      refine c_seq ?_
      refine c_region ?_
      refine l_val (v := .bool (decide (((x17.toNat % 4 : Nat) : Int) = ((0 : UInt8).toNat : Int)))) rfl rfl rfl (e_eql (a := ((x17.toNat % 4 : Nat) : Int)) (b := ((0 : UInt8).toNat : Int)) rfl rfl) ?_
      refine l_val (v := .bool (decide (((x17.toNat % 4 : Nat) : Int) = ((0 : UInt8).toNat : Int)))) rfl rfl rfl (e_assign) ?_
      refine l_nil ?_
      refine f_then ?_
      refine c_if (((x17.toNat % 4 : Nat) : Int) = ((0 : UInt8).toNat : Int)) rfl (fun hc23 => ?_) (fun hc23 => ?_)
      ·
        refine c_skip ?_
        refine f_then ?_
        refine c_if (((x17.toNat % 4 : Nat) : Int) = ((0 : UInt8).toNat : Int)) rfl (fun hc24 => ?_) (fun hc24 => ?_)
        ·
          refine c_region ?_
          refine l_val (v := vb) rfl rfl rfl (e_move) ?_
          refine l_val (v := .agg #[Ix (((3 * k : Nat) : Int) - (20 : Int)), .slice v11a (x5.comps.length) (v11c)]) rfl rfl rfl (e_load tf24 (cs := [Ix (((3 * k : Nat) : Int) - (20 : Int)), .slice v11a (x5.comps.length) (v11c)]) rfl (k_pt 1 (cs := #[Ix (((3 * k : Nat) : Int) - (20 : Int)), .slice v11a (x5.comps.length) (v11c)]) (vs := [Ix (((3 * k : Nat) : Int) - (20 : Int)), .slice v11a (x5.comps.length) (v11c)]) rfl rfl) rfl) ?_
          refine l_mv rfl rfl rfl (m_slices tf32 tf33 (vs := [(0, .agg #[Ix (((3 * k : Nat) : Int) - (20 : Int)), .slice v11a (x5.comps.length) (v11c)])]) (cells := #[Ix (((3 * k : Nat) : Int) - (20 : Int)), .slice v11a (x5.comps.length) (v11c)]) rfl rfl rfl rfl) ?_
          rintro _ _ ⟨b25, rfl, rfl⟩
          refine l_mv rfl rfl rfl (m_append 4 tf32 tf72 (v := vb) (m := bs.length) (vs := (entCells ub bs)) (ad := ⟨b25, 0, none⟩) (k := 1) (c := 1) (news := [Ix (((3 * k : Nat) : Int) - (20 : Int)), .slice v11a (x5.comps.length) (v11c)]) rfl rfl rfl rfl (k_pt 0 (cs := #[Ix (((3 * k : Nat) : Int) - (20 : Int)), .slice v11a (x5.comps.length) (v11c)]) (vs := [Ix (((3 * k : Nat) : Int) - (20 : Int)), .slice v11a (x5.comps.length) (v11c)]) rfl rfl) rfl (by unfold maxLen; omega) (by omega)) ?_
          rintro v26 _ ⟨hnv26, rfl⟩
          refine l_val (v := v26) rfl rfl rfl (e_assign) ?_
          refine l_nil ?_
          refine f_block ?_
          refine f_block ?_
          refine f_then ?_
          refine c_region ?_
          refine l_val (v := Nx (k + 1)) rfl rfl rfl (e_add (a := ((k : Nat) : Int)) (b := (1 : Int)) rfl rfl (i64n (by omega) (by omega))) ?_
          refine l_val (v := Nx (k + 1)) rfl rfl rfl (e_move) ?_
          refine l_nil ?_
          refine f_turn (fun w h => h.conseq_at 6 rfl (fun a h => gb_base (u := (.slice v11a (x5.comps.length) (v11c))) (e := (⟨((3 * k : Nat) : Int) - (20 : Int), x5.comps⟩ : KEnt)) (⟨⟨_, _, rfl, v11l, v11m, v11e⟩⟩ : Sl CompR _ _ x5.comps) h)) ?_
          refine f_mask (L' := [row v15 33 2 (k + 1) ((entCells ua ps) ++ [Ix (((3 * k : Nat) : Int) - (20 : Int)), .slice v11a (x5.comps.length) (v11c)]), row v26 33 2 (bs.length + 1) ((entCells ub bs) ++ [Ix (((3 * k : Nat) : Int) - (20 : Int)), .slice v11a (x5.comps.length) (v11c)]), row vw 3 1 (ws.length) ((ws.map fun z => Ix z)), gb β₁ (ub ++ [(.slice v11a (x5.comps.length) (v11c))]) (bs ++ [(⟨((3 * k : Nat) : Int) - (20 : Int), x5.comps⟩ : KEnt)]), pt b1 (.cells #[Ix (x.tick), .slice p2 (es.length) (c3)] 24)]) [false, false, false, true, true, true, true, true] rfl ?_
          exact f_cut ⟨(k + 1, v15, (ua ++ [(.slice v11a (x5.comps.length) (v11c))]), (ps ++ [(⟨((3 * k : Nat) : Int) - (20 : Int), x5.comps⟩ : KEnt)]), v26, (ub ++ [(.slice v11a (x5.comps.length) (v11c))]), (bs ++ [(⟨((3 * k : Nat) : Int) - (20 : Int), x5.comps⟩ : KEnt)]), vw, ws), ⟨⟨rfl, rfl, rfl, rfl, rfl, rfl, rfl, rfl⟩, (by simp [ent_cells_append hga.1, ent_cells_append hub, entCells]), ⟨by omega, hga.append (EGood.one (e := (⟨((3 * k : Nat) : Int) - (20 : Int), x5.comps⟩ : KEnt)) (⟨⟨_, _, rfl, v11l, v11m, v11e⟩⟩ : Sl CompR _ _ x5.comps)), by simp [hub], hap.keep (e := (⟨((3 * k : Nat) : Int) - (20 : Int), x5.comps⟩ : KEnt)) (show ((3 * k : Nat) : Int) - (20 : Int) = 3 * (k : Int) - 20 by omega)⟩⟩, (show es.length - (k + 1) < es.length - k from by omega)⟩
        ·
          refine c_seq ?_
          refine c_region ?_
          refine l_val (v := .bool (decide (((x17.toNat % 4 : Nat) : Int) = ((2 : UInt8).toNat : Int)))) rfl rfl rfl (e_eql (a := ((x17.toNat % 4 : Nat) : Int)) (b := ((2 : UInt8).toNat : Int)) rfl rfl) ?_
          refine l_val (v := .bool (decide (((x17.toNat % 4 : Nat) : Int) = ((2 : UInt8).toNat : Int)))) rfl rfl rfl (e_assign) ?_
          refine l_nil ?_
          refine f_then ?_
          refine c_if (((x17.toNat % 4 : Nat) : Int) = ((2 : UInt8).toNat : Int)) rfl (fun hc27 => ?_) (fun hc27 => ?_)
          ·
            refine c_region ?_
            refine l_val (v := vw) rfl rfl rfl (e_move) ?_
            refine l_val (v := .pointer (some ⟨b13, 0, none⟩)) rfl rfl rfl (e_fieldPt (b := b13) (o := 0) rfl tf9) ?_
            refine l_val (v := Ix (((3 * k : Nat) : Int) - (20 : Int))) rfl rfl rfl (e_load1 tf10 (v := Ix (((3 * k : Nat) : Int) - (20 : Int))) rfl (k_pt 1 (cs := #[Ix (((3 * k : Nat) : Int) - (20 : Int)), .slice v11a (x5.comps.length) (v11c)]) (vs := [Ix (((3 * k : Nat) : Int) - (20 : Int))]) rfl rfl)) ?_
            refine l_mv rfl rfl rfl (m_slices tf39 tf52 (vs := [(0, Ix (((3 * k : Nat) : Int) - (20 : Int)))]) (cells := #[Ix (((3 * k : Nat) : Int) - (20 : Int))]) rfl rfl rfl rfl) ?_
            rintro _ _ ⟨b28, rfl, rfl⟩
            refine l_mv rfl rfl rfl (m_append 5 tf39 tf53 (v := vw) (m := ws.length) (vs := (ws.map fun z => Ix z)) (ad := ⟨b28, 0, none⟩) (k := 1) (c := 1) (news := [Ix (((3 * k : Nat) : Int) - (20 : Int))]) rfl rfl rfl rfl (k_pt 0 (cs := #[Ix (((3 * k : Nat) : Int) - (20 : Int))]) (vs := [Ix (((3 * k : Nat) : Int) - (20 : Int))]) rfl rfl) rfl (by unfold maxLen; omega) (by omega)) ?_
            rintro v29 _ ⟨hnv29, rfl⟩
            refine l_val (v := v29) rfl rfl rfl (e_assign) ?_
            refine l_nil ?_
            refine f_block ?_
            refine f_block ?_
            refine f_then ?_
            refine c_region ?_
            refine l_val (v := Nx (k + 1)) rfl rfl rfl (e_add (a := ((k : Nat) : Int)) (b := (1 : Int)) rfl rfl (i64n (by omega) (by omega))) ?_
            refine l_val (v := Nx (k + 1)) rfl rfl rfl (e_move) ?_
            refine l_nil ?_
            refine f_mask (L' := [row v15 33 2 (k + 1) ((entCells ua ps) ++ [Ix (((3 * k : Nat) : Int) - (20 : Int)), .slice v11a (x5.comps.length) (v11c)]), row vb 33 2 (bs.length) ((entCells ub bs)), row v29 3 1 (ws.length + 1) ((ws.map fun z => Ix z) ++ [Ix (((3 * k : Nat) : Int) - (20 : Int))]), gb β₁ ub bs, pt b1 (.cells #[Ix (x.tick), .slice p2 (es.length) (c3)] 24)]) [false, false, false, true, true, true, true, true] rfl ?_
            exact f_cut ⟨(k + 1, v15, (ua ++ [(.slice v11a (x5.comps.length) (v11c))]), (ps ++ [(⟨((3 * k : Nat) : Int) - (20 : Int), x5.comps⟩ : KEnt)]), vb, ub, bs, v29, (ws ++ [((3 * k : Nat) : Int) - (20 : Int)])), ⟨⟨rfl, rfl, rfl, rfl, rfl, rfl, rfl, rfl⟩, (by simp [ent_cells_append hga.1, entCells]), ⟨by omega, hga.append (EGood.one (e := (⟨((3 * k : Nat) : Int) - (20 : Int), x5.comps⟩ : KEnt)) (⟨⟨_, _, rfl, v11l, v11m, v11e⟩⟩ : Sl CompR _ _ x5.comps)), by simp [hub], hap.lose (e := (⟨((3 * k : Nat) : Int) - (20 : Int), x5.comps⟩ : KEnt)) (show ((3 * k : Nat) : Int) - (20 : Int) = 3 * (k : Int) - 20 by omega)⟩⟩, (show es.length - (k + 1) < es.length - k from by omega)⟩
          ·
            refine c_seq ?_
            refine c_region ?_
            refine l_val (v := vw) rfl rfl rfl (e_move) ?_
            refine l_val (v := .pointer (some ⟨b13, 0, none⟩)) rfl rfl rfl (e_fieldPt (b := b13) (o := 0) rfl tf9) ?_
            refine l_val (v := Ix (((3 * k : Nat) : Int) - (20 : Int))) rfl rfl rfl (e_load1 tf10 (v := Ix (((3 * k : Nat) : Int) - (20 : Int))) rfl (k_pt 1 (cs := #[Ix (((3 * k : Nat) : Int) - (20 : Int)), .slice v11a (x5.comps.length) (v11c)]) (vs := [Ix (((3 * k : Nat) : Int) - (20 : Int))]) rfl rfl)) ?_
            refine l_mv rfl rfl rfl (m_slices tf39 tf52 (vs := [(0, Ix (((3 * k : Nat) : Int) - (20 : Int)))]) (cells := #[Ix (((3 * k : Nat) : Int) - (20 : Int))]) rfl rfl rfl rfl) ?_
            rintro _ _ ⟨b30, rfl, rfl⟩
            refine l_mv rfl rfl rfl (m_append 5 tf39 tf53 (v := vw) (m := ws.length) (vs := (ws.map fun z => Ix z)) (ad := ⟨b30, 0, none⟩) (k := 1) (c := 1) (news := [Ix (((3 * k : Nat) : Int) - (20 : Int))]) rfl rfl rfl rfl (k_pt 0 (cs := #[Ix (((3 * k : Nat) : Int) - (20 : Int))]) (vs := [Ix (((3 * k : Nat) : Int) - (20 : Int))]) rfl rfl) rfl (by unfold maxLen; omega) (by omega)) ?_
            rintro v31 _ ⟨hnv31, rfl⟩
            refine l_val (v := v31) rfl rfl rfl (e_assign) ?_
            refine l_nil ?_
            refine f_then ?_
            refine c_seq ?_
            refine c_region ?_
            refine l_val (v := .pointer (some ⟨b13, 1, none⟩)) rfl rfl rfl (e_fieldPt (b := b13) (o := 0) rfl tf11) ?_
            refine l_val (v := .slice v11a (x5.comps.length) (v11c)) rfl rfl rfl (e_load1 tf12 (v := .slice v11a (x5.comps.length) (v11c)) rfl (k_pt 2 (cs := #[Ix (((3 * k : Nat) : Int) - (20 : Int)), .slice v11a (x5.comps.length) (v11c)]) (vs := [.slice v11a (x5.comps.length) (v11c)]) rfl rfl)) ?_
            refine l_val (v := Nx (x5.comps.length)) rfl rfl rfl (e_len (a := v11a) (n := x5.comps.length) (c := v11c) rfl tf13) ?_
            refine l_val (v := .bool (decide ((0 : Int) < ((x5.comps.length : Nat) : Int)))) rfl rfl rfl (e_gtr (a := ((x5.comps.length : Nat) : Int)) (b := (0 : Int)) rfl rfl) ?_
            refine l_nil ?_
            refine f_then ?_
            refine c_if ((0 : Int) < ((x5.comps.length : Nat) : Int)) rfl (fun hc32 => ?_) (fun hc32 => ?_)
            ·
              refine c_seq ?_
              refine c_region ?_
              refine l_val (v := .agg #[Ix (((3 * k : Nat) : Int) - (20 : Int)), .slice v11a (x5.comps.length) (v11c)]) rfl rfl rfl (e_load tf24 (cs := [Ix (((3 * k : Nat) : Int) - (20 : Int)), .slice v11a (x5.comps.length) (v11c)]) rfl (k_pt 2 (cs := #[Ix (((3 * k : Nat) : Int) - (20 : Int)), .slice v11a (x5.comps.length) (v11c)]) (vs := [Ix (((3 * k : Nat) : Int) - (20 : Int)), .slice v11a (x5.comps.length) (v11c)]) rfl rfl) rfl) ?_
              refine l_call rfl rfl rfl (cl_value (fst := []) (cap := []) (vs := [.agg #[Ix (((3 * k : Nat) : Int) - (20 : Int)), .slice v11a (x5.comps.length) (v11c)]]) (all := [.agg #[Ix (((3 * k : Nat) : Int) - (20 : Int)), .slice v11a (x5.comps.length) (v11c)]]) tf71 rfl rfl rfl) ?_
              intro w hw
              obtain ⟨β1, sb, kn, hw1, back⟩ := St.frame_all hw
              refine (copyEntity_ok β1 w hw1 (⟨((3 * k : Nat) : Int) - (20 : Int), x5.comps⟩ : KEnt) _ (Sl.mono _ _ _ _ _ sb (⟨⟨_, _, rfl, v11l, v11m, v11e⟩⟩ : Sl CompR _ _ x5.comps)) (show x5.comps.length * 40 ≤ _ by have := hesb _ _ hx6; omega)).mono ?_
              rintro e w' ⟨p33, c34, rfl, hw'⟩
              refine ⟨_, rfl, _, back _ _ hw', ?_⟩
              clear hw hw1 hw' back kn sb
              refine l_mv rfl rfl rfl (m_alloc tf33) ?_
              rintro _ _ ⟨b35, rfl, rfl⟩
              refine l_mu rfl rfl (m_store 0 tf24 (b := b35) (o := 0) (T := 33) (cs := #[.int .i64 (0), .slice none 0 0]) (cs' := #[Ix (((3 * k : Nat) : Int) - (20 : Int)), .slice p33 (x5.comps.length) c34]) (v := .agg #[Ix (((3 * k : Nat) : Int) - (20 : Int)), .slice p33 (x5.comps.length) c34]) rfl rfl rfl rfl rfl rfl rfl) ?_
              refine l_nil ?_
              refine f_then ?_
              refine c_seq ?_
              have hx8 := x17.toNat_lt
              obtain ⟨aq, haq⟩ : ∃ z, z = (x17.toNat / 4) % x5.comps.length := ⟨_, rfl⟩
              obtain ⟨ar, har⟩ : ∃ z, z = x17.toNat % 4 := ⟨_, rfl⟩
              have haql : aq < x5.comps.length := by rw [haq]; exact Nat.mod_lt _ (by omega)
              have harl : ar < 4 := by rw [har]; exact Nat.mod_lt _ (by omega)
              obtain ⟨cq, hcq⟩ : ∃ c_, x5.comps[aq]? = some c_ := ⟨_, List.getElem?_eq_getElem haql⟩
              refine c_any [⟨[], [], [0], [55], fun f => f 55 = .pointer (some ⟨b35, 1, none⟩)⟩, ⟨[0], [0], [], [56], fun f => f 56 = .slice p33 (x5.comps.length) c34⟩, ⟨[], [], [1], [57], fun f => f 57 = Bx (x17)⟩, ⟨[2], [2], [], [58], fun f => f 58 = .int .u8 (((x17.toNat / 4 : Nat)) : Int)⟩, ⟨[2, 3], [3], [], [59], fun f => f 59 = Nx (x17.toNat / 4)⟩, ⟨[], [], [0], [60], fun f => f 60 = .pointer (some ⟨b35, 1, none⟩)⟩, ⟨[5], [5], [], [61], fun f => f 61 = .slice p33 (x5.comps.length) c34⟩, ⟨[5, 6], [6], [], [62], fun f => f 62 = Nx (x5.comps.length)⟩, ⟨[2, 3, 4, 5, 6, 7], [4, 7], [], [63], fun f => f 63 = Nx (aq)⟩, ⟨[], [], [1], [64], fun f => f 64 = Bx (x17)⟩, ⟨[9], [9], [], [65], fun f => f 65 = Nx (x17.toNat)⟩, ⟨[9, 10], [10], [], [66], fun f => f 66 = Nx (ar)⟩, ⟨[0, 1, 2, 3, 4, 5, 6, 7, 8], [1, 8], [], [67], fun f => f 67 = .pointer (some ((ba p33).add (aq * 5)))⟩, ⟨[0, 1, 2, 3, 4, 5, 6, 7, 8, 12], [12], [], [68], fun f => f 68 = .pointer (some ((ba p33).add (aq * 5 + 1)))⟩, ⟨[0, 1, 2, 3, 4, 5, 6, 7, 8, 9, 10, 11, 12, 13], [13, 11], [], [69], fun f => f 69 = .pointer (some ((ba p33).add (aq * 5 + 1 + ar * 1)))⟩, ⟨[0, 1, 2, 3, 4, 5, 6, 7, 8, 9, 10, 11, 12, 13, 14], [14], [], [70], fun f => f 70 = Ix (cv cq ar)⟩, ⟨[0, 1, 2, 3, 4, 5, 6, 7, 8, 9, 10, 11, 12, 13, 14, 15], [15], [], [71], fun f => f 71 = Ix (IntKind.i64.wrap ((cv cq ar) + (1 : Int)))⟩, ⟨[0, 1, 2, 3, 4, 5, 6, 7, 8], [1, 8], [], [72], fun f => f 72 = .pointer (some ((ba p33).add (aq * 5)))⟩, ⟨[0, 1, 2, 3, 4, 5, 6, 7, 8, 17], [17], [], [73], fun f => f 73 = .pointer (some ((ba p33).add (aq * 5 + 1)))⟩, ⟨[0, 1, 2, 3, 4, 5, 6, 7, 8, 9, 10, 11, 12, 13, 14, 15, 16, 17, 18], [18, 11], [], [74], fun f => f 74 = .pointer (some ((ba p33).add (aq * 5 + 1 + ar * 1)))⟩, ⟨[0, 1, 2, 3, 4, 5, 6, 7, 8, 9, 10, 11, 12, 13, 14, 15, 16, 17, 18, 19], [19, 16], [], [], fun _ => True⟩] [⟨none, none, [1, 6], [], fun _ => pt b35 (.cells #[Ix (((3 * k : Nat) : Int) - (20 : Int)), .slice p33 (x5.comps.length) c34] 33)⟩, ⟨none, (some 20), [12, 15, 17, 20], [], fun _ => row (.slice p33 (x5.comps.length) c34) 55 5 (x5.comps.length) ((x5.comps.flatMap compE))⟩, ⟨none, none, [], [], fun _ => pt b30 (.cells #[Ix (((3 * k : Nat) : Int) - (20 : Int))] 3)⟩, ⟨none, none, [], [], fun _ => pt b14 (.cells #[Ix (((3 * k : Nat) : Int) - (20 : Int)), .slice v11a (x5.comps.length) (v11c)] 33)⟩, ⟨none, none, [], [], fun _ => pt b13 (.cells #[Ix (((3 * k : Nat) : Int) - (20 : Int)), .slice v11a (x5.comps.length) (v11c)] 33)⟩, ⟨none, none, [], [], fun _ => row v15 33 2 (k + 1) ((entCells ua ps) ++ [Ix (((3 * k : Nat) : Int) - (20 : Int)), .slice v11a (x5.comps.length) (v11c)])⟩, ⟨none, none, [], [], fun _ => row vb 33 2 (bs.length) ((entCells ub bs))⟩, ⟨none, none, [], [], fun _ => row v31 3 1 (ws.length + 1) ((ws.map fun z => Ix z) ++ [Ix (((3 * k : Nat) : Int) - (20 : Int))])⟩, ⟨none, none, [], [], fun _ => gb β₁ ub bs⟩, ⟨none, none, [], [], fun _ => pt b1 (.cells #[Ix (x.tick), .slice p2 (es.length) (c3)] 24)⟩, ⟨(some 20), none, [], [], fun _ => row (.slice p33 (x5.comps.length) c34) 55 5 (x5.comps.length) ((overL (x5.comps.flatMap compE) (aq * 5 + 1 + ar * 1) [Ix (IntKind.i64.wrap ((cv cq ar) + (1 : Int)))]))⟩] [(11, .pointer (some ⟨b35, 0, none⟩)), (10, Bx (x17)), (1, .slice ya (what.length) (yc)), (2, .pointer (some ⟨b1, 0, none⟩)), (5, v15), (6, vb), (7, v31), (19, .slice p2 (es.length) (c3)), (20, Nx (es.length)), (21, Nx (k))] [2, 3, 4, 5, 6, 0, 7, 8, 9] [] (by kernel_rfl) (by kernel_rfl) (by kernel_rfl) (by kernel_rfl) rfl ⟨rfl, rfl, rfl, rfl, rfl, rfl, rfl, rfl, rfl, rfl, trivial⟩ ⟨?_, ?_, ?_, ?_, ?_, ?_, ?_, ?_, ?_, ?_, ?_, ?_, ?_, ?_, ?_, ?_, ?_, ?_, ?_, ?_, ?_, trivial⟩ ?_
              · rintro f M - ⟨i0, -⟩
                have hs11 : f 11 = .pointer (some ⟨b35, 0, none⟩) := i0
                refine ob_start (L' := M) (by rfl) (up_cons rfl hs11) ?_
                refine l_val (v := .pointer (some ⟨b35, 1, none⟩)) rfl rfl rfl (e_fieldPt (b := b35) (o := 0) rfl tf11) ?_
                refine l_nil ?_
                exact f_owes_d (up_cons rfl hs11) rfl (List.Perm.refl _)
              · rintro f M ⟨k0, -⟩ -
                have hs55 : f 55 = .pointer (some ⟨b35, 1, none⟩) := k0
                refine ob_start (L' := pt b35 (.cells #[Ix (((3 * k : Nat) : Int) - (20 : Int)), .slice p33 (x5.comps.length) c34] 33) :: M) (by rfl) (up_cons rfl hs55) ?_
                refine l_val (v := .slice p33 (x5.comps.length) c34) rfl rfl rfl (e_load1 tf12 (v := .slice p33 (x5.comps.length) c34) rfl (k_pt 0 (cs := #[Ix (((3 * k : Nat) : Int) - (20 : Int)), .slice p33 (x5.comps.length) c34]) (vs := [.slice p33 (x5.comps.length) c34]) rfl rfl)) ?_
                refine l_nil ?_
                exact f_owes_d (up_cons rfl hs55) rfl (perm_front 0 rfl)
              · rintro f M - ⟨i0, -⟩
                have hs10 : f 10 = Bx (x17) := i0
                refine ob_start (L' := M) (by rfl) (up_cons rfl hs10) ?_
                refine l_val (v := Bx (x17)) rfl rfl rfl (e_move) ?_
                refine l_nil ?_
                exact f_owes_d (up_cons rfl hs10) rfl (List.Perm.refl _)
              · rintro f M ⟨k0, -⟩ -
                have hs57 : f 57 = Bx (x17) := k0
                refine ob_start (L' := M) (by rfl) (up_cons rfl hs57) ?_
                refine l_val (v := .int .u8 (((x17.toNat / 4 : Nat)) : Int)) rfl rfl rfl (e_quo (a := ((x17).toNat : Int)) (b := ((4 : Nat) : Int)) rfl rfl (by decide) (u8_quo _ _)) ?_
                refine l_nil ?_
                exact f_owes_d (up_cons rfl hs57) rfl (List.Perm.refl _)
              · rintro f M ⟨k0, -⟩ -
                have hs58 : f 58 = .int .u8 (((x17.toNat / 4 : Nat)) : Int) := k0
                refine ob_start (L' := M) (by rfl) (up_cons rfl hs58) ?_
                refine l_val (v := Nx (x17.toNat / 4)) rfl rfl rfl (e_conv (a := ((x17.toNat / 4 : Nat) : Int)) rfl ⟨_, tf8⟩ tf1 (i64n rfl (by omega))) ?_
                refine l_nil ?_
                exact f_owes_d (up_cons rfl hs58) rfl (List.Perm.refl _)
              · rintro f M - ⟨i0, -⟩
                have hs11 : f 11 = .pointer (some ⟨b35, 0, none⟩) := i0
                refine ob_start (L' := M) (by rfl) (up_cons rfl hs11) ?_
                refine l_val (v := .pointer (some ⟨b35, 1, none⟩)) rfl rfl rfl (e_fieldPt (b := b35) (o := 0) rfl tf11) ?_
                refine l_nil ?_
                exact f_owes_d (up_cons rfl hs11) rfl (List.Perm.refl _)
              · rintro f M ⟨k0, -⟩ -
                have hs60 : f 60 = .pointer (some ⟨b35, 1, none⟩) := k0
                refine ob_start (L' := pt b35 (.cells #[Ix (((3 * k : Nat) : Int) - (20 : Int)), .slice p33 (x5.comps.length) c34] 33) :: M) (by rfl) (up_cons rfl hs60) ?_
                refine l_val (v := .slice p33 (x5.comps.length) c34) rfl rfl rfl (e_load1 tf12 (v := .slice p33 (x5.comps.length) c34) rfl (k_pt 0 (cs := #[Ix (((3 * k : Nat) : Int) - (20 : Int)), .slice p33 (x5.comps.length) c34]) (vs := [.slice p33 (x5.comps.length) c34]) rfl rfl)) ?_
                refine l_nil ?_
                exact f_owes_d (up_cons rfl hs60) rfl (perm_front 0 rfl)
              · rintro f M ⟨k0, -⟩ -
                have hs61 : f 61 = .slice p33 (x5.comps.length) c34 := k0
                refine ob_start (L' := M) (by rfl) (up_cons rfl hs61) ?_
                refine l_val (v := Nx (x5.comps.length)) rfl rfl rfl (e_len (a := p33) (n := x5.comps.length) (c := c34) rfl tf13) ?_
                refine l_nil ?_
                exact f_owes_d (up_cons rfl hs61) rfl (List.Perm.refl _)
              · rintro f M ⟨k0, k1, -⟩ -
                have hs59 : f 59 = Nx (x17.toNat / 4) := k0
                have hs62 : f 62 = Nx (x5.comps.length) := k1
                refine ob_start (L' := M) (by rfl) (up_cons (up_cons rfl hs59) hs62) ?_
                refine l_val (v := Nx (aq)) rfl rfl rfl (ev_eq (congrArg (fun z : Nat => Nx z) haq.symm) (e_rem (a := ((x17.toNat / 4 : Nat) : Int)) (b := ((x5.comps.length : Nat) : Int)) rfl rfl (by omega) (nat_tmod _ _))) ?_
                refine l_nil ?_
                exact f_owes_d (up_cons (up_cons rfl hs59) hs62) rfl (List.Perm.refl _)
              · rintro f M - ⟨i0, -⟩
                have hs10 : f 10 = Bx (x17) := i0
                refine ob_start (L' := M) (by rfl) (up_cons rfl hs10) ?_
                refine l_val (v := Bx (x17)) rfl rfl rfl (e_move) ?_
                refine l_nil ?_
                exact f_owes_d (up_cons rfl hs10) rfl (List.Perm.refl _)
              · rintro f M ⟨k0, -⟩ -
                have hs64 : f 64 = Bx (x17) := k0
                refine ob_start (L' := M) (by rfl) (up_cons rfl hs64) ?_
                refine l_val (v := Nx (x17.toNat)) rfl rfl rfl (e_conv (a := ((x17).toNat : Int)) rfl ⟨_, tf8⟩ tf1 (i64n rfl (by have := (x17).toNat_lt; omega))) ?_
                refine l_nil ?_
                exact f_owes_d (up_cons rfl hs64) rfl (List.Perm.refl _)
              · rintro f M ⟨k0, -⟩ -
                have hs65 : f 65 = Nx (x17.toNat) := k0
                refine ob_start (L' := M) (by rfl) (up_cons rfl hs65) ?_
                refine l_val (v := Nx (ar)) rfl rfl rfl (ev_eq (congrArg (fun z : Nat => Nx z) har.symm) (e_rem (a := ((x17.toNat : Nat) : Int)) (b := (4 : Int)) rfl rfl (by decide) (nat_tmod _ 4))) ?_
                refine l_nil ?_
                exact f_owes_d (up_cons rfl hs65) rfl (List.Perm.refl _)
              · rintro f M ⟨k0, k1, -⟩ -
                have hs56 : f 56 = .slice p33 (x5.comps.length) c34 := k0
                have hs63 : f 63 = Nx (aq) := k1
                refine ob_start (L' := row (.slice p33 (x5.comps.length) c34) 55 5 (x5.comps.length) ((x5.comps.flatMap compE)) :: M) (by rfl) (up_cons (up_cons rfl hs56) hs63) ?_
                refine l_val (v := .pointer (some ((ba p33).add (aq * 5)))) rfl rfl rfl (e_indexRow 0 (j := aq) (len := x5.comps.length) (cap := c34) (p := p33) rfl rfl tf14 (by omega) (by omega) rfl) ?_
                refine l_nil ?_
                exact f_owes_d (up_cons (up_cons rfl hs56) hs63) rfl (perm_front 0 rfl)
              · rintro f M ⟨k0, -⟩ -
                have hs67 : f 67 = .pointer (some ((ba p33).add (aq * 5))) := k0
                refine ob_start (L' := M) (by rfl) (up_cons rfl hs67) ?_
                refine l_val (v := .pointer (some ((ba p33).add (aq * 5 + 1)))) rfl rfl rfl (ev_eq (by rw [Addr.add_add']) (e_fieldAddr (a := (ba p33).add (aq * 5)) rfl tf19)) ?_
                refine l_nil ?_
                exact f_owes_d (up_cons rfl hs67) rfl (List.Perm.refl _)
              · rintro f M ⟨k0, k1, -⟩ -
                have hs68 : f 68 = .pointer (some ((ba p33).add (aq * 5 + 1))) := k0
                have hs66 : f 66 = Nx (ar) := k1
                refine ob_start (L' := M) (by rfl) (up_cons (up_cons rfl hs68) hs66) ?_
                refine l_val (v := .pointer (some ((ba p33).add (aq * 5 + 1 + ar * 1)))) rfl rfl rfl (ev_eq (by rw [Addr.add_add']) (e_indexArr (a := (ba p33).add (aq * 5 + 1)) (k := ar) rfl rfl tf21 (by omega))) ?_
                refine l_nil ?_
                exact f_owes_d (up_cons (up_cons rfl hs68) hs66) rfl (List.Perm.refl _)
              · rintro f M ⟨k0, -⟩ -
                have hs69 : f 69 = .pointer (some ((ba p33).add (aq * 5 + 1 + ar * 1))) := k0
                refine ob_start (L' := row (.slice p33 (x5.comps.length) c34) 55 5 (x5.comps.length) ((x5.comps.flatMap compE)) :: M) (by rfl) (up_cons rfl hs69) ?_
                refine l_val (v := Ix (cv cq ar)) rfl rfl rfl (e_load1 tf10 (v := Ix (cv cq ar)) rfl (k_row 0 (o := aq * 5 + 1 + ar * 1) (us := [Ix (cv cq ar)]) rfl (by rw [show aq * 5 + 1 + ar * 1 = aq * 5 + (1 + ar) by omega]; exact flat_at1 hcq (cv_cell cq (by omega))) (Nat.succ_pos _))) ?_
                refine l_nil ?_
                exact f_owes_d (up_cons rfl hs69) rfl (perm_front 0 rfl)
              · rintro f M ⟨k0, -⟩ -
                have hs70 : f 70 = Ix (cv cq ar) := k0
                refine ob_start (L' := M) (by rfl) (up_cons rfl hs70) ?_
                refine l_val (v := Ix (IntKind.i64.wrap ((cv cq ar) + (1 : Int)))) rfl rfl rfl (e_add (a := (cv cq ar)) (b := (1 : Int)) rfl rfl rfl) ?_
                refine l_nil ?_
                exact f_owes_d (up_cons rfl hs70) rfl (List.Perm.refl _)
              · rintro f M ⟨k0, k1, -⟩ -
                have hs56 : f 56 = .slice p33 (x5.comps.length) c34 := k0
                have hs63 : f 63 = Nx (aq) := k1
                refine ob_start (L' := row (.slice p33 (x5.comps.length) c34) 55 5 (x5.comps.length) ((x5.comps.flatMap compE)) :: M) (by rfl) (up_cons (up_cons rfl hs56) hs63) ?_
                refine l_val (v := .pointer (some ((ba p33).add (aq * 5)))) rfl rfl rfl (e_indexRow 0 (j := aq) (len := x5.comps.length) (cap := c34) (p := p33) rfl rfl tf14 (by omega) (by omega) rfl) ?_
                refine l_nil ?_
                exact f_owes_d (up_cons (up_cons rfl hs56) hs63) rfl (perm_front 0 rfl)
              · rintro f M ⟨k0, -⟩ -
                have hs72 : f 72 = .pointer (some ((ba p33).add (aq * 5))) := k0
                refine ob_start (L' := M) (by rfl) (up_cons rfl hs72) ?_
                refine l_val (v := .pointer (some ((ba p33).add (aq * 5 + 1)))) rfl rfl rfl (ev_eq (by rw [Addr.add_add']) (e_fieldAddr (a := (ba p33).add (aq * 5)) rfl tf19)) ?_
                refine l_nil ?_
                exact f_owes_d (up_cons rfl hs72) rfl (List.Perm.refl _)
              · rintro f M ⟨k0, k1, -⟩ -
                have hs73 : f 73 = .pointer (some ((ba p33).add (aq * 5 + 1))) := k0
                have hs66 : f 66 = Nx (ar) := k1
                refine ob_start (L' := M) (by rfl) (up_cons (up_cons rfl hs73) hs66) ?_
                refine l_val (v := .pointer (some ((ba p33).add (aq * 5 + 1 + ar * 1)))) rfl rfl rfl (ev_eq (by rw [Addr.add_add']) (e_indexArr (a := (ba p33).add (aq * 5 + 1)) (k := ar) rfl rfl tf21 (by omega))) ?_
                refine l_nil ?_
                exact f_owes_d (up_cons (up_cons rfl hs73) hs66) rfl (List.Perm.refl _)
              · rintro f M ⟨k0, k1, -⟩ -
                have hs74 : f 74 = .pointer (some ((ba p33).add (aq * 5 + 1 + ar * 1))) := k0
                have hs71 : f 71 = Ix (IntKind.i64.wrap ((cv cq ar) + (1 : Int))) := k1
                refine ob_start (L' := row (.slice p33 (x5.comps.length) c34) 55 5 (x5.comps.length) ((x5.comps.flatMap compE)) :: M) (by rfl) (up_cons (up_cons rfl hs74) hs71) ?_
                refine l_mu rfl rfl (m_storeRow 0 tf10 (o := aq * 5 + 1 + ar * 1) (v := Ix (IntKind.i64.wrap ((cv cq ar) + (1 : Int)))) rfl rfl rfl rfl rfl (by omega) (by omega)) ?_
                refine l_nil ?_
                exact f_owes_n (up_cons (up_cons rfl hs74) hs71) trivial (perm_front 0 rfl)
              rintro fa36 ⟨-, -, -, -, -, -, -, -, -, -, -, -, -, -, -, -, -, -, -, -, -, -⟩ ⟨j0, j1, j2, j3, j4, j5, j6, j7, j8, -⟩
              refine f_re (L' := [pt b35 (.cells #[Ix (((3 * k : Nat) : Int) - (20 : Int)), .slice p33 (x5.comps.length) c34] 33), pt b30 (.cells #[Ix (((3 * k : Nat) : Int) - (20 : Int))] 3), pt b14 (.cells #[Ix (((3 * k : Nat) : Int) - (20 : Int)), .slice v11a (x5.comps.length) (v11c)] 33), pt b13 (.cells #[Ix (((3 * k : Nat) : Int) - (20 : Int)), .slice v11a (x5.comps.length) (v11c)] 33), row v15 33 2 (k + 1) ((entCells ua ps) ++ [Ix (((3 * k : Nat) : Int) - (20 : Int)), .slice v11a (x5.comps.length) (v11c)]), row vb 33 2 (bs.length) ((entCells ub bs)), row v31 3 1 (ws.length + 1) ((ws.map fun z => Ix z) ++ [Ix (((3 * k : Nat) : Int) - (20 : Int))]), gb β₁ ub bs, pt b1 (.cells #[Ix (x.tick), .slice p2 (es.length) (c3)] 24), row (.slice p33 (x5.comps.length) c34) 55 5 (x5.comps.length) ((overL (x5.comps.flatMap compE) (aq * 5 + 1 + ar * 1) [Ix (IntKind.i64.wrap ((cv cq ar) + (1 : Int)))]))]) (by rfl) ?_
              refine f_rebase (d := 1) (v := .slice ya (what.length) (yc)) j0 ?_
              refine f_rebase (d := 2) (v := .pointer (some ⟨b1, 0, none⟩)) j1 ?_
              refine f_rebase (d := 5) (v := v15) j2 ?_
              refine f_rebase (d := 6) (v := vb) j3 ?_
              refine f_rebase (d := 7) (v := v31) j4 ?_
              refine f_rebase (d := 11) (v := .pointer (some ⟨b35, 0, none⟩)) j5 ?_
              refine f_rebase (d := 19) (v := .slice p2 (es.length) (c3)) j6 ?_
              refine f_rebase (d := 20) (v := Nx (es.length)) j7 ?_
              refine f_rebase (d := 21) (v := Nx (k)) j8 ?_
              refine f_then ?_
              refine c_perm (L' := [pt b35 (.cells #[Ix (((3 * k : Nat) : Int) - (20 : Int)), .slice p33 (x5.comps.length) c34] 33), pt b30 (.cells #[Ix (((3 * k : Nat) : Int) - (20 : Int))] 3), pt b14 (.cells #[Ix (((3 * k : Nat) : Int) - (20 : Int)), .slice v11a (x5.comps.length) (v11c)] 33), pt b13 (.cells #[Ix (((3 * k : Nat) : Int) - (20 : Int)), .slice v11a (x5.comps.length) (v11c)] 33), row v15 33 2 (k + 1) ((entCells ua ps) ++ [Ix (((3 * k : Nat) : Int) - (20 : Int)), .slice v11a (x5.comps.length) (v11c)]), row vb 33 2 (bs.length) ((entCells ub bs)), row v31 3 1 (ws.length + 1) ((ws.map fun z => Ix z) ++ [Ix (((3 * k : Nat) : Int) - (20 : Int))]), gb β₁ ub bs, pt b1 (.cells #[Ix (x.tick), .slice p2 (es.length) (c3)] 24), row (.slice p33 (x5.comps.length) c34) 55 5 (x5.comps.length) ((overL (x5.comps.flatMap compE) (aq * 5 + 1 + ar * 1) [Ix (IntKind.i64.wrap ((cv cq ar) + (1 : Int)))]))]) (List.Perm.refl _) ?_
              rw [show aq * 5 + 1 + ar * 1 = aq * 5 + (1 + ar) by omega, over_comp hcq (c' := (setV cq ar (IntKind.i64.wrap (cv cq ar + (1 : Int))))) (by omega) (setV_cells cq harl _)]
              have hnee := ent_comp_ne (e := (⟨((3 * k : Nat) : Int) - (20 : Int), x5.comps⟩ : KEnt)) hcq (U_changed (a := cv cq ar) (b := 1) (by omega) (by omega)) (cv_word cq harl) (setV_words cq harl _)
              refine c_region ?_
              refine l_val (v := vb) rfl rfl rfl (e_move) ?_
              refine l_val (v := .agg #[Ix (((3 * k : Nat) : Int) - (20 : Int)), .slice p33 (x5.comps.length) c34]) rfl rfl rfl (e_load tf24 (cs := [Ix (((3 * k : Nat) : Int) - (20 : Int)), .slice p33 (x5.comps.length) c34]) rfl (k_pt 0 (cs := #[Ix (((3 * k : Nat) : Int) - (20 : Int)), .slice p33 (x5.comps.length) c34]) (vs := [Ix (((3 * k : Nat) : Int) - (20 : Int)), .slice p33 (x5.comps.length) c34]) rfl rfl) rfl) ?_
              refine l_mv rfl rfl rfl (m_slices tf32 tf33 (vs := [(0, .agg #[Ix (((3 * k : Nat) : Int) - (20 : Int)), .slice p33 (x5.comps.length) c34])]) (cells := #[Ix (((3 * k : Nat) : Int) - (20 : Int)), .slice p33 (x5.comps.length) c34]) rfl rfl rfl rfl) ?_
              rintro _ _ ⟨b37, rfl, rfl⟩
              refine l_mv rfl rfl rfl (m_append 6 tf32 tf72 (v := vb) (m := bs.length) (vs := (entCells ub bs)) (ad := ⟨b37, 0, none⟩) (k := 1) (c := 1) (news := [Ix (((3 * k : Nat) : Int) - (20 : Int)), .slice p33 (x5.comps.length) c34]) rfl rfl rfl rfl (k_pt 0 (cs := #[Ix (((3 * k : Nat) : Int) - (20 : Int)), .slice p33 (x5.comps.length) c34]) (vs := [Ix (((3 * k : Nat) : Int) - (20 : Int)), .slice p33 (x5.comps.length) c34]) rfl rfl) rfl (by unfold maxLen; omega) (by omega)) ?_
              rintro v38 _ ⟨hnv38, rfl⟩
              refine l_val (v := v38) rfl rfl rfl (e_assign) ?_
              refine l_nil ?_
              refine f_block ?_
              refine f_block ?_
              refine f_then ?_
              refine c_region ?_
              refine l_val (v := Nx (k + 1)) rfl rfl rfl (e_add (a := ((k : Nat) : Int)) (b := (1 : Int)) rfl rfl (i64n (by omega) (by omega))) ?_
              refine l_val (v := Nx (k + 1)) rfl rfl rfl (e_move) ?_
              refine l_nil ?_
              refine f_perm (L' := [row (.slice p33 (x5.comps.length) c34) 55 5 (x5.comps.length) (((x5.comps.set aq (setV cq ar (IntKind.i64.wrap (cv cq ar + (1 : Int))))).flatMap compE)), gb β₁ ub bs, pt b37 (.cells #[Ix (((3 * k : Nat) : Int) - (20 : Int)), .slice p33 (x5.comps.length) c34] 33), pt b35 (.cells #[Ix (((3 * k : Nat) : Int) - (20 : Int)), .slice p33 (x5.comps.length) c34] 33), pt b30 (.cells #[Ix (((3 * k : Nat) : Int) - (20 : Int))] 3), pt b14 (.cells #[Ix (((3 * k : Nat) : Int) - (20 : Int)), .slice v11a (x5.comps.length) (v11c)] 33), pt b13 (.cells #[Ix (((3 * k : Nat) : Int) - (20 : Int)), .slice v11a (x5.comps.length) (v11c)] 33), row v15 33 2 (k + 1) ((entCells ua ps) ++ [Ix (((3 * k : Nat) : Int) - (20 : Int)), .slice v11a (x5.comps.length) (v11c)]), row v38 33 2 (bs.length + 1) ((entCells ub bs) ++ [Ix (((3 * k : Nat) : Int) - (20 : Int)), .slice p33 (x5.comps.length) c34]), row v31 3 1 (ws.length + 1) ((ws.map fun z => Ix z) ++ [Ix (((3 * k : Nat) : Int) - (20 : Int))]), pt b1 (.cells #[Ix (x.tick), .slice p2 (es.length) (c3)] 24)]) (((((((((((perm_front 9 rfl).trans (perm_front 8 rfl)).trans (perm_front 8 rfl)).trans (perm_front 8 rfl)).trans (perm_front 8 rfl)).trans (perm_front 8 rfl)).trans (perm_front 8 rfl)).trans (perm_front 8 rfl)).trans (perm_front 8 rfl)).trans (perm_front 9 rfl)).trans (perm_front 10 rfl)) ?_
              refine f_turn (fun w h => gb_own (e := (⟨((3 * k : Nat) : Int) - (20 : Int), x5.comps.set aq (setV cq ar (IntKind.i64.wrap (cv cq ar + (1 : Int))))⟩ : KEnt)) (by simp) h) ?_
              refine f_perm (L' := [row v15 33 2 (k + 1) ((entCells ua ps) ++ [Ix (((3 * k : Nat) : Int) - (20 : Int)), .slice v11a (x5.comps.length) (v11c)]), row v38 33 2 (bs.length + 1) ((entCells ub bs) ++ [Ix (((3 * k : Nat) : Int) - (20 : Int)), .slice p33 (x5.comps.length) c34]), row v31 3 1 (ws.length + 1) ((ws.map fun z => Ix z) ++ [Ix (((3 * k : Nat) : Int) - (20 : Int))]), gb β₁ (ub ++ [(.slice p33 (x5.comps.length) c34)]) (bs ++ [(⟨((3 * k : Nat) : Int) - (20 : Int), x5.comps.set aq (setV cq ar (IntKind.i64.wrap (cv cq ar + (1 : Int))))⟩ : KEnt)]), pt b1 (.cells #[Ix (x.tick), .slice p2 (es.length) (c3)] 24), pt b37 (.cells #[Ix (((3 * k : Nat) : Int) - (20 : Int)), .slice p33 (x5.comps.length) c34] 33), pt b35 (.cells #[Ix (((3 * k : Nat) : Int) - (20 : Int)), .slice p33 (x5.comps.length) c34] 33), pt b30 (.cells #[Ix (((3 * k : Nat) : Int) - (20 : Int))] 3), pt b14 (.cells #[Ix (((3 * k : Nat) : Int) - (20 : Int)), .slice v11a (x5.comps.length) (v11c)] 33), pt b13 (.cells #[Ix (((3 * k : Nat) : Int) - (20 : Int)), .slice v11a (x5.comps.length) (v11c)] 33)]) ((((((((((perm_front 5 rfl).trans (perm_front 5 rfl)).trans (perm_front 5 rfl)).trans (perm_front 5 rfl)).trans (perm_front 5 rfl)).trans (perm_front 9 rfl)).trans (perm_front 6 rfl)).trans (perm_front 9 rfl)).trans (perm_front 9 rfl)).trans (perm_front 9 rfl)) ?_
              refine f_mask (L' := [row v15 33 2 (k + 1) ((entCells ua ps) ++ [Ix (((3 * k : Nat) : Int) - (20 : Int)), .slice v11a (x5.comps.length) (v11c)]), row v38 33 2 (bs.length + 1) ((entCells ub bs) ++ [Ix (((3 * k : Nat) : Int) - (20 : Int)), .slice p33 (x5.comps.length) c34]), row v31 3 1 (ws.length + 1) ((ws.map fun z => Ix z) ++ [Ix (((3 * k : Nat) : Int) - (20 : Int))]), gb β₁ (ub ++ [(.slice p33 (x5.comps.length) c34)]) (bs ++ [(⟨((3 * k : Nat) : Int) - (20 : Int), x5.comps.set aq (setV cq ar (IntKind.i64.wrap (cv cq ar + (1 : Int))))⟩ : KEnt)]), pt b1 (.cells #[Ix (x.tick), .slice p2 (es.length) (c3)] 24)]) [true, true, true, true, true, false, false, false, false, false] rfl ?_
              exact f_cut ⟨(k + 1, v15, (ua ++ [(.slice v11a (x5.comps.length) (v11c))]), (ps ++ [(⟨((3 * k : Nat) : Int) - (20 : Int), x5.comps⟩ : KEnt)]), v38, (ub ++ [(.slice p33 (x5.comps.length) c34)]), (bs ++ [(⟨((3 * k : Nat) : Int) - (20 : Int), x5.comps.set aq (setV cq ar (IntKind.i64.wrap (cv cq ar + (1 : Int))))⟩ : KEnt)]), v31, (ws ++ [((3 * k : Nat) : Int) - (20 : Int)])), ⟨⟨rfl, rfl, rfl, rfl, rfl, rfl, rfl, rfl⟩, (by simp [ent_cells_append hga.1, ent_cells_append hub, entCells]), ⟨by omega, hga.append (EGood.one (e := (⟨((3 * k : Nat) : Int) - (20 : Int), x5.comps⟩ : KEnt)) (⟨⟨_, _, rfl, v11l, v11m, v11e⟩⟩ : Sl CompR _ _ x5.comps)), by simp [hub], hap.turn (e := (⟨((3 * k : Nat) : Int) - (20 : Int), x5.comps⟩ : KEnt)) (e' := (⟨((3 * k : Nat) : Int) - (20 : Int), x5.comps.set aq (setV cq ar (IntKind.i64.wrap (cv cq ar + (1 : Int))))⟩ : KEnt)) (show ((3 * k : Nat) : Int) - (20 : Int) = 3 * (k : Int) - 20 by omega) rfl hnee⟩⟩, (show es.length - (k + 1) < es.length - k from by omega)⟩
            ·
              refine c_skip ?_
              refine f_block ?_
              refine f_block ?_
              refine f_then ?_
              refine c_region ?_
              refine l_val (v := Nx (k + 1)) rfl rfl rfl (e_add (a := ((k : Nat) : Int)) (b := (1 : Int)) rfl rfl (i64n (by omega) (by omega))) ?_
              refine l_val (v := Nx (k + 1)) rfl rfl rfl (e_move) ?_
              refine l_nil ?_
              refine f_mask (L' := [row v15 33 2 (k + 1) ((entCells ua ps) ++ [Ix (((3 * k : Nat) : Int) - (20 : Int)), .slice v11a (x5.comps.length) (v11c)]), row vb 33 2 (bs.length) ((entCells ub bs)), row v31 3 1 (ws.length + 1) ((ws.map fun z => Ix z) ++ [Ix (((3 * k : Nat) : Int) - (20 : Int))]), gb β₁ ub bs, pt b1 (.cells #[Ix (x.tick), .slice p2 (es.length) (c3)] 24)]) [false, false, false, true, true, true, true, true] rfl ?_
              exact f_cut ⟨(k + 1, v15, (ua ++ [(.slice v11a (x5.comps.length) (v11c))]), (ps ++ [(⟨((3 * k : Nat) : Int) - (20 : Int), x5.comps⟩ : KEnt)]), vb, ub, bs, v31, (ws ++ [((3 * k : Nat) : Int) - (20 : Int)])), ⟨⟨rfl, rfl, rfl, rfl, rfl, rfl, rfl, rfl⟩, (by simp [ent_cells_append hga.1, entCells]), ⟨by omega, hga.append (EGood.one (e := (⟨((3 * k : Nat) : Int) - (20 : Int), x5.comps⟩ : KEnt)) (⟨⟨_, _, rfl, v11l, v11m, v11e⟩⟩ : Sl CompR _ _ x5.comps)), by simp [hub], hap.lose (e := (⟨((3 * k : Nat) : Int) - (20 : Int), x5.comps⟩ : KEnt)) (show ((3 * k : Nat) : Int) - (20 : Int) = 3 * (k : Int) - 20 by omega)⟩⟩, (show es.length - (k + 1) < es.length - k from by omega)⟩
      ·
        refine c_region ?_
        refine l_val (v := .bool (decide (((x17.toNat % 4 : Nat) : Int) = ((1 : UInt8).toNat : Int)))) rfl rfl rfl (e_eql (a := ((x17.toNat % 4 : Nat) : Int)) (b := ((1 : UInt8).toNat : Int)) rfl rfl) ?_
        refine l_val (v := .bool (decide (((x17.toNat % 4 : Nat) : Int) = ((1 : UInt8).toNat : Int)))) rfl rfl rfl (e_assign) ?_
        refine l_nil ?_
        refine f_then ?_
        refine c_if (((x17.toNat % 4 : Nat) : Int) = ((1 : UInt8).toNat : Int)) rfl (fun hc39 => ?_) (fun hc39 => ?_)
        ·
          refine c_region ?_
          refine l_val (v := vb) rfl rfl rfl (e_move) ?_
          refine l_val (v := .agg #[Ix (((3 * k : Nat) : Int) - (20 : Int)), .slice v11a (x5.comps.length) (v11c)]) rfl rfl rfl (e_load tf24 (cs := [Ix (((3 * k : Nat) : Int) - (20 : Int)), .slice v11a (x5.comps.length) (v11c)]) rfl (k_pt 1 (cs := #[Ix (((3 * k : Nat) : Int) - (20 : Int)), .slice v11a (x5.comps.length) (v11c)]) (vs := [Ix (((3 * k : Nat) : Int) - (20 : Int)), .slice v11a (x5.comps.length) (v11c)]) rfl rfl) rfl) ?_
          refine l_mv rfl rfl rfl (m_slices tf32 tf33 (vs := [(0, .agg #[Ix (((3 * k : Nat) : Int) - (20 : Int)), .slice v11a (x5.comps.length) (v11c)])]) (cells := #[Ix (((3 * k : Nat) : Int) - (20 : Int)), .slice v11a (x5.comps.length) (v11c)]) rfl rfl rfl rfl) ?_
          rintro _ _ ⟨b40, rfl, rfl⟩
          refine l_mv rfl rfl rfl (m_append 4 tf32 tf72 (v := vb) (m := bs.length) (vs := (entCells ub bs)) (ad := ⟨b40, 0, none⟩) (k := 1) (c := 1) (news := [Ix (((3 * k : Nat) : Int) - (20 : Int)), .slice v11a (x5.comps.length) (v11c)]) rfl rfl rfl rfl (k_pt 0 (cs := #[Ix (((3 * k : Nat) : Int) - (20 : Int)), .slice v11a (x5.comps.length) (v11c)]) (vs := [Ix (((3 * k : Nat) : Int) - (20 : Int)), .slice v11a (x5.comps.length) (v11c)]) rfl rfl) rfl (by unfold maxLen; omega) (by omega)) ?_
          rintro v41 _ ⟨hnv41, rfl⟩
          refine l_val (v := v41) rfl rfl rfl (e_assign) ?_
          refine l_nil ?_
          refine f_block ?_
          refine f_block ?_
          refine f_then ?_
          refine c_region ?_
          refine l_val (v := Nx (k + 1)) rfl rfl rfl (e_add (a := ((k : Nat) : Int)) (b := (1 : Int)) rfl rfl (i64n (by omega) (by omega))) ?_
          refine l_val (v := Nx (k + 1)) rfl rfl rfl (e_move) ?_
          refine l_nil ?_
          refine f_turn (fun w h => h.conseq_at 6 rfl (fun a h => gb_base (u := (.slice v11a (x5.comps.length) (v11c))) (e := (⟨((3 * k : Nat) : Int) - (20 : Int), x5.comps⟩ : KEnt)) (⟨⟨_, _, rfl, v11l, v11m, v11e⟩⟩ : Sl CompR _ _ x5.comps) h)) ?_
          refine f_mask (L' := [row v15 33 2 (k + 1) ((entCells ua ps) ++ [Ix (((3 * k : Nat) : Int) - (20 : Int)), .slice v11a (x5.comps.length) (v11c)]), row v41 33 2 (bs.length + 1) ((entCells ub bs) ++ [Ix (((3 * k : Nat) : Int) - (20 : Int)), .slice v11a (x5.comps.length) (v11c)]), row vw 3 1 (ws.length) ((ws.map fun z => Ix z)), gb β₁ (ub ++ [(.slice v11a (x5.comps.length) (v11c))]) (bs ++ [(⟨((3 * k : Nat) : Int) - (20 : Int), x5.comps⟩ : KEnt)]), pt b1 (.cells #[Ix (x.tick), .slice p2 (es.length) (c3)] 24)]) [false, false, false, true, true, true, true, true] rfl ?_
          exact f_cut ⟨(k + 1, v15, (ua ++ [(.slice v11a (x5.comps.length) (v11c))]), (ps ++ [(⟨((3 * k : Nat) : Int) - (20 : Int), x5.comps⟩ : KEnt)]), v41, (ub ++ [(.slice v11a (x5.comps.length) (v11c))]), (bs ++ [(⟨((3 * k : Nat) : Int) - (20 : Int), x5.comps⟩ : KEnt)]), vw, ws), ⟨⟨rfl, rfl, rfl, rfl, rfl, rfl, rfl, rfl⟩, (by simp [ent_cells_append hga.1, ent_cells_append hub, entCells]), ⟨by omega, hga.append (EGood.one (e := (⟨((3 * k : Nat) : Int) - (20 : Int), x5.comps⟩ : KEnt)) (⟨⟨_, _, rfl, v11l, v11m, v11e⟩⟩ : Sl CompR _ _ x5.comps)), by simp [hub], hap.keep (e := (⟨((3 * k : Nat) : Int) - (20 : Int), x5.comps⟩ : KEnt)) (show ((3 * k : Nat) : Int) - (20 : Int) = 3 * (k : Int) - 20 by omega)⟩⟩, (show es.length - (k + 1) < es.length - k from by omega)⟩
        ·
          refine c_seq ?_
          refine c_region ?_
          refine l_val (v := .bool (decide (((x17.toNat % 4 : Nat) : Int) = ((2 : UInt8).toNat : Int)))) rfl rfl rfl (e_eql (a := ((x17.toNat % 4 : Nat) : Int)) (b := ((2 : UInt8).toNat : Int)) rfl rfl) ?_
          refine l_val (v := .bool (decide (((x17.toNat % 4 : Nat) : Int) = ((2 : UInt8).toNat : Int)))) rfl rfl rfl (e_assign) ?_
          refine l_nil ?_
          refine f_then ?_
          refine c_if (((x17.toNat % 4 : Nat) : Int) = ((2 : UInt8).toNat : Int)) rfl (fun hc42 => ?_) (fun hc42 => ?_)
          ·
            refine c_region ?_
            refine l_val (v := vw) rfl rfl rfl (e_move) ?_
            refine l_val (v := .pointer (some ⟨b13, 0, none⟩)) rfl rfl rfl (e_fieldPt (b := b13) (o := 0) rfl tf9) ?_
            refine l_val (v := Ix (((3 * k : Nat) : Int) - (20 : Int))) rfl rfl rfl (e_load1 tf10 (v := Ix (((3 * k : Nat) : Int) - (20 : Int))) rfl (k_pt 1 (cs := #[Ix (((3 * k : Nat) : Int) - (20 : Int)), .slice v11a (x5.comps.length) (v11c)]) (vs := [Ix (((3 * k : Nat) : Int) - (20 : Int))]) rfl rfl)) ?_
            refine l_mv rfl rfl rfl (m_slices tf39 tf52 (vs := [(0, Ix (((3 * k : Nat) : Int) - (20 : Int)))]) (cells := #[Ix (((3 * k : Nat) : Int) - (20 : Int))]) rfl rfl rfl rfl) ?_
            rintro _ _ ⟨b43, rfl, rfl⟩
            refine l_mv rfl rfl rfl (m_append 5 tf39 tf53 (v := vw) (m := ws.length) (vs := (ws.map fun z => Ix z)) (ad := ⟨b43, 0, none⟩) (k := 1) (c := 1) (news := [Ix (((3 * k : Nat) : Int) - (20 : Int))]) rfl rfl rfl rfl (k_pt 0 (cs := #[Ix (((3 * k : Nat) : Int) - (20 : Int))]) (vs := [Ix (((3 * k : Nat) : Int) - (20 : Int))]) rfl rfl) rfl (by unfold maxLen; omega) (by omega)) ?_
            rintro v44 _ ⟨hnv44, rfl⟩
            refine l_val (v := v44) rfl rfl rfl (e_assign) ?_
            refine l_nil ?_
            refine f_block ?_
            refine f_block ?_
            refine f_then ?_
            refine c_region ?_
            refine l_val (v := Nx (k + 1)) rfl rfl rfl (e_add (a := ((k : Nat) : Int)) (b := (1 : Int)) rfl rfl (i64n (by omega) (by omega))) ?_
            refine l_val (v := Nx (k + 1)) rfl rfl rfl (e_move) ?_
            refine l_nil ?_
            refine f_mask (L' := [row v15 33 2 (k + 1) ((entCells ua ps) ++ [Ix (((3 * k : Nat) : Int) - (20 : Int)), .slice v11a (x5.comps.length) (v11c)]), row vb 33 2 (bs.length) ((entCells ub bs)), row v44 3 1 (ws.length + 1) ((ws.map fun z => Ix z) ++ [Ix (((3 * k : Nat) : Int) - (20 : Int))]), gb β₁ ub bs, pt b1 (.cells #[Ix (x.tick), .slice p2 (es.length) (c3)] 24)]) [false, false, false, true, true, true, true, true] rfl ?_
            exact f_cut ⟨(k + 1, v15, (ua ++ [(.slice v11a (x5.comps.length) (v11c))]), (ps ++ [(⟨((3 * k : Nat) : Int) - (20 : Int), x5.comps⟩ : KEnt)]), vb, ub, bs, v44, (ws ++ [((3 * k : Nat) : Int) - (20 : Int)])), ⟨⟨rfl, rfl, rfl, rfl, rfl, rfl, rfl, rfl⟩, (by simp [ent_cells_append hga.1, entCells]), ⟨by omega, hga.append (EGood.one (e := (⟨((3 * k : Nat) : Int) - (20 : Int), x5.comps⟩ : KEnt)) (⟨⟨_, _, rfl, v11l, v11m, v11e⟩⟩ : Sl CompR _ _ x5.comps)), by simp [hub], hap.lose (e := (⟨((3 * k : Nat) : Int) - (20 : Int), x5.comps⟩ : KEnt)) (show ((3 * k : Nat) : Int) - (20 : Int) = 3 * (k : Int) - 20 by omega)⟩⟩, (show es.length - (k + 1) < es.length - k from by omega)⟩
          ·
            refine c_seq ?_
            refine c_region ?_
            refine l_val (v := vw) rfl rfl rfl (e_move) ?_
            refine l_val (v := .pointer (some ⟨b13, 0, none⟩)) rfl rfl rfl (e_fieldPt (b := b13) (o := 0) rfl tf9) ?_
            refine l_val (v := Ix (((3 * k : Nat) : Int) - (20 : Int))) rfl rfl rfl (e_load1 tf10 (v := Ix (((3 * k : Nat) : Int) - (20 : Int))) rfl (k_pt 1 (cs := #[Ix (((3 * k : Nat) : Int) - (20 : Int)), .slice v11a (x5.comps.length) (v11c)]) (vs := [Ix (((3 * k : Nat) : Int) - (20 : Int))]) rfl rfl)) ?_
            refine l_mv rfl rfl rfl (m_slices tf39 tf52 (vs := [(0, Ix (((3 * k : Nat) : Int) - (20 : Int)))]) (cells := #[Ix (((3 * k : Nat) : Int) - (20 : Int))]) rfl rfl rfl rfl) ?_
            rintro _ _ ⟨b45, rfl, rfl⟩
            refine l_mv rfl rfl rfl (m_append 5 tf39 tf53 (v := vw) (m := ws.length) (vs := (ws.map fun z => Ix z)) (ad := ⟨b45, 0, none⟩) (k := 1) (c := 1) (news := [Ix (((3 * k : Nat) : Int) - (20 : Int))]) rfl rfl rfl rfl (k_pt 0 (cs := #[Ix (((3 * k : Nat) : Int) - (20 : Int))]) (vs := [Ix (((3 * k : Nat) : Int) - (20 : Int))]) rfl rfl) rfl (by unfold maxLen; omega) (by omega)) ?_
            rintro v46 _ ⟨hnv46, rfl⟩
            refine l_val (v := v46) rfl rfl rfl (e_assign) ?_
            refine l_nil ?_
            refine f_then ?_
            refine c_seq ?_
            refine c_region ?_
            refine l_val (v := .pointer (some ⟨b13, 1, none⟩)) rfl rfl rfl (e_fieldPt (b := b13) (o := 0) rfl tf11) ?_
            refine l_val (v := .slice v11a (x5.comps.length) (v11c)) rfl rfl rfl (e_load1 tf12 (v := .slice v11a (x5.comps.length) (v11c)) rfl (k_pt 2 (cs := #[Ix (((3 * k : Nat) : Int) - (20 : Int)), .slice v11a (x5.comps.length) (v11c)]) (vs := [.slice v11a (x5.comps.length) (v11c)]) rfl rfl)) ?_
            refine l_val (v := Nx (x5.comps.length)) rfl rfl rfl (e_len (a := v11a) (n := x5.comps.length) (c := v11c) rfl tf13) ?_
            refine l_val (v := .bool (decide ((0 : Int) < ((x5.comps.length : Nat) : Int)))) rfl rfl rfl (e_gtr (a := ((x5.comps.length : Nat) : Int)) (b := (0 : Int)) rfl rfl) ?_
            refine l_nil ?_
            refine f_then ?_
            refine c_if ((0 : Int) < ((x5.comps.length : Nat) : Int)) rfl (fun hc47 => ?_) (fun hc47 => ?_)
            ·
              refine c_seq ?_
              refine c_region ?_
              refine l_val (v := .agg #[Ix (((3 * k : Nat) : Int) - (20 : Int)), .slice v11a (x5.comps.length) (v11c)]) rfl rfl rfl (e_load tf24 (cs := [Ix (((3 * k : Nat) : Int) - (20 : Int)), .slice v11a (x5.comps.length) (v11c)]) rfl (k_pt 2 (cs := #[Ix (((3 * k : Nat) : Int) - (20 : Int)), .slice v11a (x5.comps.length) (v11c)]) (vs := [Ix (((3 * k : Nat) : Int) - (20 : Int)), .slice v11a (x5.comps.length) (v11c)]) rfl rfl) rfl) ?_
              refine l_call rfl rfl rfl (cl_value (fst := []) (cap := []) (vs := [.agg #[Ix (((3 * k : Nat) : Int) - (20 : Int)), .slice v11a (x5.comps.length) (v11c)]]) (all := [.agg #[Ix (((3 * k : Nat) : Int) - (20 : Int)), .slice v11a (x5.comps.length) (v11c)]]) tf71 rfl rfl rfl) ?_
              intro w hw
              obtain ⟨β1, sb, kn, hw1, back⟩ := St.frame_all hw
              refine (copyEntity_ok β1 w hw1 (⟨((3 * k : Nat) : Int) - (20 : Int), x5.comps⟩ : KEnt) _ (Sl.mono _ _ _ _ _ sb (⟨⟨_, _, rfl, v11l, v11m, v11e⟩⟩ : Sl CompR _ _ x5.comps)) (show x5.comps.length * 40 ≤ _ by have := hesb _ _ hx6; omega)).mono ?_
              rintro e w' ⟨p48, c49, rfl, hw'⟩
              refine ⟨_, rfl, _, back _ _ hw', ?_⟩
              clear hw hw1 hw' back kn sb
              refine l_mv rfl rfl rfl (m_alloc tf33) ?_
              rintro _ _ ⟨b50, rfl, rfl⟩
              refine l_mu rfl rfl (m_store 0 tf24 (b := b50) (o := 0) (T := 33) (cs := #[.int .i64 (0), .slice none 0 0]) (cs' := #[Ix (((3 * k : Nat) : Int) - (20 : Int)), .slice p48 (x5.comps.length) c49]) (v := .agg #[Ix (((3 * k : Nat) : Int) - (20 : Int)), .slice p48 (x5.comps.length) c49]) rfl rfl rfl rfl rfl rfl rfl) ?_
              refine l_nil ?_
              refine f_then ?_
              refine c_seq ?_
              have hx8 := x17.toNat_lt
              obtain ⟨aq, haq⟩ : ∃ z, z = (x17.toNat / 4) % x5.comps.length := ⟨_, rfl⟩
              obtain ⟨ar, har⟩ : ∃ z, z = x17.toNat % 4 := ⟨_, rfl⟩
              have haql : aq < x5.comps.length := by rw [haq]; exact Nat.mod_lt _ (by omega)
              have harl : ar < 4 := by rw [har]; exact Nat.mod_lt _ (by omega)
              obtain ⟨cq, hcq⟩ : ∃ c_, x5.comps[aq]? = some c_ := ⟨_, List.getElem?_eq_getElem haql⟩
              refine c_any [⟨[], [], [0], [55], fun f => f 55 = .pointer (some ⟨b50, 1, none⟩)⟩, ⟨[0], [0], [], [56], fun f => f 56 = .slice p48 (x5.comps.length) c49⟩, ⟨[], [], [1], [57], fun f => f 57 = Bx (x17)⟩, ⟨[2], [2], [], [58], fun f => f 58 = .int .u8 (((x17.toNat / 4 : Nat)) : Int)⟩, ⟨[2, 3], [3], [], [59], fun f => f 59 = Nx (x17.toNat / 4)⟩, ⟨[], [], [0], [60], fun f => f 60 = .pointer (some ⟨b50, 1, none⟩)⟩, ⟨[5], [5], [], [61], fun f => f 61 = .slice p48 (x5.comps.length) c49⟩, ⟨[5, 6], [6], [], [62], fun f => f 62 = Nx (x5.comps.length)⟩, ⟨[2, 3, 4, 5, 6, 7], [4, 7], [], [63], fun f => f 63 = Nx (aq)⟩, ⟨[], [], [1], [64], fun f => f 64 = Bx (x17)⟩, ⟨[9], [9], [], [65], fun f => f 65 = Nx (x17.toNat)⟩, ⟨[9, 10], [10], [], [66], fun f => f 66 = Nx (ar)⟩, ⟨[0, 1, 2, 3, 4, 5, 6, 7, 8], [1, 8], [], [67], fun f => f 67 = .pointer (some ((ba p48).add (aq * 5)))⟩, ⟨[0, 1, 2, 3, 4, 5, 6, 7, 8, 12], [12], [], [68], fun f => f 68 = .pointer (some ((ba p48).add (aq * 5 + 1)))⟩, ⟨[0, 1, 2, 3, 4, 5, 6, 7, 8, 9, 10, 11, 12, 13], [13, 11], [], [69], fun f => f 69 = .pointer (some ((ba p48).add (aq * 5 + 1 + ar * 1)))⟩, ⟨[0, 1, 2, 3, 4, 5, 6, 7, 8, 9, 10, 11, 12, 13, 14], [14], [], [70], fun f => f 70 = Ix (cv cq ar)⟩, ⟨[0, 1, 2, 3, 4, 5, 6, 7, 8, 9, 10, 11, 12, 13, 14, 15], [15], [], [71], fun f => f 71 = Ix (IntKind.i64.wrap ((cv cq ar) + (1 : Int)))⟩, ⟨[0, 1, 2, 3, 4, 5, 6, 7, 8], [1, 8], [], [72], fun f => f 72 = .pointer (some ((ba p48).add (aq * 5)))⟩, ⟨[0, 1, 2, 3, 4, 5, 6, 7, 8, 17], [17], [], [73], fun f => f 73 = .pointer (some ((ba p48).add (aq * 5 + 1)))⟩, ⟨[0, 1, 2, 3, 4, 5, 6, 7, 8, 9, 10, 11, 12, 13, 14, 15, 16, 17, 18], [18, 11], [], [74], fun f => f 74 = .pointer (some ((ba p48).add (aq * 5 + 1 + ar * 1)))⟩, ⟨[0, 1, 2, 3, 4, 5, 6, 7, 8, 9, 10, 11, 12, 13, 14, 15, 16, 17, 18, 19], [19, 16], [], [], fun _ => True⟩] [⟨none, none, [1, 6], [], fun _ => pt b50 (.cells #[Ix (((3 * k : Nat) : Int) - (20 : Int)), .slice p48 (x5.comps.length) c49] 33)⟩, ⟨none, (some 20), [12, 15, 17, 20], [], fun _ => row (.slice p48 (x5.comps.length) c49) 55 5 (x5.comps.length) ((x5.comps.flatMap compE))⟩, ⟨none, none, [], [], fun _ => pt b45 (.cells #[Ix (((3 * k : Nat) : Int) - (20 : Int))] 3)⟩, ⟨none, none, [], [], fun _ => pt b14 (.cells #[Ix (((3 * k : Nat) : Int) - (20 : Int)), .slice v11a (x5.comps.length) (v11c)] 33)⟩, ⟨none, none, [], [], fun _ => pt b13 (.cells #[Ix (((3 * k : Nat) : Int) - (20 : Int)), .slice v11a (x5.comps.length) (v11c)] 33)⟩, ⟨none, none, [], [], fun _ => row v15 33 2 (k + 1) ((entCells ua ps) ++ [Ix (((3 * k : Nat) : Int) - (20 : Int)), .slice v11a (x5.comps.length) (v11c)])⟩, ⟨none, none, [], [], fun _ => row vb 33 2 (bs.length) ((entCells ub bs))⟩, ⟨none, none, [], [], fun _ => row v46 3 1 (ws.length + 1) ((ws.map fun z => Ix z) ++ [Ix (((3 * k : Nat) : Int) - (20 : Int))])⟩, ⟨none, none, [], [], fun _ => gb β₁ ub bs⟩, ⟨none, none, [], [], fun _ => pt b1 (.cells #[Ix (x.tick), .slice p2 (es.length) (c3)] 24)⟩, ⟨(some 20), none, [], [], fun _ => row (.slice p48 (x5.comps.length) c49) 55 5 (x5.comps.length) ((overL (x5.comps.flatMap compE) (aq * 5 + 1 + ar * 1) [Ix (IntKind.i64.wrap ((cv cq ar) + (1 : Int)))]))⟩] [(11, .pointer (some ⟨b50, 0, none⟩)), (10, Bx (x17)), (1, .slice ya (what.length) (yc)), (2, .pointer (some ⟨b1, 0, none⟩)), (5, v15), (6, vb), (7, v46), (19, .slice p2 (es.length) (c3)), (20, Nx (es.length)), (21, Nx (k))] [2, 3, 4, 5, 6, 0, 7, 8, 9] [] (by kernel_rfl) (by kernel_rfl) (by kernel_rfl) (by kernel_rfl) rfl ⟨rfl, rfl, rfl, rfl, rfl, rfl, rfl, rfl, rfl, rfl, trivial⟩ ⟨?_, ?_, ?_, ?_, ?_, ?_, ?_, ?_, ?_, ?_, ?_, ?_, ?_, ?_, ?_, ?_, ?_, ?_, ?_, ?_, ?_, trivial⟩ ?_
              · rintro f M - ⟨i0, -⟩
                have hs11 : f 11 = .pointer (some ⟨b50, 0, none⟩) := i0
                refine ob_start (L' := M) (by rfl) (up_cons rfl hs11) ?_
                refine l_val (v := .pointer (some ⟨b50, 1, none⟩)) rfl rfl rfl (e_fieldPt (b := b50) (o := 0) rfl tf11) ?_
                refine l_nil ?_
                exact f_owes_d (up_cons rfl hs11) rfl (List.Perm.refl _)
              · rintro f M ⟨k0, -⟩ -
                have hs55 : f 55 = .pointer (some ⟨b50, 1, none⟩) := k0
                refine ob_start (L' := pt b50 (.cells #[Ix (((3 * k : Nat) : Int) - (20 : Int)), .slice p48 (x5.comps.length) c49] 33) :: M) (by rfl) (up_cons rfl hs55) ?_
                refine l_val (v := .slice p48 (x5.comps.length) c49) rfl rfl rfl (e_load1 tf12 (v := .slice p48 (x5.comps.length) c49) rfl (k_pt 0 (cs := #[Ix (((3 * k : Nat) : Int) - (20 : Int)), .slice p48 (x5.comps.length) c49]) (vs := [.slice p48 (x5.comps.length) c49]) rfl rfl)) ?_
                refine l_nil ?_
                exact f_owes_d (up_cons rfl hs55) rfl (perm_front 0 rfl)
              · rintro f M - ⟨i0, -⟩
                have hs10 : f 10 = Bx (x17) := i0
                refine ob_start (L' := M) (by rfl) (up_cons rfl hs10) ?_
                refine l_val (v := Bx (x17)) rfl rfl rfl (e_move) ?_
                refine l_nil ?_
                exact f_owes_d (up_cons rfl hs10) rfl (List.Perm.refl _)
              · rintro f M ⟨k0, -⟩ -
                have hs57 : f 57 = Bx (x17) := k0
                refine ob_start (L' := M) (by rfl) (up_cons rfl hs57) ?_
                refine l_val (v := .int .u8 (((x17.toNat / 4 : Nat)) : Int)) rfl rfl rfl (e_quo (a := ((x17).toNat : Int)) (b := ((4 : Nat) : Int)) rfl rfl (by decide) (u8_quo _ _)) ?_
                refine l_nil ?_
                exact f_owes_d (up_cons rfl hs57) rfl (List.Perm.refl _)
              · rintro f M ⟨k0, -⟩ -
                have hs58 : f 58 = .int .u8 (((x17.toNat / 4 : Nat)) : Int) := k0
                refine ob_start (L' := M) (by rfl) (up_cons rfl hs58) ?_
                refine l_val (v := Nx (x17.toNat / 4)) rfl rfl rfl (e_conv (a := ((x17.toNat / 4 : Nat) : Int)) rfl ⟨_, tf8⟩ tf1 (i64n rfl (by omega))) ?_
                refine l_nil ?_
                exact f_owes_d (up_cons rfl hs58) rfl (List.Perm.refl _)
              · rintro f M - ⟨i0, -⟩
                have hs11 : f 11 = .pointer (some ⟨b50, 0, none⟩) := i0
                refine ob_start (L' := M) (by rfl) (up_cons rfl hs11) ?_
                refine l_val (v := .pointer (some ⟨b50, 1, none⟩)) rfl rfl rfl (e_fieldPt (b := b50) (o := 0) rfl tf11) ?_
                refine l_nil ?_
                exact f_owes_d (up_cons rfl hs11) rfl (List.Perm.refl _)
              · rintro f M ⟨k0, -⟩ -
                have hs60 : f 60 = .pointer (some ⟨b50, 1, none⟩) := k0
                refine ob_start (L' := pt b50 (.cells #[Ix (((3 * k : Nat) : Int) - (20 : Int)), .slice p48 (x5.comps.length) c49] 33) :: M) (by rfl) (up_cons rfl hs60) ?_
                refine l_val (v := .slice p48 (x5.comps.length) c49) rfl rfl rfl (e_load1 tf12 (v := .slice p48 (x5.comps.length) c49) rfl (k_pt 0 (cs := #[Ix (((3 * k : Nat) : Int) - (20 : Int)), .slice p48 (x5.comps.length) c49]) (vs := [.slice p48 (x5.comps.length) c49]) rfl rfl)) ?_
                refine l_nil ?_
                exact f_owes_d (up_cons rfl hs60) rfl (perm_front 0 rfl)
              · rintro f M ⟨k0, -⟩ -
                have hs61 : f 61 = .slice p48 (x5.comps.length) c49 := k0
                refine ob_start (L' := M) (by rfl) (up_cons rfl hs61) ?_
                refine l_val (v := Nx (x5.comps.length)) rfl rfl rfl (e_len (a := p48) (n := x5.comps.length) (c := c49) rfl tf13) ?_
                refine l_nil ?_
                exact f_owes_d (up_cons rfl hs61) rfl (List.Perm.refl _)
              · rintro f M ⟨k0, k1, -⟩ -
                have hs59 : f 59 = Nx (x17.toNat / 4) := k0
                have hs62 : f 62 = Nx (x5.comps.length) := k1
                refine ob_start (L' := M) (by rfl) (up_cons (up_cons rfl hs59) hs62) ?_
                refine l_val (v := Nx (aq)) rfl rfl rfl (ev_eq (congrArg (fun z : Nat => Nx z) haq.symm) (e_rem (a := ((x17.toNat / 4 : Nat) : Int)) (b := ((x5.comps.length : Nat) : Int)) rfl rfl (by omega) (nat_tmod _ _))) ?_
                refine l_nil ?_
                exact f_owes_d (up_cons (up_cons rfl hs59) hs62) rfl (List.Perm.refl _)
              · rintro f M - ⟨i0, -⟩
                have hs10 : f 10 = Bx (x17) := i0
                refine ob_start (L' := M) (by rfl) (up_cons rfl hs10) ?_
                refine l_val (v := Bx (x17)) rfl rfl rfl (e_move) ?_
                refine l_nil ?_
                exact f_owes_d (up_cons rfl hs10) rfl (List.Perm.refl _)
              · rintro f M ⟨k0, -⟩ -
                have hs64 : f 64 = Bx (x17) := k0
                refine ob_start (L' := M) (by rfl) (up_cons rfl hs64) ?_
                refine l_val (v := Nx (x17.toNat)) rfl rfl rfl (e_conv (a := ((x17).toNat : Int)) rfl ⟨_, tf8⟩ tf1 (i64n rfl (by have := (x17).toNat_lt; omega))) ?_
                refine l_nil ?_
                exact f_owes_d (up_cons rfl hs64) rfl (List.Perm.refl _)
              · rintro f M ⟨k0, -⟩ -
                have hs65 : f 65 = Nx (x17.toNat) := k0
                refine ob_start (L' := M) (by rfl) (up_cons rfl hs65) ?_
                refine l_val (v := Nx (ar)) rfl rfl rfl (ev_eq (congrArg (fun z : Nat => Nx z) har.symm) (e_rem (a := ((x17.toNat : Nat) : Int)) (b := (4 : Int)) rfl rfl (by decide) (nat_tmod _ 4))) ?_
                refine l_nil ?_
                exact f_owes_d (up_cons rfl hs65) rfl (List.Perm.refl _)
              · rintro f M ⟨k0, k1, -⟩ -
                have hs56 : f 56 = .slice p48 (x5.comps.length) c49 := k0
                have hs63 : f 63 = Nx (aq) := k1
                refine ob_start (L' := row (.slice p48 (x5.comps.length) c49) 55 5 (x5.comps.length) ((x5.comps.flatMap compE)) :: M) (by rfl) (up_cons (up_cons rfl hs56) hs63) ?_
                refine l_val (v := .pointer (some ((ba p48).add (aq * 5)))) rfl rfl rfl (e_indexRow 0 (j := aq) (len := x5.comps.length) (cap := c49) (p := p48) rfl rfl tf14 (by omega) (by omega) rfl) ?_
                refine l_nil ?_
                exact f_owes_d (up_cons (up_cons rfl hs56) hs63) rfl (perm_front 0 rfl)
              · rintro f M ⟨k0, -⟩ -
                have hs67 : f 67 = .pointer (some ((ba p48).add (aq * 5))) := k0
                refine ob_start (L' := M) (by rfl) (up_cons rfl hs67) ?_
                refine l_val (v := .pointer (some ((ba p48).add (aq * 5 + 1)))) rfl rfl rfl (ev_eq (by rw [Addr.add_add']) (e_fieldAddr (a := (ba p48).add (aq * 5)) rfl tf19)) ?_
                refine l_nil ?_
                exact f_owes_d (up_cons rfl hs67) rfl (List.Perm.refl _)
              · rintro f M ⟨k0, k1, -⟩ -
                have hs68 : f 68 = .pointer (some ((ba p48).add (aq * 5 + 1))) := k0
                have hs66 : f 66 = Nx (ar) := k1
                refine ob_start (L' := M) (by rfl) (up_cons (up_cons rfl hs68) hs66) ?_
                refine l_val (v := .pointer (some ((ba p48).add (aq * 5 + 1 + ar * 1)))) rfl rfl rfl (ev_eq (by rw [Addr.add_add']) (e_indexArr (a := (ba p48).add (aq * 5 + 1)) (k := ar) rfl rfl tf21 (by omega))) ?_
                refine l_nil ?_
                exact f_owes_d (up_cons (up_cons rfl hs68) hs66) rfl (List.Perm.refl _)
              · rintro f M ⟨k0, -⟩ -
                have hs69 : f 69 = .pointer (some ((ba p48).add (aq * 5 + 1 + ar * 1))) := k0
                refine ob_start (L' := row (.slice p48 (x5.comps.length) c49) 55 5 (x5.comps.length) ((x5.comps.flatMap compE)) :: M) (by rfl) (up_cons rfl hs69) ?_
                refine l_val (v := Ix (cv cq ar)) rfl rfl rfl (e_load1 tf10 (v := Ix (cv cq ar)) rfl (k_row 0 (o := aq * 5 + 1 + ar * 1) (us := [Ix (cv cq ar)]) rfl (by rw [show aq * 5 + 1 + ar * 1 = aq * 5 + (1 + ar) by omega]; exact flat_at1 hcq (cv_cell cq (by omega))) (Nat.succ_pos _))) ?_
                refine l_nil ?_
                exact f_owes_d (up_cons rfl hs69) rfl (perm_front 0 rfl)
              · rintro f M ⟨k0, -⟩ -
                have hs70 : f 70 = Ix (cv cq ar) := k0
                refine ob_start (L' := M) (by rfl) (up_cons rfl hs70) ?_
                refine l_val (v := Ix (IntKind.i64.wrap ((cv cq ar) + (1 : Int)))) rfl rfl rfl (e_add (a := (cv cq ar)) (b := (1 : Int)) rfl rfl rfl) ?_
                refine l_nil ?_
                exact f_owes_d (up_cons rfl hs70) rfl (List.Perm.refl _)
              · rintro f M ⟨k0, k1, -⟩ -
                have hs56 : f 56 = .slice p48 (x5.comps.length) c49 := k0
                have hs63 : f 63 = Nx (aq) := k1
                refine ob_start (L' := row (.slice p48 (x5.comps.length) c49) 55 5 (x5.comps.length) ((x5.comps.flatMap compE)) :: M) (by rfl) (up_cons (up_cons rfl hs56) hs63) ?_
                refine l_val (v := .pointer (some ((ba p48).add (aq * 5)))) rfl rfl rfl (e_indexRow 0 (j := aq) (len := x5.comps.length) (cap := c49) (p := p48) rfl rfl tf14 (by omega) (by omega) rfl) ?_
                refine l_nil ?_
                exact f_owes_d (up_cons (up_cons rfl hs56) hs63) rfl (perm_front 0 rfl)
              · rintro f M ⟨k0, -⟩ -
                have hs72 : f 72 = .pointer (some ((ba p48).add (aq * 5))) := k0
                refine ob_start (L' := M) (by rfl) (up_cons rfl hs72) ?_
                refine l_val (v := .pointer (some ((ba p48).add (aq * 5 + 1)))) rfl rfl rfl (ev_eq (by rw [Addr.add_add']) (e_fieldAddr (a := (ba p48).add (aq * 5)) rfl tf19)) ?_
                refine l_nil ?_
                exact f_owes_d (up_cons rfl hs72) rfl (List.Perm.refl _)
              · rintro f M ⟨k0, k1, -⟩ -
                have hs73 : f 73 = .pointer (some ((ba p48).add (aq * 5 + 1))) := k0
                have hs66 : f 66 = Nx (ar) := k1
                refine ob_start (L' := M) (by rfl) (up_cons (up_cons rfl hs73) hs66) ?_
                refine l_val (v := .pointer (some ((ba p48).add (aq * 5 + 1 + ar * 1)))) rfl rfl rfl (ev_eq (by rw [Addr.add_add']) (e_indexArr (a := (ba p48).add (aq * 5 + 1)) (k := ar) rfl rfl tf21 (by omega))) ?_
                refine l_nil ?_
                exact f_owes_d (up_cons (up_cons rfl hs73) hs66) rfl (List.Perm.refl _)
              · rintro f M ⟨k0, k1, -⟩ -
                have hs74 : f 74 = .pointer (some ((ba p48).add (aq * 5 + 1 + ar * 1))) := k0
                have hs71 : f 71 = Ix (IntKind.i64.wrap ((cv cq ar) + (1 : Int))) := k1
                refine ob_start (L' := row (.slice p48 (x5.comps.length) c49) 55 5 (x5.comps.length) ((x5.comps.flatMap compE)) :: M) (by rfl) (up_cons (up_cons rfl hs74) hs71) ?_
                refine l_mu rfl rfl (m_storeRow 0 tf10 (o := aq * 5 + 1 + ar * 1) (v := Ix (IntKind.i64.wrap ((cv cq ar) + (1 : Int)))) rfl rfl rfl rfl rfl (by omega) (by omega)) ?_
                refine l_nil ?_
                exact f_owes_n (up_cons (up_cons rfl hs74) hs71) trivial (perm_front 0 rfl)
              rintro fa51 ⟨-, -, -, -, -, -, -, -, -, -, -, -, -, -, -, -, -, -, -, -, -, -⟩ ⟨j0, j1, j2, j3, j4, j5, j6, j7, j8, -⟩
              refine f_re (L' := [pt b50 (.cells #[Ix (((3 * k : Nat) : Int) - (20 : Int)), .slice p48 (x5.comps.length) c49] 33), pt b45 (.cells #[Ix (((3 * k : Nat) : Int) - (20 : Int))] 3), pt b14 (.cells #[Ix (((3 * k : Nat) : Int) - (20 : Int)), .slice v11a (x5.comps.length) (v11c)] 33), pt b13 (.cells #[Ix (((3 * k : Nat) : Int) - (20 : Int)), .slice v11a (x5.comps.length) (v11c)] 33), row v15 33 2 (k + 1) ((entCells ua ps) ++ [Ix (((3 * k : Nat) : Int) - (20 : Int)), .slice v11a (x5.comps.length) (v11c)]), row vb 33 2 (bs.length) ((entCells ub bs)), row v46 3 1 (ws.length + 1) ((ws.map fun z => Ix z) ++ [Ix (((3 * k : Nat) : Int) - (20 : Int))]), gb β₁ ub bs, pt b1 (.cells #[Ix (x.tick), .slice p2 (es.length) (c3)] 24), row (.slice p48 (x5.comps.length) c49) 55 5 (x5.comps.length) ((overL (x5.comps.flatMap compE) (aq * 5 + 1 + ar * 1) [Ix (IntKind.i64.wrap ((cv cq ar) + (1 : Int)))]))]) (by rfl) ?_
              refine f_rebase (d := 1) (v := .slice ya (what.length) (yc)) j0 ?_
              refine f_rebase (d := 2) (v := .pointer (some ⟨b1, 0, none⟩)) j1 ?_
              refine f_rebase (d := 5) (v := v15) j2 ?_
              refine f_rebase (d := 6) (v := vb) j3 ?_
              refine f_rebase (d := 7) (v := v46) j4 ?_
              refine f_rebase (d := 11) (v := .pointer (some ⟨b50, 0, none⟩)) j5 ?_
              refine f_rebase (d := 19) (v := .slice p2 (es.length) (c3)) j6 ?_
              refine f_rebase (d := 20) (v := Nx (es.length)) j7 ?_
              refine f_rebase (d := 21) (v := Nx (k)) j8 ?_
              refine f_then ?_
              refine c_perm (L' := [pt b50 (.cells #[Ix (((3 * k : Nat) : Int) - (20 : Int)), .slice p48 (x5.comps.length) c49] 33), pt b45 (.cells #[Ix (((3 * k : Nat) : Int) - (20 : Int))] 3), pt b14 (.cells #[Ix (((3 * k : Nat) : Int) - (20 : Int)), .slice v11a (x5.comps.length) (v11c)] 33), pt b13 (.cells #[Ix (((3 * k : Nat) : Int) - (20 : Int)), .slice v11a (x5.comps.length) (v11c)] 33), row v15 33 2 (k + 1) ((entCells ua ps) ++ [Ix (((3 * k : Nat) : Int) - (20 : Int)), .slice v11a (x5.comps.length) (v11c)]), row vb 33 2 (bs.length) ((entCells ub bs)), row v46 3 1 (ws.length + 1) ((ws.map fun z => Ix z) ++ [Ix (((3 * k : Nat) : Int) - (20 : Int))]), gb β₁ ub bs, pt b1 (.cells #[Ix (x.tick), .slice p2 (es.length) (c3)] 24), row (.slice p48 (x5.comps.length) c49) 55 5 (x5.comps.length) ((overL (x5.comps.flatMap compE) (aq * 5 + 1 + ar * 1) [Ix (IntKind.i64.wrap ((cv cq ar) + (1 : Int)))]))]) (List.Perm.refl _) ?_
              rw [show aq * 5 + 1 + ar * 1 = aq * 5 + (1 + ar) by omega, over_comp hcq (c' := (setV cq ar (IntKind.i64.wrap (cv cq ar + (1 : Int))))) (by omega) (setV_cells cq harl _)]
              have hnee := ent_comp_ne (e := (⟨((3 * k : Nat) : Int) - (20 : Int), x5.comps⟩ : KEnt)) hcq (U_changed (a := cv cq ar) (b := 1) (by omega) (by omega)) (cv_word cq harl) (setV_words cq harl _)
              refine c_region ?_
              refine l_val (v := vb) rfl rfl rfl (e_move) ?_
              refine l_val (v := .agg #[Ix (((3 * k : Nat) : Int) - (20 : Int)), .slice p48 (x5.comps.length) c49]) rfl rfl rfl (e_load tf24 (cs := [Ix (((3 * k : Nat) : Int) - (20 : Int)), .slice p48 (x5.comps.length) c49]) rfl (k_pt 0 (cs := #[Ix (((3 * k : Nat) : Int) - (20 : Int)), .slice p48 (x5.comps.length) c49]) (vs := [Ix (((3 * k : Nat) : Int) - (20 : Int)), .slice p48 (x5.comps.length) c49]) rfl rfl) rfl) ?_
              refine l_mv rfl rfl rfl (m_slices tf32 tf33 (vs := [(0, .agg #[Ix (((3 * k : Nat) : Int) - (20 : Int)), .slice p48 (x5.comps.length) c49])]) (cells := #[Ix (((3 * k : Nat) : Int) - (20 : Int)), .slice p48 (x5.comps.length) c49]) rfl rfl rfl rfl) ?_
              rintro _ _ ⟨b52, rfl, rfl⟩
              refine l_mv rfl rfl rfl (m_append 6 tf32 tf72 (v := vb) (m := bs.length) (vs := (entCells ub bs)) (ad := ⟨b52, 0, none⟩) (k := 1) (c := 1) (news := [Ix (((3 * k : Nat) : Int) - (20 : Int)), .slice p48 (x5.comps.length) c49]) rfl rfl rfl rfl (k_pt 0 (cs := #[Ix (((3 * k : Nat) : Int) - (20 : Int)), .slice p48 (x5.comps.length) c49]) (vs := [Ix (((3 * k : Nat) : Int) - (20 : Int)), .slice p48 (x5.comps.length) c49]) rfl rfl) rfl (by unfold maxLen; omega) (by omega)) ?_
              rintro v53 _ ⟨hnv53, rfl⟩
              refine l_val (v := v53) rfl rfl rfl (e_assign) ?_
              refine l_nil ?_
              refine f_block ?_
              refine f_block ?_
              refine f_then ?_
              refine c_region ?_
              refine l_val (v := Nx (k + 1)) rfl rfl rfl (e_add (a := ((k : Nat) : Int)) (b := (1 : Int)) rfl rfl (i64n (by omega) (by omega))) ?_
              refine l_val (v := Nx (k + 1)) rfl rfl rfl (e_move) ?_
              refine l_nil ?_
              refine f_perm (L' := [row (.slice p48 (x5.comps.length) c49) 55 5 (x5.comps.length) (((x5.comps.set aq (setV cq ar (IntKind.i64.wrap (cv cq ar + (1 : Int))))).flatMap compE)), gb β₁ ub bs, pt b52 (.cells #[Ix (((3 * k : Nat) : Int) - (20 : Int)), .slice p48 (x5.comps.length) c49] 33), pt b50 (.cells #[Ix (((3 * k : Nat) : Int) - (20 : Int)), .slice p48 (x5.comps.length) c49] 33), pt b45 (.cells #[Ix (((3 * k : Nat) : Int) - (20 : Int))] 3), pt b14 (.cells #[Ix (((3 * k : Nat) : Int) - (20 : Int)), .slice v11a (x5.comps.length) (v11c)] 33), pt b13 (.cells #[Ix (((3 * k : Nat) : Int) - (20 : Int)), .slice v11a (x5.comps.length) (v11c)] 33), row v15 33 2 (k + 1) ((entCells ua ps) ++ [Ix (((3 * k : Nat) : Int) - (20 : Int)), .slice v11a (x5.comps.length) (v11c)]), row v53 33 2 (bs.length + 1) ((entCells ub bs) ++ [Ix (((3 * k : Nat) : Int) - (20 : Int)), .slice p48 (x5.comps.length) c49]), row v46 3 1 (ws.length + 1) ((ws.map fun z => Ix z) ++ [Ix (((3 * k : Nat) : Int) - (20 : Int))]), pt b1 (.cells #[Ix (x.tick), .slice p2 (es.length) (c3)] 24)]) (((((((((((perm_front 9 rfl).trans (perm_front 8 rfl)).trans (perm_front 8 rfl)).trans (perm_front 8 rfl)).trans (perm_front 8 rfl)).trans (perm_front 8 rfl)).trans (perm_front 8 rfl)).trans (perm_front 8 rfl)).trans (perm_front 8 rfl)).trans (perm_front 9 rfl)).trans (perm_front 10 rfl)) ?_
              refine f_turn (fun w h => gb_own (e := (⟨((3 * k : Nat) : Int) - (20 : Int), x5.comps.set aq (setV cq ar (IntKind.i64.wrap (cv cq ar + (1 : Int))))⟩ : KEnt)) (by simp) h) ?_
              refine f_perm (L' := [row v15 33 2 (k + 1) ((entCells ua ps) ++ [Ix (((3 * k : Nat) : Int) - (20 : Int)), .slice v11a (x5.comps.length) (v11c)]), row v53 33 2 (bs.length + 1) ((entCells ub bs) ++ [Ix (((3 * k : Nat) : Int) - (20 : Int)), .slice p48 (x5.comps.length) c49]), row v46 3 1 (ws.length + 1) ((ws.map fun z => Ix z) ++ [Ix (((3 * k : Nat) : Int) - (20 : Int))]), gb β₁ (ub ++ [(.slice p48 (x5.comps.length) c49)]) (bs ++ [(⟨((3 * k : Nat) : Int) - (20 : Int), x5.comps.set aq (setV cq ar (IntKind.i64.wrap (cv cq ar + (1 : Int))))⟩ : KEnt)]), pt b1 (.cells #[Ix (x.tick), .slice p2 (es.length) (c3)] 24), pt b52 (.cells #[Ix (((3 * k : Nat) : Int) - (20 : Int)), .slice p48 (x5.comps.length) c49] 33), pt b50 (.cells #[Ix (((3 * k : Nat) : Int) - (20 : Int)), .slice p48 (x5.comps.length) c49] 33), pt b45 (.cells #[Ix (((3 * k : Nat) : Int) - (20 : Int))] 3), pt b14 (.cells #[Ix (((3 * k : Nat) : Int) - (20 : Int)), .slice v11a (x5.comps.length) (v11c)] 33), pt b13 (.cells #[Ix (((3 * k : Nat) : Int) - (20 : Int)), .slice v11a (x5.comps.length) (v11c)] 33)]) ((((((((((perm_front 5 rfl).trans (perm_front 5 rfl)).trans (perm_front 5 rfl)).trans (perm_front 5 rfl)).trans (perm_front 5 rfl)).trans (perm_front 9 rfl)).trans (perm_front 6 rfl)).trans (perm_front 9 rfl)).trans (perm_front 9 rfl)).trans (perm_front 9 rfl)) ?_
              refine f_mask (L' := [row v15 33 2 (k + 1) ((entCells ua ps) ++ [Ix (((3 * k : Nat) : Int) - (20 : Int)), .slice v11a (x5.comps.length) (v11c)]), row v53 33 2 (bs.length + 1) ((entCells ub bs) ++ [Ix (((3 * k : Nat) : Int) - (20 : Int)), .slice p48 (x5.comps.length) c49]), row v46 3 1 (ws.length + 1) ((ws.map fun z => Ix z) ++ [Ix (((3 * k : Nat) : Int) - (20 : Int))]), gb β₁ (ub ++ [(.slice p48 (x5.comps.length) c49)]) (bs ++ [(⟨((3 * k : Nat) : Int) - (20 : Int), x5.comps.set aq (setV cq ar (IntKind.i64.wrap (cv cq ar + (1 : Int))))⟩ : KEnt)]), pt b1 (.cells #[Ix (x.tick), .slice p2 (es.length) (c3)] 24)]) [true, true, true, true, true, false, false, false, false, false] rfl ?_
              exact f_cut ⟨(k + 1, v15, (ua ++ [(.slice v11a (x5.comps.length) (v11c))]), (ps ++ [(⟨((3 * k : Nat) : Int) - (20 : Int), x5.comps⟩ : KEnt)]), v53, (ub ++ [(.slice p48 (x5.comps.length) c49)]), (bs ++ [(⟨((3 * k : Nat) : Int) - (20 : Int), x5.comps.set aq (setV cq ar (IntKind.i64.wrap (cv cq ar + (1 : Int))))⟩ : KEnt)]), v46, (ws ++ [((3 * k : Nat) : Int) - (20 : Int)])), ⟨⟨rfl, rfl, rfl, rfl, rfl, rfl, rfl, rfl⟩, (by simp [ent_cells_append hga.1, ent_cells_append hub, entCells]), ⟨by omega, hga.append (EGood.one (e := (⟨((3 * k : Nat) : Int) - (20 : Int), x5.comps⟩ : KEnt)) (⟨⟨_, _, rfl, v11l, v11m, v11e⟩⟩ : Sl CompR _ _ x5.comps)), by simp [hub], hap.turn (e := (⟨((3 * k : Nat) : Int) - (20 : Int), x5.comps⟩ : KEnt)) (e' := (⟨((3 * k : Nat) : Int) - (20 : Int), x5.comps.set aq (setV cq ar (IntKind.i64.wrap (cv cq ar + (1 : Int))))⟩ : KEnt)) (show ((3 * k : Nat) : Int) - (20 : Int) = 3 * (k : Int) - 20 by omega) rfl hnee⟩⟩, (show es.length - (k + 1) < es.length - k from by omega)⟩
            ·
              refine c_skip ?_
              refine f_block ?_
              refine f_block ?_
              refine f_then ?_
              refine c_region ?_
              refine l_val (v := Nx (k + 1)) rfl rfl rfl (e_add (a := ((k : Nat) : Int)) (b := (1 : Int)) rfl rfl (i64n (by omega) (by omega))) ?_
              refine l_val (v := Nx (k + 1)) rfl rfl rfl (e_move) ?_
              refine l_nil ?_
              refine f_mask (L' := [row v15 33 2 (k + 1) ((entCells ua ps) ++ [Ix (((3 * k : Nat) : Int) - (20 : Int)), .slice v11a (x5.comps.length) (v11c)]), row vb 33 2 (bs.length) ((entCells ub bs)), row v46 3 1 (ws.length + 1) ((ws.map fun z => Ix z) ++ [Ix (((3 * k : Nat) : Int) - (20 : Int))]), gb β₁ ub bs, pt b1 (.cells #[Ix (x.tick), .slice p2 (es.length) (c3)] 24)]) [false, false, false, true, true, true, true, true] rfl ?_
              exact f_cut ⟨(k + 1, v15, (ua ++ [(.slice v11a (x5.comps.length) (v11c))]), (ps ++ [(⟨((3 * k : Nat) : Int) - (20 : Int), x5.comps⟩ : KEnt)]), vb, ub, bs, v46, (ws ++ [((3 * k : Nat) : Int) - (20 : Int)])), ⟨⟨rfl, rfl, rfl, rfl, rfl, rfl, rfl, rfl⟩, (by simp [ent_cells_append hga.1, entCells]), ⟨by omega, hga.append (EGood.one (e := (⟨((3 * k : Nat) : Int) - (20 : Int), x5.comps⟩ : KEnt)) (⟨⟨_, _, rfl, v11l, v11m, v11e⟩⟩ : Sl CompR _ _ x5.comps)), by simp [hub], hap.lose (e := (⟨((3 * k : Nat) : Int) - (20 : Int), x5.comps⟩ : KEnt)) (show ((3 * k : Nat) : Int) - (20 : Int) = 3 * (k : Int) - 20 by omega)⟩⟩, (show es.length - (k + 1) < es.length - k from by omega)⟩
    ·
      refine c_skip ?_
      refine f_then ?_
      refine c_seq ?_
      refine c_region ?_
      refine l_val (v := .int .u8 (0)) rfl rfl rfl (e_move) ?_
      refine l_val (v := .int .u8 (0)) rfl rfl rfl (e_rem (a := (0 : Int)) (b := (4 : Int)) rfl rfl (by decide) (by decide)) ?_
      refine l_nil ?_
      refine f_then ?_
      refine c_block ?_
      refine c_seq ?_
      refine c_seq ?_
      refine c_region ?_
      refine l_val (v := .bool true) rfl rfl rfl (e_eql (a := ((0 : UInt8).toNat : Int)) (b := ((0 : UInt8).toNat : Int)) rfl rfl) ?_
      refine l_val (v := .bool true) rfl rfl rfl (e_assign) ?_
      refine l_nil ?_
      refine f_then ?_
      refine c_yes rfl ?_
      refine c_skip ?_
      refine f_then ?_
      refine c_yes rfl ?_
      refine c_region ?_
      refine l_val (v := vb) rfl rfl rfl (e_move) ?_
      refine l_val (v := .agg #[Ix (((3 * k : Nat) : Int) - (20 : Int)), .slice v11a (x5.comps.length) (v11c)]) rfl rfl rfl (e_load tf24 (cs := [Ix (((3 * k : Nat) : Int) - (20 : Int)), .slice v11a (x5.comps.length) (v11c)]) rfl (k_pt 1 (cs := #[Ix (((3 * k : Nat) : Int) - (20 : Int)), .slice v11a (x5.comps.length) (v11c)]) (vs := [Ix (((3 * k : Nat) : Int) - (20 : Int)), .slice v11a (x5.comps.length) (v11c)]) rfl rfl) rfl) ?_
      refine l_mv rfl rfl rfl (m_slices tf32 tf33 (vs := [(0, .agg #[Ix (((3 * k : Nat) : Int) - (20 : Int)), .slice v11a (x5.comps.length) (v11c)])]) (cells := #[Ix (((3 * k : Nat) : Int) - (20 : Int)), .slice v11a (x5.comps.length) (v11c)]) rfl rfl rfl rfl) ?_
      rintro _ _ ⟨b54, rfl, rfl⟩
      refine l_mv rfl rfl rfl (m_append 4 tf32 tf72 (v := vb) (m := bs.length) (vs := (entCells ub bs)) (ad := ⟨b54, 0, none⟩) (k := 1) (c := 1) (news := [Ix (((3 * k : Nat) : Int) - (20 : Int)), .slice v11a (x5.comps.length) (v11c)]) rfl rfl rfl rfl (k_pt 0 (cs := #[Ix (((3 * k : Nat) : Int) - (20 : Int)), .slice v11a (x5.comps.length) (v11c)]) (vs := [Ix (((3 * k : Nat) : Int) - (20 : Int)), .slice v11a (x5.comps.length) (v11c)]) rfl rfl) rfl (by unfold maxLen; omega) (by omega)) ?_
      rintro v55 _ ⟨hnv55, rfl⟩
      refine l_val (v := v55) rfl rfl rfl (e_assign) ?_
      refine l_nil ?_
      refine f_block ?_
      refine f_block ?_
      refine f_then ?_
      refine c_region ?_
      refine l_val (v := Nx (k + 1)) rfl rfl rfl (e_add (a := ((k : Nat) : Int)) (b := (1 : Int)) rfl rfl (i64n (by omega) (by omega))) ?_
      refine l_val (v := Nx (k + 1)) rfl rfl rfl (e_move) ?_
      refine l_nil ?_
      refine f_turn (fun w h => h.conseq_at 6 rfl (fun a h => gb_base (u := (.slice v11a (x5.comps.length) (v11c))) (e := (⟨((3 * k : Nat) : Int) - (20 : Int), x5.comps⟩ : KEnt)) (⟨⟨_, _, rfl, v11l, v11m, v11e⟩⟩ : Sl CompR _ _ x5.comps) h)) ?_
      refine f_mask (L' := [row v15 33 2 (k + 1) ((entCells ua ps) ++ [Ix (((3 * k : Nat) : Int) - (20 : Int)), .slice v11a (x5.comps.length) (v11c)]), row v55 33 2 (bs.length + 1) ((entCells ub bs) ++ [Ix (((3 * k : Nat) : Int) - (20 : Int)), .slice v11a (x5.comps.length) (v11c)]), row vw 3 1 (ws.length) ((ws.map fun z => Ix z)), gb β₁ (ub ++ [(.slice v11a (x5.comps.length) (v11c))]) (bs ++ [(⟨((3 * k : Nat) : Int) - (20 : Int), x5.comps⟩ : KEnt)]), pt b1 (.cells #[Ix (x.tick), .slice p2 (es.length) (c3)] 24)]) [false, false, false, true, true, true, true, true] rfl ?_
      exact f_cut ⟨(k + 1, v15, (ua ++ [(.slice v11a (x5.comps.length) (v11c))]), (ps ++ [(⟨((3 * k : Nat) : Int) - (20 : Int), x5.comps⟩ : KEnt)]), v55, (ub ++ [(.slice v11a (x5.comps.length) (v11c))]), (bs ++ [(⟨((3 * k : Nat) : Int) - (20 : Int), x5.comps⟩ : KEnt)]), vw, ws), ⟨⟨rfl, rfl, rfl, rfl, rfl, rfl, rfl, rfl⟩, (by simp [ent_cells_append hga.1, ent_cells_append hub, entCells]), ⟨by omega, hga.append (EGood.one (e := (⟨((3 * k : Nat) : Int) - (20 : Int), x5.comps⟩ : KEnt)) (⟨⟨_, _, rfl, v11l, v11m, v11e⟩⟩ : Sl CompR _ _ x5.comps)), by simp [hub], hap.keep (e := (⟨((3 * k : Nat) : Int) - (20 : Int), x5.comps⟩ : KEnt)) (show ((3 * k : Nat) : Int) - (20 : Int) = 3 * (k : Int) - 20 by omega)⟩⟩, (show es.length - (k + 1) < es.length - k from by omega)⟩
  ·
    refine c_exit ?_
    refine f_then_exit ?_
    refine f_then_exit ?_
    refine f_exit ?_
    refine f_then ?_
    refine c_seq ?_
    refine c_region ?_
    refine l_val (v := .agg #[.int .u8 (3), .int .i64 (0), .int .i64 (0), .int .i64 (0), .int .i64 (0)]) rfl rfl rfl (e_build tf16 tf36 (vs := [(0, .int .u8 (3))]) (cells := #[.int .u8 (3), .int .i64 (0), .int .i64 (0), .int .i64 (0), .int .i64 (0)]) rfl rfl) ?_
    refine l_mv rfl rfl rfl (m_slices tf14 tf16 (vs := [(0, .agg #[.int .u8 (3), .int .i64 (0), .int .i64 (0), .int .i64 (0), .int .i64 (0)])]) (cells := #[.int .u8 (3), .int .i64 (0), .int .i64 (0), .int .i64 (0), .int .i64 (0)]) rfl rfl rfl rfl) ?_
    rintro _ _ ⟨b56, rfl, rfl⟩
    refine l_val (v := .agg #[.int .i64 (-500), .slice (some ⟨b56, 0, none⟩) 1 1]) rfl rfl rfl (e_build tf33 tf37 (vs := [(0, .int .i64 (-500)), (1, .slice (some ⟨b56, 0, none⟩) 1 1)]) (cells := #[.int .i64 (-500), .slice (some ⟨b56, 0, none⟩) 1 1]) rfl rfl) ?_
    refine l_mv rfl rfl rfl (m_alloc tf33) ?_
    rintro _ _ ⟨b57, rfl, rfl⟩
    refine l_mu rfl rfl (m_store 0 tf24 (b := b57) (o := 0) (T := 33) (cs := #[.int .i64 (0), .slice none 0 0]) (cs' := #[.int .i64 (-500), .slice (some ⟨b56, 0, none⟩) 1 1]) (v := .agg #[.int .i64 (-500), .slice (some ⟨b56, 0, none⟩) 1 1]) rfl rfl rfl rfl rfl rfl rfl) ?_
    refine l_nil ?_
    refine f_then ?_
    refine c_seq ?_
    refine c_perm (L' := [pt b57 (.cells #[.int .i64 (-500), .slice (some ⟨b56, 0, none⟩) 1 1] 33), pt b56 (.cells #[.int .u8 (3), .int .i64 (0), .int .i64 (0), .int .i64 (0), .int .i64 (0)] 55), pt b1 (.cells #[Ix (x.tick), .slice p2 (es.length) (c3)] 24), row va 33 2 (k) ((entCells ua ps)), row vb 33 2 (bs.length) ((entCells ub bs)), row vw 3 1 (ws.length) ((ws.map fun z => Ix z)), gb β₁ ub bs]) (((((((perm_front 5 rfl).trans (perm_front 5 rfl)).trans (perm_front 5 rfl)).trans (perm_front 5 rfl)).trans (perm_front 6 rfl)).trans (perm_front 6 rfl)).trans (perm_front 6 rfl)) ?_
    refine c_freeze (M := [pt b57 (.cells #[.int .i64 (-500), .slice (some ⟨b56, 0, none⟩) 1 1] 33), pt b56 (.cells #[.int .u8 (3), .int .i64 (0), .int .i64 (0), .int .i64 (0), .int .i64 (0)] 55), pt b1 (.cells #[Ix (x.tick), .slice p2 (es.length) (c3)] 24)]) (K := [row va 33 2 (k) ((entCells ua ps)), row vb 33 2 (bs.length) ((entCells ub bs)), row vw 3 1 (ws.length) ((ws.map fun z => Ix z)), gb β₁ ub bs]) rfl (fun β₂ ext₂ kn₂ => ?_)
    have hA := kn₂ _ (k_row_ents 0 rfl hga hap.la.symm)
    have hgb := kn₂ _ (k_gb 3 rfl)
    obtain ⟨rb, hrb, hrbr⟩ := kn₂ (fun h => ∃ a, Sub a h ∧ (row vb 33 2 (bs.length) ((entCells ub bs))) a) (fun h hs hr => hr _ (List.mem_cons_of_mem _ List.mem_cons_self))
    have hB := row_ents hrb hrbr hgb rfl
    have hW := kn₂ (fun h => Sl IntR h vw ws) (Knows.of_res 2 rfl (fun _ _ hs h => Sl.mono IntR _ _ _ _ hs h) fun _ h => row_slI h)
    clear hrbr hrb
    obtain ⟨vaa, vac, rfl, val, vam, vae⟩ := hA.get
    obtain ⟨vba, vbc, rfl, vbl, vbm, vbe⟩ := hB.get
    obtain ⟨vwa, vwc, rfl, vwl, vwm, vwe⟩ := hW.get
    have hapb := hap.lb
    have hapw := hap.lw
    have hapa := hap.la
    obtain ⟨us60, hg61, hcs62⟩ := elems_ents vbe
    refine c_any [⟨[], [], [0], [97], fun f => f 97 = .pointer (some ⟨b1, 0, none⟩)⟩, ⟨[0], [0], [], [98], fun f => f 98 = Ix (x.tick)⟩, ⟨[], [], [1], [99], fun f => f 99 = .slice vaa (ps.length) (vac)⟩, ⟨[0, 1, 2], [1, 2], [], [100], fun f => f 100 = .agg #[Ix (x.tick), .slice vaa (ps.length) (vac)]⟩, ⟨[], [], [0], [101], fun f => f 101 = .pointer (some ⟨b1, 0, none⟩)⟩, ⟨[4], [4], [], [102], fun f => f 102 = Ix (x.tick)⟩, ⟨[4, 5], [5], [], [103], fun f => f 103 = Ix (IntKind.i64.wrap ((x.tick) + (1 : Int)))⟩, ⟨[], [], [2], [104], fun f => f 104 = .agg #[.int .i64 (-500), .slice (some ⟨b56, 0, none⟩) 1 1]⟩, ⟨[7], [7], [], [105], fun f => f 105 = .slice (some ⟨(blk (f 105)), 0, none⟩) 1 1⟩, ⟨[], [], [3], [106], fun f => f 106 = .slice vba (bs.length) (vbc)⟩, ⟨[7, 8, 9], [8, 9], [], [107], fun f => f 107 = .slice (sla (f 107)) (1 + bs.length) (slc (f 107))⟩, ⟨[4, 5, 6, 7, 8, 9, 10], [6, 10], [], [107, 108], fun f => f 108 = .agg #[Ix (IntKind.i64.wrap ((x.tick) + (1 : Int))), .slice (sla (f 107)) (1 + bs.length) (slc (f 107))]⟩, ⟨[], [], [], [13], fun f => f 13 = .pointer (some ⟨(blk (f 13)), 0, none⟩)⟩, ⟨[], [], [], [14], fun f => f 14 = .pointer (some ⟨(blk (f 14)), 0, none⟩)⟩, ⟨[0, 1, 2, 3, 7, 8, 9, 10, 12, 13], [12, 3], [], [], fun _ => True⟩, ⟨[0, 1, 2, 3, 4, 5, 6, 7, 8, 9, 10, 11, 12, 13, 14], [13, 11], [], [], fun _ => True⟩] [⟨none, none, [7], [], fun _ => pt b57 (.cells #[.int .i64 (-500), .slice (some ⟨b56, 0, none⟩) 1 1] 33)⟩, ⟨none, none, [], [], fun _ => pt b56 (.cells #[.int .u8 (3), .int .i64 (0), .int .i64 (0), .int .i64 (0), .int .i64 (0)] 55)⟩, ⟨none, none, [1, 5], [], fun _ => pt b1 (.cells #[Ix (x.tick), .slice p2 (es.length) (c3)] 24)⟩, ⟨(some 8), (some 10), [10], [105], fun f => pt (blk (f 105)) (.cells #[.int .i64 (-500), .slice (some ⟨b56, 0, none⟩) 1 1] 33)⟩, ⟨(some 10), none, [], [107], fun f => row (.slice (sla (f 107)) (1 + bs.length) (slc (f 107))) 33 2 (1 + bs.length) ([.int .i64 (-500), .slice (some ⟨b56, 0, none⟩) 1 1] ++ (entCells us60 bs))⟩, ⟨(some 12), (some 14), [14], [13], fun f => pt (blk (f 13)) (.cells #[.int .i64 (0), .slice none 0 0] 24)⟩, ⟨(some 13), (some 15), [15], [14], fun f => pt (blk (f 14)) (.cells #[.int .i64 (0), .slice none 0 0] 24)⟩, ⟨(some 14), none, [], [13], fun f => pt (blk (f 13)) (.cells #[Ix (x.tick), .slice vaa (ps.length) (vac)] 24)⟩, ⟨(some 15), none, [], [14, 107], fun f => pt (blk (f 14)) (.cells #[Ix (IntKind.i64.wrap ((x.tick) + (1 : Int))), .slice (sla (f 107)) (1 + bs.length) (slc (f 107))] 24)⟩] [(2, .pointer (some ⟨b1, 0, none⟩)), (5, .slice vaa (ps.length) (vac)), (12, .pointer (some ⟨b57, 0, none⟩)), (6, .slice vba (bs.length) (vbc)), (7, .slice vwa (ws.length) (vwc))] [4] [] (by kernel_rfl) (by kernel_rfl) (by kernel_rfl) (by kernel_rfl) rfl ⟨rfl, rfl, rfl, rfl, rfl, trivial⟩ ⟨?_, ?_, ?_, ?_, ?_, ?_, ?_, ?_, ?_, ?_, ?_, ?_, ?_, ?_, ?_, ?_, trivial⟩ ?_
    · rintro f M - ⟨i0, -⟩
      have hs2 : f 2 = .pointer (some ⟨b1, 0, none⟩) := i0
      refine ob_start (L' := M) (by rfl) (up_cons rfl hs2) ?_
      refine l_val (v := .pointer (some ⟨b1, 0, none⟩)) rfl rfl rfl (e_fieldPt (b := b1) (o := 0) rfl tf27) ?_
      refine l_nil ?_
      exact f_owes_d (up_cons rfl hs2) rfl (List.Perm.refl _)
    · rintro f M ⟨k0, -⟩ -
      have hs97 : f 97 = .pointer (some ⟨b1, 0, none⟩) := k0
      refine ob_start (L' := pt b1 (.cells #[Ix (x.tick), .slice p2 (es.length) (c3)] 24) :: M) (by rfl) (up_cons rfl hs97) ?_
      refine l_val (v := Ix (x.tick)) rfl rfl rfl (e_load1 tf10 (v := Ix (x.tick)) rfl (k_pt 0 (cs := #[Ix (x.tick), .slice p2 (es.length) (c3)]) (vs := [Ix (x.tick)]) rfl rfl)) ?_
      refine l_nil ?_
      exact f_owes_d (up_cons rfl hs97) rfl (perm_front 0 rfl)
    · rintro f M - ⟨i0, -⟩
      have hs5 : f 5 = .slice vaa (ps.length) (vac) := i0
      refine ob_start (L' := M) (by rfl) (up_cons rfl hs5) ?_
      refine l_val (v := .slice vaa (ps.length) (vac)) rfl rfl rfl (e_move) ?_
      refine l_nil ?_
      exact f_owes_d (up_cons rfl hs5) rfl (List.Perm.refl _)
    · rintro f M ⟨k0, k1, -⟩ -
      have hs98 : f 98 = Ix (x.tick) := k0
      have hs99 : f 99 = .slice vaa (ps.length) (vac) := k1
      refine ob_start (L' := M) (by rfl) (up_cons (up_cons rfl hs98) hs99) ?_
      refine l_val (v := .agg #[Ix (x.tick), .slice vaa (ps.length) (vac)]) rfl rfl rfl (e_build tf49 tf58 (vs := [(0, Ix (x.tick)), (1, .slice vaa (ps.length) (vac))]) (cells := #[Ix (x.tick), .slice vaa (ps.length) (vac)]) rfl rfl) ?_
      refine l_nil ?_
      exact f_owes_d (up_cons (up_cons rfl hs98) hs99) rfl (List.Perm.refl _)
    · rintro f M - ⟨i0, -⟩
      have hs2 : f 2 = .pointer (some ⟨b1, 0, none⟩) := i0
      refine ob_start (L' := M) (by rfl) (up_cons rfl hs2) ?_
      refine l_val (v := .pointer (some ⟨b1, 0, none⟩)) rfl rfl rfl (e_fieldPt (b := b1) (o := 0) rfl tf27) ?_
      refine l_nil ?_
      exact f_owes_d (up_cons rfl hs2) rfl (List.Perm.refl _)
    · rintro f M ⟨k0, -⟩ -
      have hs101 : f 101 = .pointer (some ⟨b1, 0, none⟩) := k0
      refine ob_start (L' := pt b1 (.cells #[Ix (x.tick), .slice p2 (es.length) (c3)] 24) :: M) (by rfl) (up_cons rfl hs101) ?_
      refine l_val (v := Ix (x.tick)) rfl rfl rfl (e_load1 tf10 (v := Ix (x.tick)) rfl (k_pt 0 (cs := #[Ix (x.tick), .slice p2 (es.length) (c3)]) (vs := [Ix (x.tick)]) rfl rfl)) ?_
      refine l_nil ?_
      exact f_owes_d (up_cons rfl hs101) rfl (perm_front 0 rfl)
    · rintro f M ⟨k0, -⟩ -
      have hs102 : f 102 = Ix (x.tick) := k0
      refine ob_start (L' := M) (by rfl) (up_cons rfl hs102) ?_
      refine l_val (v := Ix (IntKind.i64.wrap ((x.tick) + (1 : Int)))) rfl rfl rfl (e_add (a := (x.tick)) (b := (1 : Int)) rfl rfl rfl) ?_
      refine l_nil ?_
      exact f_owes_d (up_cons rfl hs102) rfl (List.Perm.refl _)
    · rintro f M - ⟨i0, -⟩
      have hs12 : f 12 = .pointer (some ⟨b57, 0, none⟩) := i0
      refine ob_start (L' := pt b57 (.cells #[.int .i64 (-500), .slice (some ⟨b56, 0, none⟩) 1 1] 33) :: M) (by rfl) (up_cons rfl hs12) ?_
      refine l_val (v := .agg #[.int .i64 (-500), .slice (some ⟨b56, 0, none⟩) 1 1]) rfl rfl rfl (e_load tf24 (cs := [.int .i64 (-500), .slice (some ⟨b56, 0, none⟩) 1 1]) rfl (k_pt 0 (cs := #[.int .i64 (-500), .slice (some ⟨b56, 0, none⟩) 1 1]) (vs := [.int .i64 (-500), .slice (some ⟨b56, 0, none⟩) 1 1]) rfl rfl) rfl) ?_
      refine l_nil ?_
      exact f_owes_d (up_cons rfl hs12) rfl (perm_front 0 rfl)
    · rintro f M ⟨k0, -⟩ -
      have hs104 : f 104 = .agg #[.int .i64 (-500), .slice (some ⟨b56, 0, none⟩) 1 1] := k0
      refine ob_start (L' := M) (by rfl) (up_cons rfl hs104) ?_
      refine l_mv rfl rfl rfl (m_slices tf32 tf33 (vs := [(0, .agg #[.int .i64 (-500), .slice (some ⟨b56, 0, none⟩) 1 1])]) (cells := #[.int .i64 (-500), .slice (some ⟨b56, 0, none⟩) 1 1]) rfl rfl rfl rfl) ?_
      rintro _ _ ⟨b59, rfl, rfl⟩
      refine l_nil ?_
      exact f_owes_d (up_cons rfl hs104) rfl (perm_front 0 rfl)
    · rintro f M - ⟨i0, -⟩
      have hs6 : f 6 = .slice vba (bs.length) (vbc) := i0
      refine ob_start (L' := M) (by rfl) (up_cons rfl hs6) ?_
      refine l_val (v := .slice vba (bs.length) (vbc)) rfl rfl rfl (e_move) ?_
      refine l_nil ?_
      exact f_owes_d (up_cons rfl hs6) rfl (List.Perm.refl _)
    · rintro f M ⟨k0, k1, -⟩ -
      have hs105 : f 105 = .slice (some ⟨(blk (f 105)), 0, none⟩) 1 1 := k0
      have hs106 : f 106 = .slice vba (bs.length) (vbc) := k1
      refine ob_start (L' := pt (blk (f 105)) (.cells #[.int .i64 (-500), .slice (some ⟨b56, 0, none⟩) 1 1] 33) :: M) (by rfl) (up_cons (up_cons rfl hs105) hs106) ?_
      refine l_conseq 0 (r' := row (.slice (some ⟨(blk (f 105)), 0, none⟩) 1 1) 33 2 1 [.int .i64 (-500), .slice (some ⟨b56, 0, none⟩) 1 1]) rfl (fun a h => pt_row (m := 1) (by decide) rfl a h) ?_
      refine l_mv rfl rfl rfl (m_append_w 0 tf32 tf72 (v := .slice (some ⟨(blk (f 105)), 0, none⟩) 1 1) (m := 1) (vs := [.int .i64 (-500), .slice (some ⟨b56, 0, none⟩) 1 1]) (ao := vba) (k := bs.length) (c := vbc) (news := (entCells us60 bs)) rfl rfl rfl (ent_length hg61.1) (Knows.of_base (Cs.mono _ _) hcs62) (ent_one hg61) (elems_ba vbe) (by unfold maxLen; omega) (by omega)) ?_
      rintro _ _ ⟨rp65, rc66, rfl, rfl⟩
      refine l_nil ?_
      exact f_owes_d (up_cons (up_cons rfl hs105) hs106) rfl (perm_front 0 rfl)
    · rintro f M ⟨k0, k1, -⟩ -
      have hs103 : f 103 = Ix (IntKind.i64.wrap ((x.tick) + (1 : Int))) := k0
      have hs107 : f 107 = .slice (sla (f 107)) (1 + bs.length) (slc (f 107)) := k1
      refine ob_start (L' := M) (by rfl) (up_cons (up_cons rfl hs103) hs107) ?_
      refine l_val (v := .agg #[Ix (IntKind.i64.wrap ((x.tick) + (1 : Int))), .slice (sla (f 107)) (1 + bs.length) (slc (f 107))]) rfl rfl rfl (e_build tf49 tf58 (vs := [(0, Ix (IntKind.i64.wrap ((x.tick) + (1 : Int)))), (1, .slice (sla (f 107)) (1 + bs.length) (slc (f 107)))]) (cells := #[Ix (IntKind.i64.wrap ((x.tick) + (1 : Int))), .slice (sla (f 107)) (1 + bs.length) (slc (f 107))]) rfl rfl) ?_
      refine l_nil ?_
      exact f_owes_d (up_cons (up_cons rfl hs103) hs107) rfl (List.Perm.refl _)
    · rintro f M - -
      refine ob_start (L' := M) (by rfl) rfl ?_
      refine l_mv rfl rfl rfl (m_alloc tf49) ?_
      rintro _ _ ⟨b68, rfl, rfl⟩
      refine l_nil ?_
      exact f_owes_d rfl rfl (perm_front 0 rfl)
    · rintro f M - -
      refine ob_start (L' := M) (by rfl) rfl ?_
      refine l_mv rfl rfl rfl (m_alloc tf49) ?_
      rintro _ _ ⟨b70, rfl, rfl⟩
      refine l_nil ?_
      exact f_owes_d rfl rfl (perm_front 0 rfl)
    · rintro f M ⟨k0, k1, -⟩ -
      have hs13 : f 13 = .pointer (some ⟨(blk (f 13)), 0, none⟩) := k0
      have hs100 : f 100 = .agg #[Ix (x.tick), .slice vaa (ps.length) (vac)] := k1
      refine ob_start (L' := pt (blk (f 13)) (.cells #[.int .i64 (0), .slice none 0 0] 24) :: M) (by rfl) (up_cons (up_cons rfl hs13) hs100) ?_
      refine l_mu rfl rfl (m_store 0 tf46 (b := (blk (f 13))) (o := 0) (T := 24) (cs := #[.int .i64 (0), .slice none 0 0]) (cs' := #[Ix (x.tick), .slice vaa (ps.length) (vac)]) (v := .agg #[Ix (x.tick), .slice vaa (ps.length) (vac)]) rfl rfl rfl rfl rfl rfl rfl) ?_
      refine l_nil ?_
      exact f_owes_n (up_cons (up_cons rfl hs13) hs100) trivial (perm_front 0 rfl)
    · rintro f M ⟨k0, k1, -⟩ -
      have hs14 : f 14 = .pointer (some ⟨(blk (f 14)), 0, none⟩) := k0
      have hs108 : f 108 = .agg #[Ix (IntKind.i64.wrap ((x.tick) + (1 : Int))), .slice (sla (f 107)) (1 + bs.length) (slc (f 107))] := k1
      refine ob_start (L' := pt (blk (f 14)) (.cells #[.int .i64 (0), .slice none 0 0] 24) :: M) (by rfl) (up_cons (up_cons rfl hs14) hs108) ?_
      refine l_mu rfl rfl (m_store 0 tf46 (b := (blk (f 14))) (o := 0) (T := 24) (cs := #[.int .i64 (0), .slice none 0 0]) (cs' := #[Ix (IntKind.i64.wrap ((x.tick) + (1 : Int))), .slice (sla (f 107)) (1 + bs.length) (slc (f 107))]) (v := .agg #[Ix (IntKind.i64.wrap ((x.tick) + (1 : Int))), .slice (sla (f 107)) (1 + bs.length) (slc (f 107))]) rfl rfl rfl rfl rfl rfl rfl) ?_
      refine l_nil ?_
      exact f_owes_n (up_cons (up_cons rfl hs14) hs108) trivial (perm_front 0 rfl)
    rintro fa71 ⟨-, -, -, -, -, -, -, -, -, -, -, -, k12, k13, -, -, -⟩ ⟨j0, -⟩
    refine f_re (L' := [pt b57 (.cells #[.int .i64 (-500), .slice (some ⟨b56, 0, none⟩) 1 1] 33), pt b56 (.cells #[.int .u8 (3), .int .i64 (0), .int .i64 (0), .int .i64 (0), .int .i64 (0)] 55), pt b1 (.cells #[Ix (x.tick), .slice p2 (es.length) (c3)] 24), row (.slice (sla (fa71 107)) (1 + bs.length) (slc (fa71 107))) 33 2 (1 + bs.length) ([.int .i64 (-500), .slice (some ⟨b56, 0, none⟩) 1 1] ++ (entCells us60 bs)), pt (blk (fa71 13)) (.cells #[Ix (x.tick), .slice vaa (ps.length) (vac)] 24), pt (blk (fa71 14)) (.cells #[Ix (IntKind.i64.wrap ((x.tick) + (1 : Int))), .slice (sla (fa71 107)) (1 + bs.length) (slc (fa71 107))] 24)]) (by rfl) ?_
    refine f_rebase (d := 7) (v := .slice vwa (ws.length) (vwc)) j0 ?_
    refine f_rebase (d := 13) (v := .pointer (some ⟨(blk (fa71 13)), 0, none⟩)) k12 ?_
    refine f_rebase (d := 14) (v := .pointer (some ⟨(blk (fa71 14)), 0, none⟩)) k13 ?_
    refine f_then ?_
    refine c_seq ?_
    refine c_region ?_
    refine l_mv rfl rfl rfl (m_slices tf39 tf52 (vs := [(0, .int .i64 (-500))]) (cells := #[.int .i64 (-500)]) rfl rfl rfl rfl) ?_
    rintro _ _ ⟨b72, rfl, rfl⟩
    refine l_val (v := .slice vwa (ws.length) (vwc)) rfl rfl rfl (e_move) ?_
    refine l_conseq 0 (r' := row (.slice (some ⟨b72, 0, none⟩) 1 1) 3 1 1 [.int .i64 (-500)]) rfl (fun a h => pt_row (m := 1) (by decide) rfl a h) ?_
    refine l_mv rfl rfl rfl (m_append_w 0 tf39 tf53 (v := .slice (some ⟨b72, 0, none⟩) 1 1) (m := 1) (vs := [.int .i64 (-500)]) (ao := vwa) (k := ws.length) (c := vwc) (news := (ws.map fun z => Ix z)) rfl rfl rfl (by simp) (Knows.of_base (Cs.mono _ _) (elems_ints vwe)) (ints_one _) (elems_ba vwe) (by unfold maxLen; omega) (by omega)) ?_
    rintro _ _ ⟨rp73, rc74, rfl, rfl⟩
    refine l_val (v := .slice rp73 (1 + ws.length) rc74) rfl rfl rfl (e_assign) ?_
    refine l_nil ?_
    refine f_then ?_
    refine c_seq ?_
    refine c_perm (L' := [pt b57 (.cells #[.int .i64 (-500), .slice (some ⟨b56, 0, none⟩) 1 1] 33), pt b1 (.cells #[Ix (x.tick), .slice p2 (es.length) (c3)] 24), pt (blk (fa71 13)) (.cells #[Ix (x.tick), .slice vaa (ps.length) (vac)] 24), pt (blk (fa71 14)) (.cells #[Ix (IntKind.i64.wrap ((x.tick) + (1 : Int))), .slice (sla (fa71 107)) (1 + bs.length) (slc (fa71 107))] 24), row (.slice (sla (fa71 107)) (1 + bs.length) (slc (fa71 107))) 33 2 (1 + bs.length) ([.int .i64 (-500), .slice (some ⟨b56, 0, none⟩) 1 1] ++ (entCells us60 bs)), row (.slice rp73 (1 + ws.length) rc74) 3 1 (1 + ws.length) ([.int .i64 (-500)] ++ (ws.map fun z => Ix z)), pt b56 (.cells #[.int .u8 (3), .int .i64 (0), .int .i64 (0), .int .i64 (0), .int .i64 (0)] 55)]) (((((((perm_front 2 rfl).trans (perm_front 1 rfl)).trans (perm_front 4 rfl)).trans (perm_front 6 rfl)).trans (perm_front 6 rfl)).trans (perm_front 6 rfl)).trans (perm_front 6 rfl)) ?_
    refine c_freeze (M := [pt b57 (.cells #[.int .i64 (-500), .slice (some ⟨b56, 0, none⟩) 1 1] 33), pt b1 (.cells #[Ix (x.tick), .slice p2 (es.length) (c3)] 24), pt (blk (fa71 13)) (.cells #[Ix (x.tick), .slice vaa (ps.length) (vac)] 24), pt (blk (fa71 14)) (.cells #[Ix (IntKind.i64.wrap ((x.tick) + (1 : Int))), .slice (sla (fa71 107)) (1 + bs.length) (slc (fa71 107))] 24)]) (K := [row (.slice (sla (fa71 107)) (1 + bs.length) (slc (fa71 107))) 33 2 (1 + bs.length) ([.int .i64 (-500), .slice (some ⟨b56, 0, none⟩) 1 1] ++ (entCells us60 bs)), row (.slice rp73 (1 + ws.length) rc74) 3 1 (1 + ws.length) ([.int .i64 (-500)] ++ (ws.map fun z => Ix z)), pt b56 (.cells #[.int .u8 (3), .int .i64 (0), .int .i64 (0), .int .i64 (0), .int .i64 (0)] 55)]) rfl (fun β₃ ext₃ kn₃ => ?_)
    obtain ⟨rb, hrb, hrbr⟩ := kn₃ (fun h => ∃ a, Sub a h ∧ (row (.slice (sla (fa71 107)) (1 + bs.length) (slc (fa71 107))) 33 2 (1 + bs.length) ([.int .i64 (-500), .slice (some ⟨b56, 0, none⟩) 1 1] ++ (entCells us60 bs))) a) (fun h hs hr => hr _ List.mem_cons_self)
    have hM := kn₃ _ (Knows.of_res 2 rfl (fun _ _ hs h => Sl.mono CompR _ _ _ _ hs h) fun _ h => more_sl h)
    have hB := row_ents (us := (.slice (some ⟨b56, 0, none⟩) 1 1) :: us60) (zs := moreK :: bs) hrb hrbr ((EGood.one hM).append (EGood.mono _ _ _ _ ext₃.sub hg61)) (by simp; omega)
    have hW := kn₃ (fun h => Sl IntR h (.slice rp73 (1 + ws.length) rc74) (-500 :: ws)) (Knows.of_res 1 rfl (fun _ _ hs h => Sl.mono IntR _ _ _ _ hs h) fun _ h => row_slI' (by simp; omega) h)
    replace vae := Elems.mono EntR _ _ _ _ ext₃.sub vae
    refine c_region ?_
    refine l_val (v := .agg #[Ix (x.tick), .slice vaa (ps.length) (vac)]) rfl rfl rfl (e_load tf46 (cs := [Ix (x.tick), .slice vaa (ps.length) (vac)]) rfl (k_pt 2 (cs := #[Ix (x.tick), .slice vaa (ps.length) (vac)]) (vs := [Ix (x.tick), .slice vaa (ps.length) (vac)]) rfl rfl) rfl) ?_
    refine l_val (v := .agg #[Ix (IntKind.i64.wrap ((x.tick) + (1 : Int))), .slice (sla (fa71 107)) (1 + bs.length) (slc (fa71 107))]) rfl rfl rfl (e_load tf46 (cs := [Ix (IntKind.i64.wrap ((x.tick) + (1 : Int))), .slice (sla (fa71 107)) (1 + bs.length) (slc (fa71 107))]) rfl (k_pt 3 (cs := #[Ix (IntKind.i64.wrap ((x.tick) + (1 : Int))), .slice (sla (fa71 107)) (1 + bs.length) (slc (fa71 107))]) (vs := [Ix (IntKind.i64.wrap ((x.tick) + (1 : Int))), .slice (sla (fa71 107)) (1 + bs.length) (slc (fa71 107))]) rfl rfl) rfl) ?_
    refine l_call rfl rfl rfl (cl_value (fst := []) (cap := []) (vs := [.agg #[Ix (x.tick), .slice vaa (ps.length) (vac)], .agg #[Ix (IntKind.i64.wrap ((x.tick) + (1 : Int))), .slice (sla (fa71 107)) (1 + bs.length) (slc (fa71 107))]]) (all := [.agg #[Ix (x.tick), .slice vaa (ps.length) (vac)], .agg #[Ix (IntKind.i64.wrap ((x.tick) + (1 : Int))), .slice (sla (fa71 107)) (1 + bs.length) (slc (fa71 107))]]) tf61 rfl rfl rfl) ?_
    intro w hw
    obtain ⟨β1, sb, kn, hw1, back⟩ := St.frame_all hw
    refine (differ_ok β1 w hw1 (⟨x.tick, ps⟩ : KWorld) (⟨IntKind.i64.wrap ((x.tick) + (1 : Int)), moreK :: bs⟩ : KWorld) _ _ (Sl.mono _ _ _ _ _ sb (⟨⟨_, _, rfl, val, vam, vae⟩⟩ : Sl EntR _ _ ps)) (Sl.mono _ _ _ _ _ sb hB) (show ps.length ≤ 1000000 from (by first | omega | (simp; omega))) (show (moreK :: bs).length ≤ 1000000 from (by first | omega | (simp; omega)))).mono ?_
    rintro e w' ⟨v75, rfl, hw'⟩
    refine ⟨_, rfl, _, back _ _ hw', ?_⟩
    clear hw hw1 hw' back kn sb
    refine l_val (v := v75) rfl rfl rfl (e_assign) ?_
    refine l_nil ?_
    refine f_then ?_
    refine c_seq ?_
    refine c_region ?_
    refine l_val (v := v75) rfl rfl rfl (e_move) ?_
    refine l_val (v := .slice rp73 (1 + ws.length) (rc74)) rfl rfl rfl (e_move) ?_
    refine l_call rfl rfl rfl (cl_value (fst := []) (cap := []) (vs := [v75, .slice rp73 (1 + ws.length) (rc74)]) (all := [v75, .slice rp73 (1 + ws.length) (rc74)]) tf62 rfl rfl rfl) ?_
    intro w hw
    obtain ⟨β1, sb, kn, hw1, back⟩ := St.frame_all hw
    refine (sameInts_ok β1 w hw1 _ _ (differU (⟨x.tick, ps⟩ : KWorld) (⟨IntKind.i64.wrap ((x.tick) + (1 : Int)), moreK :: bs⟩ : KWorld)) (-500 :: ws) (kn (fun h => Sl IntR h _ (differU (⟨x.tick, ps⟩ : KWorld) (⟨IntKind.i64.wrap ((x.tick) + (1 : Int)), moreK :: bs⟩ : KWorld))) (Knows.of_res 0 rfl (fun _ _ hs h => Sl.mono IntR _ _ _ _ hs h) fun _ h => row_slI h)) (Sl.mono _ _ _ _ _ sb hW)).mono ?_
    rintro e w' ⟨rfl, hw'⟩
    refine ⟨_, rfl, _, back _ _ hw', ?_⟩
    clear hw hw1 hw' back kn sb
    refine l_val (v := .bool (decide ((differU (⟨x.tick, ps⟩ : KWorld) (⟨IntKind.i64.wrap ((x.tick) + (1 : Int)), moreK :: bs⟩ : KWorld)) = (-500 :: ws)))) rfl rfl rfl (e_move) ?_
    refine l_split (s := 118) (p := (differU (⟨x.tick, ps⟩ : KWorld) (⟨IntKind.i64.wrap ((x.tick) + (1 : Int)), moreK :: bs⟩ : KWorld)) = (-500 :: ws)) rfl (fun h => ?_) (fun h => ?_)
    rotate_left; exact absurd (hap.differ rfl _ _) h
    refine g_val (v := .agg #[Ix (IntKind.i64.wrap ((x.tick) + (1 : Int))), .slice (sla (fa71 107)) (1 + bs.length) (slc (fa71 107))]) rfl rfl rfl rfl rfl (e_load tf46 (cs := [Ix (IntKind.i64.wrap ((x.tick) + (1 : Int))), .slice (sla (fa71 107)) (1 + bs.length) (slc (fa71 107))]) rfl (k_pt 4 (cs := #[Ix (IntKind.i64.wrap ((x.tick) + (1 : Int))), .slice (sla (fa71 107)) (1 + bs.length) (slc (fa71 107))]) (vs := [Ix (IntKind.i64.wrap ((x.tick) + (1 : Int))), .slice (sla (fa71 107)) (1 + bs.length) (slc (fa71 107))]) rfl rfl) rfl) ?_
    refine g_val (v := .agg #[Ix (x.tick), .slice vaa (ps.length) (vac)]) rfl rfl rfl rfl rfl (e_load tf46 (cs := [Ix (x.tick), .slice vaa (ps.length) (vac)]) rfl (k_pt 3 (cs := #[Ix (x.tick), .slice vaa (ps.length) (vac)]) (vs := [Ix (x.tick), .slice vaa (ps.length) (vac)]) rfl rfl) rfl) ?_
    refine g_call rfl rfl rfl rfl rfl (cl_value (fst := []) (cap := []) (vs := [.agg #[Ix (IntKind.i64.wrap ((x.tick) + (1 : Int))), .slice (sla (fa71 107)) (1 + bs.length) (slc (fa71 107))], .agg #[Ix (x.tick), .slice vaa (ps.length) (vac)]]) (all := [.agg #[Ix (IntKind.i64.wrap ((x.tick) + (1 : Int))), .slice (sla (fa71 107)) (1 + bs.length) (slc (fa71 107))], .agg #[Ix (x.tick), .slice vaa (ps.length) (vac)]]) tf61 rfl rfl rfl) ?_
    intro w hw
    obtain ⟨β1, sb, kn, hw1, back⟩ := St.frame_all hw
    refine (differ_ok β1 w hw1 (⟨IntKind.i64.wrap ((x.tick) + (1 : Int)), moreK :: bs⟩ : KWorld) (⟨x.tick, ps⟩ : KWorld) _ _ (Sl.mono _ _ _ _ _ sb hB) (Sl.mono _ _ _ _ _ sb (⟨⟨_, _, rfl, val, vam, vae⟩⟩ : Sl EntR _ _ ps)) (show (moreK :: bs).length ≤ 1000000 from (by first | omega | (simp; omega))) (show ps.length ≤ 1000000 from (by first | omega | (simp; omega)))).mono ?_
    rintro e w' ⟨v76, rfl, hw'⟩
    refine ⟨_, rfl, _, back _ _ hw', ?_⟩
    clear hw hw1 hw' back kn sb
    refine g_val (v := v75) rfl rfl rfl rfl rfl (e_move) ?_
    refine g_call rfl rfl rfl rfl rfl (cl_value (fst := []) (cap := []) (vs := [v76, v75]) (all := [v76, v75]) tf62 rfl rfl rfl) ?_
    intro w hw
    obtain ⟨β1, sb, kn, hw1, back⟩ := St.frame_all hw
    refine (sameInts_ok β1 w hw1 _ _ (differU (⟨IntKind.i64.wrap ((x.tick) + (1 : Int)), moreK :: bs⟩ : KWorld) (⟨x.tick, ps⟩ : KWorld)) (differU (⟨x.tick, ps⟩ : KWorld) (⟨IntKind.i64.wrap ((x.tick) + (1 : Int)), moreK :: bs⟩ : KWorld)) (kn (fun h => Sl IntR h _ (differU (⟨IntKind.i64.wrap ((x.tick) + (1 : Int)), moreK :: bs⟩ : KWorld) (⟨x.tick, ps⟩ : KWorld))) (Knows.of_res 0 rfl (fun _ _ hs h => Sl.mono IntR _ _ _ _ hs h) fun _ h => row_slI h)) (kn (fun h => Sl IntR h _ (differU (⟨x.tick, ps⟩ : KWorld) (⟨IntKind.i64.wrap ((x.tick) + (1 : Int)), moreK :: bs⟩ : KWorld))) (Knows.of_res 1 rfl (fun _ _ hs h => Sl.mono IntR _ _ _ _ hs h) fun _ h => row_slI h))).mono ?_
    rintro e w' ⟨rfl, hw'⟩
    refine ⟨_, rfl, _, back _ _ hw', ?_⟩
    clear hw hw1 hw' back kn sb
    refine l_val (v := .bool (decide ((differU (⟨IntKind.i64.wrap ((x.tick) + (1 : Int)), moreK :: bs⟩ : KWorld) (⟨x.tick, ps⟩ : KWorld)) = (differU (⟨x.tick, ps⟩ : KWorld) (⟨IntKind.i64.wrap ((x.tick) + (1 : Int)), moreK :: bs⟩ : KWorld))))) rfl rfl rfl (e_pick_t rfl) ?_
    refine l_val (v := .bool (decide ((differU (⟨IntKind.i64.wrap ((x.tick) + (1 : Int)), moreK :: bs⟩ : KWorld) (⟨x.tick, ps⟩ : KWorld)) = (differU (⟨x.tick, ps⟩ : KWorld) (⟨IntKind.i64.wrap ((x.tick) + (1 : Int)), moreK :: bs⟩ : KWorld))))) rfl rfl rfl (e_move) ?_
    refine l_split (s := 125) (p := (differU (⟨IntKind.i64.wrap ((x.tick) + (1 : Int)), moreK :: bs⟩ : KWorld) (⟨x.tick, ps⟩ : KWorld)) = (differU (⟨x.tick, ps⟩ : KWorld) (⟨IntKind.i64.wrap ((x.tick) + (1 : Int)), moreK :: bs⟩ : KWorld))) rfl (fun h => ?_) (fun h => ?_)
    rotate_left; exact absurd (differ_symm _ _) h
    refine g_call rfl rfl rfl rfl rfl (cl_value (fst := []) (cap := []) (vs := []) (all := []) tf63 rfl rfl rfl) ?_
    intro w hw
    obtain ⟨β1, sb, kn, hw1, back⟩ := St.frame_all hw
    refine (awake_ok β1 w hw1).mono ?_
    rintro e w' ⟨rfl, hw'⟩
    refine ⟨_, rfl, _, back _ _ hw', ?_⟩
    clear hw hw1 hw' back kn sb
    refine l_val (v := .bool true) rfl rfl rfl (e_pick_t rfl) ?_
    refine l_val (v := .bool true) rfl rfl rfl (e_assign) ?_
    refine l_nil ?_
    refine f_then ?_
    refine c_ret ?_
    refine ret1 Try.results8 (v := .bool true) rfl ?_
    intro w hw
    exact ⟨rfl, St.weaken ext₁ (St.weaken ext₂ (St.weaken ext₃ (st_mask [false, false, false, false, false, false] rfl hw)))⟩
end Go.Proofs
