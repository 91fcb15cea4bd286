import Derived.Test.YtbfidhbcojbklaaDgChgR
namespace Go.Proofs
open Go Go.Sl
theorem differ_tick (t t' : Int) (es : List KEnt) : differU (⟨t, es⟩ : KWorld) ⟨t', es⟩ = [] := differ_same rfl
theorem tf75 : cfB Try.prog 9 = true := by kernel_rfl
theorem tf77 : cfB Try.prog 26 = true := by kernel_rfl
theorem tf78 : cfB Try.prog 27 = true := by kernel_rfl
theorem change_ok (β : Base) (w : World) (hw : St β [] w) (x : KWorld) (v : Value) (hs : Sl EntR β.heap v x.ents) (hxn : x.ents.length * 32 ≤ 140737488355328) (hxbig : ∀ (i : Nat) e, x.ents[i]? = some e → e.comps.length * 40 ≤ 140737488355328) (at_ : Nat) (hat : at_ < 65536) (by_ : Int) (hby : -9223372036854775808 ≤ by_ ∧ by_ ≤ 9223372036854775807) : Calls Try.prog 4 #[.agg #[Ix x.tick, v], .int .u16 ((at_ : Nat) : Int), Ix by_] w fun r w' => r = .returned (.bool true) ∧ St β [] w' := by
  obtain ⟨va, vc, rfl, vl, vm, ve⟩ := hs.get
  refine enter (n := 82) Try.func4 rfl Try.ntmps4 rfl ?_ hw
  refine c_seq ?_
  refine c_region ?_
  refine l_mv rfl rfl rfl (m_box (v := .agg #[Ix (x.tick), .slice va (x.ents.length) (vc)]) rfl) ?_
  rintro _ _ ⟨b1, rfl, rfl⟩
  refine l_val (v := .bool false) rfl rfl rfl (e_assign) ?_
  refine l_nil ?_
  refine f_then ?_
  refine c_seq ?_
  refine c_region ?_
  refine l_val (v := .agg #[Ix (x.tick), .slice va (x.ents.length) (vc)]) rfl rfl rfl (e_load tf46 (cs := [Ix (x.tick), .slice va (x.ents.length) (vc)]) rfl (k_pt 0 (cs := #[Ix (x.tick), .slice va (x.ents.length) (vc)]) (vs := [Ix (x.tick), .slice va (x.ents.length) (vc)]) rfl rfl) rfl) ?_
  refine l_call rfl rfl rfl (cl_value (fst := []) (cap := []) (vs := [.agg #[Ix (x.tick), .slice va (x.ents.length) (vc)]]) (all := [.agg #[Ix (x.tick), .slice va (x.ents.length) (vc)]]) tf75 rfl rfl rfl) ?_
  intro w hw
  obtain ⟨β1, sb, kn, hw1, back⟩ := St.frame_all hw
  refine (few_ok' β1 w hw1 x _ (Sl.mono _ _ _ _ _ sb (⟨⟨_, _, rfl, vl, vm, ve⟩⟩ : Sl EntR _ _ x.ents)) hxn hxbig).mono ?_
  rintro e w' ⟨p2, c3, rfl, hw'⟩
  refine ⟨_, rfl, _, back _ _ hw', ?_⟩
  clear hw hw1 hw' back kn sb
  refine l_mu rfl rfl (m_store 1 tf46 (b := b1) (o := 0) (T := 24) (cs := #[Ix (x.tick), .slice va (x.ents.length) (vc)]) (cs' := #[Ix (x.tick), .slice p2 ((fewE x.ents).length) c3]) (v := .agg #[Ix (x.tick), .slice p2 ((fewE x.ents).length) c3]) rfl rfl rfl rfl rfl rfl rfl) ?_
  refine l_nil ?_
  refine f_then ?_
  refine c_seq ?_
  refine c_seq ?_
  refine c_perm (L' := [pt b1 (.cells #[Ix (x.tick), .slice p2 ((fewE x.ents).length) c3] 24), (fun h => Sl EntR h (.slice p2 ((fewE x.ents).length) c3) (fewE x.ents))]) ((perm_front 0 rfl).trans (perm_front 1 rfl)) ?_
  refine c_freeze (M := [pt b1 (.cells #[Ix (x.tick), .slice p2 ((fewE x.ents).length) c3] 24)]) (K := [(fun h => Sl EntR h (.slice p2 ((fewE x.ents).length) c3) (fewE x.ents))]) rfl (fun β₁ ext₁ kn₁ => ?_)
  have hf := kn₁ _ (Knows.of_res 0 rfl (fun _ _ hs h => Sl.mono EntR _ _ _ _ hs h) fun _ h => h)
  obtain ⟨es, hes⟩ : ∃ z, z = fewE x.ents := ⟨_, rfl⟩
  have hesl : es.length ≤ 40 := by rw [hes]; simp [fewE]; omega
  rw [← hes] at hf ⊢
  obtain ⟨p2l, p2m, p2e⟩ := sl_parts hf
  clear hf
  have hesb := few_big hes
  refine c_region ?_
  refine l_val (v := Ix (by_)) rfl rfl rfl (e_move) ?_
  refine l_val (v := .bool (decide ((by_) = (0 : Int)))) rfl rfl rfl (e_eql (a := (by_)) (b := (0 : Int)) rfl rfl) ?_
  refine l_nil ?_
  refine f_then ?_
  refine c_if ((by_) = (0 : Int)) rfl (fun hc4 => ?_) (fun hc4 => ?_)
  ·
    refine c_region ?_
    refine l_val (v := .int .i64 (1)) rfl rfl rfl (e_assign) ?_
    refine l_nil ?_
    refine f_then ?_
    refine c_seq ?_
    obtain ⟨bb, hbbr, hbb0, hbb⟩ : ∃ z : Int, (-9223372036854775808 ≤ z ∧ z ≤ 9223372036854775807) ∧ z ≠ 0 ∧ (1 : Int) = z := ⟨_, by omega, by omega, rfl⟩
    refine rebase (d := 2) (v := Ix bb) (by rw [← hbb]; rfl) ?_
    refine c_region ?_
    refine l_val (v := .agg #[Ix (x.tick), .slice p2 (es.length) (c3)]) rfl rfl rfl (e_load tf46 (cs := [Ix (x.tick), .slice p2 (es.length) (c3)]) rfl (k_pt 0 (cs := #[Ix (x.tick), .slice p2 (es.length) (c3)]) (vs := [Ix (x.tick), .slice p2 (es.length) (c3)]) rfl rfl) rfl) ?_
    refine l_mv rfl rfl rfl (m_alloc tf49) ?_
    rintro _ _ ⟨b5, rfl, rfl⟩
    refine l_mu rfl rfl (m_store 0 tf46 (b := b5) (o := 0) (T := 24) (cs := #[.int .i64 (0), .slice none 0 0]) (cs' := #[Ix (x.tick), .slice p2 (es.length) (c3)]) (v := .agg #[Ix (x.tick), .slice p2 (es.length) (c3)]) rfl rfl rfl rfl rfl rfl rfl) ?_
    refine l_nil ?_
    refine f_then ?_
    refine c_seq ?_
    refine c_region ?_
    refine l_val (v := .pointer (some ⟨b5, 0, none⟩)) rfl rfl rfl (e_fieldPt (b := b5) (o := 0) rfl tf27) ?_
    refine l_val (v := Ix (x.tick)) rfl rfl rfl (e_load1 tf10 (v := Ix (x.tick)) rfl (k_pt 0 (cs := #[Ix (x.tick), .slice p2 (es.length) (c3)]) (vs := [Ix (x.tick)]) rfl rfl)) ?_
    refine l_val (v := Ix (bb)) rfl rfl rfl (e_move) ?_
    refine l_val (v := Ix (IntKind.i64.wrap ((x.tick) + (bb)))) rfl rfl rfl (e_add (a := (x.tick)) (b := (bb)) rfl rfl rfl) ?_
    refine l_val (v := .pointer (some ⟨b5, 0, none⟩)) rfl rfl rfl (e_fieldPt (b := b5) (o := 0) rfl tf27) ?_
    refine l_mu rfl rfl (m_store 0 tf10 (b := b5) (o := 0) (T := 24) (cs := #[Ix (x.tick), .slice p2 (es.length) (c3)]) (cs' := #[Ix (IntKind.i64.wrap ((x.tick) + (bb))), .slice p2 (es.length) (c3)]) (v := Ix (IntKind.i64.wrap ((x.tick) + (bb)))) rfl rfl rfl rfl rfl rfl rfl) ?_
    refine l_nil ?_
    refine f_then ?_
    refine c_seq ?_
    refine c_region ?_
    refine l_val (v := .agg #[Ix (x.tick), .slice p2 (es.length) (c3)]) rfl rfl rfl (e_load tf46 (cs := [Ix (x.tick), .slice p2 (es.length) (c3)]) rfl (k_pt 1 (cs := #[Ix (x.tick), .slice p2 (es.length) (c3)]) (vs := [Ix (x.tick), .slice p2 (es.length) (c3)]) rfl rfl) rfl) ?_
    refine l_call rfl rfl rfl (cl_value (fst := []) (cap := []) (vs := [.agg #[Ix (x.tick), .slice p2 (es.length) (c3)]]) (all := [.agg #[Ix (x.tick), .slice p2 (es.length) (c3)]]) tf59 rfl rfl rfl) ?_
    intro w hw
    obtain ⟨β1, sb, kn, hw1, back⟩ := St.frame_all hw
    refine (world_ok β1 w hw1 (⟨x.tick, es⟩ : KWorld) _ (Sl.mono _ _ _ _ _ sb (⟨⟨_, _, rfl, p2l, p2m, p2e⟩⟩ : Sl EntR _ _ es))).mono ?_
    rintro e w' ⟨rfl, hw'⟩
    refine ⟨_, rfl, _, back _ _ hw', ?_⟩
    clear hw hw1 hw' back kn sb
    refine l_val (v := Ux (worldU (⟨x.tick, es⟩ : KWorld))) rfl rfl rfl (e_assign) ?_
    refine l_nil ?_
    refine f_then ?_
    refine c_seq ?_
    refine c_seq ?_
    refine c_region ?_
    refine l_val (v := .agg #[Ix (IntKind.i64.wrap ((x.tick) + (bb))), .slice p2 (es.length) (c3)]) rfl rfl rfl (e_load tf46 (cs := [Ix (IntKind.i64.wrap ((x.tick) + (bb))), .slice p2 (es.length) (c3)]) rfl (k_pt 0 (cs := #[Ix (IntKind.i64.wrap ((x.tick) + (bb))), .slice p2 (es.length) (c3)]) (vs := [Ix (IntKind.i64.wrap ((x.tick) + (bb))), .slice p2 (es.length) (c3)]) rfl rfl) rfl) ?_
    refine l_call rfl rfl rfl (cl_value (fst := []) (cap := []) (vs := [.agg #[Ix (IntKind.i64.wrap ((x.tick) + (bb))), .slice p2 (es.length) (c3)]]) (all := [.agg #[Ix (IntKind.i64.wrap ((x.tick) + (bb))), .slice p2 (es.length) (c3)]]) tf59 rfl rfl rfl) ?_
    intro w hw
    obtain ⟨β1, sb, kn, hw1, back⟩ := St.frame_all hw
    refine (world_ok β1 w hw1 (⟨IntKind.i64.wrap ((x.tick) + (bb)), es⟩ : KWorld) _ (Sl.mono _ _ _ _ _ sb (⟨⟨_, _, rfl, p2l, p2m, p2e⟩⟩ : Sl EntR _ _ es))).mono ?_
    rintro e w' ⟨rfl, hw'⟩
    refine ⟨_, rfl, _, back _ _ hw', ?_⟩
    clear hw hw1 hw' back kn sb
    refine l_val (v := Ux (worldU (⟨x.tick, es⟩ : KWorld))) rfl rfl rfl (e_move) ?_
    refine l_val (v := .bool (decide (((worldU (⟨IntKind.i64.wrap ((x.tick) + (bb)), es⟩ : KWorld)).toNat : Int) = ((worldU (⟨x.tick, es⟩ : KWorld)).toNat : Int)))) rfl rfl rfl (e_eql (a := ((worldU (⟨IntKind.i64.wrap ((x.tick) + (bb)), es⟩ : KWorld)).toNat : Int)) (b := ((worldU (⟨x.tick, es⟩ : KWorld)).toNat : Int)) rfl rfl) ?_
    refine l_val (v := .bool (decide (((worldU (⟨IntKind.i64.wrap ((x.tick) + (bb)), es⟩ : KWorld)).toNat : Int) = ((worldU (⟨x.tick, es⟩ : KWorld)).toNat : Int)))) rfl rfl rfl (e_move) ?_
    refine l_split (s := 30) (p := ((worldU (⟨IntKind.i64.wrap ((x.tick) + (bb)), es⟩ : KWorld)).toNat : Int) = ((worldU (⟨x.tick, es⟩ : KWorld)).toNat : Int)) rfl (fun h => ?_) (fun h => ?_)
    exact absurd h (fun h => tick_ne hbbr hbb0 es (UInt64.toNat_inj.1 (Int.ofNat_inj.1 h)))
    refine g_val (v := .agg #[Ix (x.tick), .slice p2 (es.length) (c3)]) rfl rfl rfl rfl rfl (e_load tf46 (cs := [Ix (x.tick), .slice p2 (es.length) (c3)]) rfl (k_pt 1 (cs := #[Ix (x.tick), .slice p2 (es.length) (c3)]) (vs := [Ix (x.tick), .slice p2 (es.length) (c3)]) rfl rfl) rfl) ?_
    refine g_val (v := .agg #[Ix (IntKind.i64.wrap ((x.tick) + (bb))), .slice p2 (es.length) (c3)]) rfl rfl rfl rfl rfl (e_load tf46 (cs := [Ix (IntKind.i64.wrap ((x.tick) + (bb))), .slice p2 (es.length) (c3)]) rfl (k_pt 0 (cs := #[Ix (IntKind.i64.wrap ((x.tick) + (bb))), .slice p2 (es.length) (c3)]) (vs := [Ix (IntKind.i64.wrap ((x.tick) + (bb))), .slice p2 (es.length) (c3)]) rfl rfl) rfl) ?_
    refine g_call rfl rfl rfl rfl rfl (cl_value (fst := []) (cap := []) (vs := [.agg #[Ix (x.tick), .slice p2 (es.length) (c3)], .agg #[Ix (IntKind.i64.wrap ((x.tick) + (bb))), .slice p2 (es.length) (c3)]]) (all := [.agg #[Ix (x.tick), .slice p2 (es.length) (c3)], .agg #[Ix (IntKind.i64.wrap ((x.tick) + (bb))), .slice p2 (es.length) (c3)]]) tf61 rfl rfl rfl) ?_
    intro w hw
    obtain ⟨β1, sb, kn, hw1, back⟩ := St.frame_all hw
    refine (differ_ok β1 w hw1 (⟨x.tick, es⟩ : KWorld) (⟨IntKind.i64.wrap ((x.tick) + (bb)), es⟩ : KWorld) _ _ (Sl.mono _ _ _ _ _ sb (⟨⟨_, _, rfl, p2l, p2m, p2e⟩⟩ : Sl EntR _ _ es)) (Sl.mono _ _ _ _ _ sb (⟨⟨_, _, rfl, p2l, p2m, p2e⟩⟩ : Sl EntR _ _ es)) (show es.length ≤ 1000000 from (by first | omega | (simp; omega))) (show es.length ≤ 1000000 from (by first | omega | (simp; omega)))).mono ?_
    rintro e w' ⟨v6, rfl, hw'⟩
    refine ⟨_, rfl, _, back _ _ hw', ?_⟩
    clear hw hw1 hw' back kn sb
    refine g_val (v := Nx ((differU (⟨x.tick, es⟩ : KWorld) (⟨IntKind.i64.wrap ((x.tick) + (bb)), es⟩ : KWorld)).length)) rfl rfl rfl rfl rfl (e_len_row 0 rfl rfl tf38) ?_
    refine g_val (v := .bool (decide ((((differU (⟨x.tick, es⟩ : KWorld) (⟨IntKind.i64.wrap ((x.tick) + (bb)), es⟩ : KWorld)).length : Nat) : Int) ≠ (0 : Int)))) rfl rfl rfl rfl rfl (e_neq (a := (((differU (⟨x.tick, es⟩ : KWorld) (⟨IntKind.i64.wrap ((x.tick) + (bb)), es⟩ : KWorld)).length : Nat) : Int)) (b := (0 : Int)) rfl rfl) ?_
    refine l_val (v := .bool (decide ((((differU (⟨x.tick, es⟩ : KWorld) (⟨IntKind.i64.wrap ((x.tick) + (bb)), es⟩ : KWorld)).length : Nat) : Int) ≠ (0 : Int)))) rfl rfl rfl (e_pick_f rfl) ?_
    refine l_nil ?_
    refine f_then ?_
    refine c_if ((((differU (⟨x.tick, es⟩ : KWorld) (⟨IntKind.i64.wrap ((x.tick) + (bb)), es⟩ : KWorld)).length : Nat) : Int) ≠ (0 : Int)) rfl (fun hc7 => ?_) (fun hc7 => ?_)
    ·
      exact absurd hc7 (fun h => h (by rw [differ_tick]; rfl))
    ·
      refine c_skip ?_
      refine f_then ?_
      refine c_seq ?_
      refine c_region ?_
      refine l_val (v := .agg #[Ix (x.tick), .slice p2 (es.length) (c3)]) rfl rfl rfl (e_load tf46 (cs := [Ix (x.tick), .slice p2 (es.length) (c3)]) rfl (k_pt 2 (cs := #[Ix (x.tick), .slice p2 (es.length) (c3)]) (vs := [Ix (x.tick), .slice p2 (es.length) (c3)]) rfl rfl) rfl) ?_
      refine l_call rfl rfl rfl (cl_value (fst := []) (cap := []) (vs := [.agg #[Ix (x.tick), .slice p2 (es.length) (c3)]]) (all := [.agg #[Ix (x.tick), .slice p2 (es.length) (c3)]]) tf77 rfl rfl rfl) ?_
      intro w hw
      obtain ⟨β1, sb, kn, hw1, back⟩ := St.frame_all hw
      refine (numbers2_ok β1 w hw1 (⟨x.tick, es⟩ : KWorld) _ (Sl.mono _ _ _ _ _ sb (⟨⟨_, _, rfl, p2l, p2m, p2e⟩⟩ : Sl EntR _ _ es)) hesb hesl).mono ?_
      rintro e w' ⟨rfl, hw'⟩
      refine ⟨_, rfl, _, back _ _ hw', ?_⟩
      clear hw hw1 hw' back kn sb
      refine l_val (v := Nx (numsTo es es.length)) rfl rfl rfl (e_assign) ?_
      refine l_nil ?_
      refine f_then ?_
      refine c_seq ?_
      refine c_seq ?_
      refine c_region ?_
      refine l_val (v := Nx (numsTo es es.length)) rfl rfl rfl (e_move) ?_
      refine l_val (v := .bool (decide (((numsTo es es.length : Nat) : Int) = (0 : Int)))) rfl rfl rfl (e_eql (a := ((numsTo es es.length : Nat) : Int)) (b := (0 : Int)) rfl rfl) ?_
      refine l_nil ?_
      refine f_then ?_
      refine c_if (((numsTo es es.length : Nat) : Int) = (0 : Int)) rfl (fun hc8 => ?_) (fun hc8 => ?_)
      ·
        refine c_seq ?_
        refine c_region ?_
        refine l_call rfl rfl rfl (cl_value (fst := []) (cap := []) (vs := []) (all := []) tf63 rfl rfl rfl) ?_
        intro w hw
        obtain ⟨β1, sb, kn, hw1, back⟩ := St.frame_all hw
        refine (awake_ok β1 w hw1).mono ?_
        rintro e w' ⟨rfl, hw'⟩
        refine ⟨_, rfl, _, back _ _ hw', ?_⟩
        clear hw hw1 hw' back kn sb
        refine l_val (v := .bool true) rfl rfl rfl (e_assign) ?_
        refine l_nil ?_
        refine f_then ?_
        refine c_ret ?_
        refine f_then_ret ?_
        refine ret1 Try.results4 (v := .bool true) rfl ?_
        intro w hw
        exact ⟨rfl, St.weaken ext₁ (st_mask [false, false, false] rfl hw)⟩
      ·
        refine c_skip ?_
        refine f_then ?_
        refine c_seq ?_
        refine c_any [⟨[], [], [0], [43], fun f => f 43 = .agg #[Ix (x.tick), .slice p2 (es.length) (c3)]⟩, ⟨[], [], [1], [44], fun f => f 44 = .int .u16 (((at_ : Nat)) : Int)⟩, ⟨[1], [1], [], [45], fun f => f 45 = Nx (at_)⟩, ⟨[], [], [2], [46], fun f => f 46 = Nx (numsTo es es.length)⟩, ⟨[1, 2, 3], [2, 3], [], [47], fun f => f 47 = Nx (at_ % (numsTo es es.length))⟩, ⟨[], [], [3], [48], fun f => f 48 = Ix (bb)⟩, ⟨[0, 1, 2, 3, 4, 5], [0, 4, 5], [], [49], fun f => f 49 = .tuple #[.agg #[Ix (x.tick), .slice (sla (prt 1 (prt 0 (f 49)))) (es.length) (slc (prt 1 (prt 0 (f 49))))], Ix ((intv (prt 1 (f 49)))), Ix ((intv (prt 2 (f 49))))]⟩, ⟨[0, 1, 2, 3, 4, 5, 6], [6], [], [42, 49], fun f => f 42 = .tuple #[.agg #[Ix (x.tick), .slice (sla (prt 1 (prt 0 (f 49)))) (es.length) (slc (prt 1 (prt 0 (f 49))))], Ix ((intv (prt 1 (f 49)))), Ix ((intv (prt 2 (f 49))))]⟩, ⟨[0, 1, 2, 3, 4, 5, 6, 7], [7], [], [49, 50], fun f => f 50 = .agg #[Ix (x.tick), .slice (sla (prt 1 (prt 0 (f 49)))) (es.length) (slc (prt 1 (prt 0 (f 49))))]⟩, ⟨[0, 1, 2, 3, 4, 5, 6, 7], [7], [], [49, 51], fun f => f 51 = Ix ((intv (prt 1 (f 49))))⟩, ⟨[0, 1, 2, 3, 4, 5, 6, 7], [7], [], [49, 52], fun f => f 52 = Ix ((intv (prt 2 (f 49))))⟩, ⟨[], [], [], [10], fun f => f 10 = .pointer (some ⟨(blk (f 10)), 0, none⟩)⟩, ⟨[0, 1, 2, 3, 4, 5, 6, 7, 8, 11], [11, 8], [], [], fun _ => True⟩, ⟨[0, 1, 2, 3, 4, 5, 6, 7, 8, 9, 11, 12], [9], [], [11, 49], fun f => f 11 = Ix ((intv (prt 1 (f 49))))⟩, ⟨[0, 1, 2, 3, 4, 5, 6, 7, 8, 9, 10, 11, 12, 13], [10], [], [12, 49], fun f => f 12 = Ix ((intv (prt 2 (f 49))))⟩] [⟨none, none, [], [], fun _ => row v6 3 1 ((differU (⟨x.tick, es⟩ : KWorld) (⟨IntKind.i64.wrap ((x.tick) + (bb)), es⟩ : KWorld)).length) (((differU (⟨x.tick, es⟩ : KWorld) (⟨IntKind.i64.wrap ((x.tick) + (bb)), es⟩ : KWorld)).map fun z => Ix z))⟩, ⟨none, none, [], [], fun _ => pt b5 (.cells #[Ix (IntKind.i64.wrap ((x.tick) + (bb))), .slice p2 (es.length) (c3)] 24)⟩, ⟨none, none, [0], [], fun _ => pt b1 (.cells #[Ix (x.tick), .slice p2 (es.length) (c3)] 24)⟩, ⟨(some 6), none, [], [49], fun f => chgR es (.slice (sla (prt 1 (prt 0 (f 49)))) (es.length) (slc (prt 1 (prt 0 (f 49))))) (intv (prt 1 (f 49))) (intv (prt 2 (f 49)))⟩, ⟨(some 11), (some 12), [12], [10], fun f => pt (blk (f 10)) (.cells #[.int .i64 (0), .slice none 0 0] 24)⟩, ⟨(some 12), none, [], [10, 49], fun f => pt (blk (f 10)) (.cells #[Ix (x.tick), .slice (sla (prt 1 (prt 0 (f 49)))) (es.length) (slc (prt 1 (prt 0 (f 49))))] 24)⟩] [(3, .pointer (some ⟨b1, 0, none⟩)), (1, .int .u16 (((at_ : Nat)) : Int)), (9, Nx (numsTo es es.length)), (2, Ix (bb)), (8, Ux (worldU (⟨x.tick, es⟩ : KWorld)))] [0, 4] [] (by kernel_rfl) (by kernel_rfl) (by kernel_rfl) (by kernel_rfl) rfl ⟨rfl, rfl, rfl, rfl, rfl, trivial⟩ ⟨?_, ?_, ?_, ?_, ?_, ?_, ?_, ?_, ?_, ?_, ?_, ?_, ?_, ?_, ?_, trivial⟩ ?_
        · rintro f M - ⟨i0, -⟩
          have hs3 : f 3 = .pointer (some ⟨b1, 0, none⟩) := i0
          refine ob_start (L' := pt b1 (.cells #[Ix (x.tick), .slice p2 (es.length) (c3)] 24) :: M) (by rfl) (up_cons rfl hs3) ?_
          refine l_val (v := .agg #[Ix (x.tick), .slice p2 (es.length) (c3)]) rfl rfl rfl (e_load tf46 (cs := [Ix (x.tick), .slice p2 (es.length) (c3)]) rfl (k_pt 0 (cs := #[Ix (x.tick), .slice p2 (es.length) (c3)]) (vs := [Ix (x.tick), .slice p2 (es.length) (c3)]) rfl rfl) rfl) ?_
          refine l_nil ?_
          exact f_owes_d (up_cons rfl hs3) rfl (perm_front 0 rfl)
        · rintro f M - ⟨i0, -⟩
          have hs1 : f 1 = .int .u16 (((at_ : Nat)) : Int) := i0
          refine ob_start (L' := M) (by rfl) (up_cons rfl hs1) ?_
          refine l_val (v := .int .u16 (((at_ : Nat)) : Int)) rfl rfl rfl (e_move) ?_
          refine l_nil ?_
          exact f_owes_d (up_cons rfl hs1) rfl (List.Perm.refl _)
        · rintro f M ⟨k0, -⟩ -
          have hs44 : f 44 = .int .u16 (((at_ : Nat)) : Int) := k0
          refine ob_start (L' := M) (by rfl) (up_cons rfl hs44) ?_
          refine l_val (v := Nx (at_)) rfl rfl rfl (e_conv (a := ((at_ : Nat) : Int)) rfl ⟨_, tf64⟩ tf1 (i64n rfl (by omega))) ?_
          refine l_nil ?_
          exact f_owes_d (up_cons rfl hs44) rfl (List.Perm.refl _)
        · rintro f M - ⟨i0, -⟩
          have hs9 : f 9 = Nx (numsTo es es.length) := i0
          refine ob_start (L' := M) (by rfl) (up_cons rfl hs9) ?_
          refine l_val (v := Nx (numsTo es es.length)) rfl rfl rfl (e_move) ?_
          refine l_nil ?_
          exact f_owes_d (up_cons rfl hs9) rfl (List.Perm.refl _)
        · rintro f M ⟨k0, k1, -⟩ -
          have hs45 : f 45 = Nx (at_) := k0
          have hs46 : f 46 = Nx (numsTo es es.length) := k1
          refine ob_start (L' := M) (by rfl) (up_cons (up_cons rfl hs45) hs46) ?_
          refine l_val (v := Nx (at_ % (numsTo es es.length))) rfl rfl rfl (e_rem (a := ((at_ : Nat) : Int)) (b := ((numsTo es es.length : Nat) : Int)) rfl rfl (by omega) (nat_tmod _ _)) ?_
          refine l_nil ?_
          exact f_owes_d (up_cons (up_cons rfl hs45) hs46) rfl (List.Perm.refl _)
        · rintro f M - ⟨i0, -⟩
          have hs2 : f 2 = Ix (bb) := i0
          refine ob_start (L' := M) (by rfl) (up_cons rfl hs2) ?_
          refine l_val (v := Ix (bb)) rfl rfl rfl (e_move) ?_
          refine l_nil ?_
          exact f_owes_d (up_cons rfl hs2) rfl (List.Perm.refl _)
        · rintro f M ⟨k0, k1, k2, -⟩ -
          have hs43 : f 43 = .agg #[Ix (x.tick), .slice p2 (es.length) (c3)] := k0
          have hs47 : f 47 = Nx (at_ % (numsTo es es.length)) := k1
          have hs48 : f 48 = Ix (bb) := k2
          refine ob_start (L' := M) (by rfl) (up_cons (up_cons (up_cons rfl hs43) hs47) hs48) ?_
          refine l_call rfl rfl rfl (cl_value (fst := []) (cap := []) (vs := [.agg #[Ix (x.tick), .slice p2 (es.length) (c3)], Nx (at_ % (numsTo es es.length)), Ix (bb)]) (all := [.agg #[Ix (x.tick), .slice p2 (es.length) (c3)], Nx (at_ % (numsTo es es.length)), Ix (bb)]) tf78 rfl rfl rfl) ?_
          intro w hw
          obtain ⟨β1, sb, kn, hw1, back⟩ := St.frame_all hw
          refine (changed_res β1 w hw1 x.tick es _ (Sl.mono _ _ _ _ _ sb (⟨⟨_, _, rfl, p2l, p2m, p2e⟩⟩ : Sl EntR _ _ es)) hesb hesl (at_ % (numsTo es es.length)) (Nat.mod_lt _ (by omega)) bb hbbr hbb0).mono ?_
          rintro e w' ⟨p13, c14, a15, b16, rfl, hw'⟩
          refine ⟨_, rfl, _, back _ _ hw', ?_⟩
          clear hw hw1 hw' back kn sb
          refine l_nil ?_
          exact f_owes_d (up_cons (up_cons (up_cons rfl hs43) hs47) hs48) rfl (perm_front 0 rfl)
        · rintro f M ⟨k0, -⟩ -
          have hs49 : f 49 = .tuple #[.agg #[Ix (x.tick), .slice (sla (prt 1 (prt 0 (f 49)))) (es.length) (slc (prt 1 (prt 0 (f 49))))], Ix ((intv (prt 1 (f 49)))), Ix ((intv (prt 2 (f 49))))] := k0
          refine ob_start (L' := M) (by rfl) (up_cons rfl hs49) ?_
          refine l_val (v := .tuple #[.agg #[Ix (x.tick), .slice (sla (prt 1 (prt 0 (f 49)))) (es.length) (slc (prt 1 (prt 0 (f 49))))], Ix ((intv (prt 1 (f 49)))), Ix ((intv (prt 2 (f 49))))]) rfl rfl rfl (e_move) ?_
          refine l_nil ?_
          exact f_owes_d (up_cons rfl hs49) rfl (List.Perm.refl _)
        · rintro f M ⟨k0, -⟩ -
          have hs42 : f 42 = .tuple #[.agg #[Ix (x.tick), .slice (sla (prt 1 (prt 0 (f 49)))) (es.length) (slc (prt 1 (prt 0 (f 49))))], Ix ((intv (prt 1 (f 49)))), Ix ((intv (prt 2 (f 49))))] := k0
          refine ob_start (L' := M) (by rfl) (up_cons rfl hs42) ?_
          refine l_val (v := .agg #[Ix (x.tick), .slice (sla (prt 1 (prt 0 (f 49)))) (es.length) (slc (prt 1 (prt 0 (f 49))))]) rfl rfl rfl (e_extract (vs := #[.agg #[Ix (x.tick), .slice (sla (prt 1 (prt 0 (f 49)))) (es.length) (slc (prt 1 (prt 0 (f 49))))], Ix ((intv (prt 1 (f 49)))), Ix ((intv (prt 2 (f 49))))]) rfl rfl) ?_
          refine l_nil ?_
          exact f_owes_d (up_cons rfl hs42) rfl (List.Perm.refl _)
        · rintro f M ⟨k0, -⟩ -
          have hs42 : f 42 = .tuple #[.agg #[Ix (x.tick), .slice (sla (prt 1 (prt 0 (f 49)))) (es.length) (slc (prt 1 (prt 0 (f 49))))], Ix ((intv (prt 1 (f 49)))), Ix ((intv (prt 2 (f 49))))] := k0
          refine ob_start (L' := M) (by rfl) (up_cons rfl hs42) ?_
          refine l_val (v := Ix ((intv (prt 1 (f 49))))) rfl rfl rfl (e_extract (vs := #[.agg #[Ix (x.tick), .slice (sla (prt 1 (prt 0 (f 49)))) (es.length) (slc (prt 1 (prt 0 (f 49))))], Ix ((intv (prt 1 (f 49)))), Ix ((intv (prt 2 (f 49))))]) rfl rfl) ?_
          refine l_nil ?_
          exact f_owes_d (up_cons rfl hs42) rfl (List.Perm.refl _)
        · rintro f M ⟨k0, -⟩ -
          have hs42 : f 42 = .tuple #[.agg #[Ix (x.tick), .slice (sla (prt 1 (prt 0 (f 49)))) (es.length) (slc (prt 1 (prt 0 (f 49))))], Ix ((intv (prt 1 (f 49)))), Ix ((intv (prt 2 (f 49))))] := k0
          refine ob_start (L' := M) (by rfl) (up_cons rfl hs42) ?_
          refine l_val (v := Ix ((intv (prt 2 (f 49))))) rfl rfl rfl (e_extract (vs := #[.agg #[Ix (x.tick), .slice (sla (prt 1 (prt 0 (f 49)))) (es.length) (slc (prt 1 (prt 0 (f 49))))], Ix ((intv (prt 1 (f 49)))), Ix ((intv (prt 2 (f 49))))]) rfl rfl) ?_
          refine l_nil ?_
          exact f_owes_d (up_cons rfl hs42) rfl (List.Perm.refl _)
        · rintro f M - -
          refine ob_start (L' := M) (by rfl) rfl ?_
          refine l_mv rfl rfl rfl (m_alloc tf49) ?_
          rintro _ _ ⟨b18, rfl, rfl⟩
          refine l_nil ?_
          exact f_owes_d rfl rfl (perm_front 0 rfl)
        · rintro f M ⟨k0, k1, -⟩ -
          have hs10 : f 10 = .pointer (some ⟨(blk (f 10)), 0, none⟩) := k0
          have hs50 : f 50 = .agg #[Ix (x.tick), .slice (sla (prt 1 (prt 0 (f 49)))) (es.length) (slc (prt 1 (prt 0 (f 49))))] := k1
          refine ob_start (L' := pt (blk (f 10)) (.cells #[.int .i64 (0), .slice none 0 0] 24) :: M) (by rfl) (up_cons (up_cons rfl hs10) hs50) ?_
          refine l_mu rfl rfl (m_store 0 tf46 (b := (blk (f 10))) (o := 0) (T := 24) (cs := #[.int .i64 (0), .slice none 0 0]) (cs' := #[Ix (x.tick), .slice (sla (prt 1 (prt 0 (f 49)))) (es.length) (slc (prt 1 (prt 0 (f 49))))]) (v := .agg #[Ix (x.tick), .slice (sla (prt 1 (prt 0 (f 49)))) (es.length) (slc (prt 1 (prt 0 (f 49))))]) rfl rfl rfl rfl rfl rfl rfl) ?_
          refine l_nil ?_
          exact f_owes_n (up_cons (up_cons rfl hs10) hs50) trivial (perm_front 0 rfl)
        · rintro f M ⟨k0, -⟩ -
          have hs51 : f 51 = Ix ((intv (prt 1 (f 49)))) := k0
          refine ob_start (L' := M) (by rfl) (up_cons rfl hs51) ?_
          refine l_val (v := Ix ((intv (prt 1 (f 49))))) rfl rfl rfl (e_assign) ?_
          refine l_nil ?_
          exact f_owes_d (up_cons rfl hs51) rfl (List.Perm.refl _)
        · rintro f M ⟨k0, -⟩ -
          have hs52 : f 52 = Ix ((intv (prt 2 (f 49)))) := k0
          refine ob_start (L' := M) (by rfl) (up_cons rfl hs52) ?_
          refine l_val (v := Ix ((intv (prt 2 (f 49))))) rfl rfl rfl (e_assign) ?_
          refine l_nil ?_
          exact f_owes_d (up_cons rfl hs52) rfl (List.Perm.refl _)
        rintro fa19 ⟨-, -, -, -, -, -, -, -, -, -, -, k11, -, k13, k14, -⟩ ⟨j0, j1, -⟩
        refine f_re (L' := [row v6 3 1 ((differU (⟨x.tick, es⟩ : KWorld) (⟨IntKind.i64.wrap ((x.tick) + (bb)), es⟩ : KWorld)).length) (((differU (⟨x.tick, es⟩ : KWorld) (⟨IntKind.i64.wrap ((x.tick) + (bb)), es⟩ : KWorld)).map fun z => Ix z)), pt b5 (.cells #[Ix (IntKind.i64.wrap ((x.tick) + (bb))), .slice p2 (es.length) (c3)] 24), pt b1 (.cells #[Ix (x.tick), .slice p2 (es.length) (c3)] 24), chgR es (.slice (sla (prt 1 (prt 0 (fa19 49)))) (es.length) (slc (prt 1 (prt 0 (fa19 49))))) (intv (prt 1 (fa19 49))) (intv (prt 2 (fa19 49))), pt (blk (fa19 10)) (.cells #[Ix (x.tick), .slice (sla (prt 1 (prt 0 (fa19 49)))) (es.length) (slc (prt 1 (prt 0 (fa19 49))))] 24)]) (by rfl) ?_
        refine f_rebase (d := 3) (v := .pointer (some ⟨b1, 0, none⟩)) j0 ?_
        refine f_rebase (d := 8) (v := Ux (worldU (⟨x.tick, es⟩ : KWorld))) j1 ?_
        refine f_rebase (d := 10) (v := .pointer (some ⟨(blk (fa19 10)), 0, none⟩)) k11 ?_
        refine f_rebase (d := 11) (v := Ix ((intv (prt 1 (fa19 49))))) k13 ?_
        refine f_rebase (d := 12) (v := Ix ((intv (prt 2 (fa19 49))))) k14 ?_
        refine f_then ?_
        refine c_seq ?_
        refine c_perm (L' := [row v6 3 1 ((differU (⟨x.tick, es⟩ : KWorld) (⟨IntKind.i64.wrap ((x.tick) + (bb)), es⟩ : KWorld)).length) (((differU (⟨x.tick, es⟩ : KWorld) (⟨IntKind.i64.wrap ((x.tick) + (bb)), es⟩ : KWorld)).map fun z => Ix z)), pt b5 (.cells #[Ix (IntKind.i64.wrap ((x.tick) + (bb))), .slice p2 (es.length) (c3)] 24), pt b1 (.cells #[Ix (x.tick), .slice p2 (es.length) (c3)] 24), pt (blk (fa19 10)) (.cells #[Ix (x.tick), .slice (sla (prt 1 (prt 0 (fa19 49)))) (es.length) (slc (prt 1 (prt 0 (fa19 49))))] 24), chgR es (.slice (sla (prt 1 (prt 0 (fa19 49)))) (es.length) (slc (prt 1 (prt 0 (fa19 49))))) (intv (prt 1 (fa19 49))) (intv (prt 2 (fa19 49)))]) (((((perm_front 3 rfl).trans (perm_front 4 rfl)).trans (perm_front 4 rfl)).trans (perm_front 4 rfl)).trans (perm_front 4 rfl)) ?_
        refine c_freeze (M := [row v6 3 1 ((differU (⟨x.tick, es⟩ : KWorld) (⟨IntKind.i64.wrap ((x.tick) + (bb)), es⟩ : KWorld)).length) (((differU (⟨x.tick, es⟩ : KWorld) (⟨IntKind.i64.wrap ((x.tick) + (bb)), es⟩ : KWorld)).map fun z => Ix z)), pt b5 (.cells #[Ix (IntKind.i64.wrap ((x.tick) + (bb))), .slice p2 (es.length) (c3)] 24), pt b1 (.cells #[Ix (x.tick), .slice p2 (es.length) (c3)] 24), pt (blk (fa19 10)) (.cells #[Ix (x.tick), .slice (sla (prt 1 (prt 0 (fa19 49)))) (es.length) (slc (prt 1 (prt 0 (fa19 49))))] 24)]) (K := [chgR es (.slice (sla (prt 1 (prt 0 (fa19 49)))) (es.length) (slc (prt 1 (prt 0 (fa19 49))))) (intv (prt 1 (fa19 49))) (intv (prt 2 (fa19 49)))]) rfl (fun β₂ ext₂ kn₂ => ?_)
        obtain ⟨ck, e, e', hce, hcne, hca, hcb, hcs⟩ := kn₂ _ (Knows.of_res 0 rfl (chgR.mono _ _ _ _) fun _ h => h)
        replace p2e := Elems.mono EntR _ _ _ _ ext₂.sub p2e
        refine c_region ?_
        refine l_val (v := .agg #[Ix (x.tick), .slice p2 (es.length) (c3)]) rfl rfl rfl (e_load tf46 (cs := [Ix (x.tick), .slice p2 (es.length) (c3)]) rfl (k_pt 2 (cs := #[Ix (x.tick), .slice p2 (es.length) (c3)]) (vs := [Ix (x.tick), .slice p2 (es.length) (c3)]) rfl rfl) rfl) ?_
        refine l_val (v := .agg #[Ix (x.tick), .slice (sla (prt 1 (prt 0 (fa19 49)))) (es.length) (slc (prt 1 (prt 0 (fa19 49))))]) rfl rfl rfl (e_load tf46 (cs := [Ix (x.tick), .slice (sla (prt 1 (prt 0 (fa19 49)))) (es.length) (slc (prt 1 (prt 0 (fa19 49))))]) rfl (k_pt 3 (cs := #[Ix (x.tick), .slice (sla (prt 1 (prt 0 (fa19 49)))) (es.length) (slc (prt 1 (prt 0 (fa19 49))))]) (vs := [Ix (x.tick), .slice (sla (prt 1 (prt 0 (fa19 49)))) (es.length) (slc (prt 1 (prt 0 (fa19 49))))]) rfl rfl) rfl) ?_
        refine l_call rfl rfl rfl (cl_value (fst := []) (cap := []) (vs := [.agg #[Ix (x.tick), .slice p2 (es.length) (c3)], .agg #[Ix (x.tick), .slice (sla (prt 1 (prt 0 (fa19 49)))) (es.length) (slc (prt 1 (prt 0 (fa19 49))))]]) (all := [.agg #[Ix (x.tick), .slice p2 (es.length) (c3)], .agg #[Ix (x.tick), .slice (sla (prt 1 (prt 0 (fa19 49)))) (es.length) (slc (prt 1 (prt 0 (fa19 49))))]]) tf61 rfl rfl rfl) ?_
        intro w hw
        obtain ⟨β1, sb, kn, hw1, back⟩ := St.frame_all hw
        refine (differ_ok β1 w hw1 (⟨x.tick, es⟩ : KWorld) (⟨x.tick, es.set ck e'⟩ : KWorld) _ _ (Sl.mono _ _ _ _ _ sb (⟨⟨_, _, rfl, p2l, p2m, p2e⟩⟩ : Sl EntR _ _ es)) (Sl.mono _ _ _ _ _ sb hcs) (show es.length ≤ 1000000 from (by first | omega | (simp; omega))) (show (es.set ck e').length ≤ 1000000 from (by first | omega | (simp; omega)))).mono ?_
        rintro e w' ⟨v20, rfl, hw'⟩
        refine ⟨_, rfl, _, back _ _ hw', ?_⟩
        clear hw hw1 hw' back kn sb
        refine l_val (v := v20) rfl rfl rfl (e_assign) ?_
        refine l_nil ?_
        refine f_then ?_
        refine c_seq ?_
        refine c_seq ?_
        refine c_region ?_
        refine l_val (v := .agg #[Ix (x.tick), .slice (sla (prt 1 (prt 0 (fa19 49)))) (es.length) (slc (prt 1 (prt 0 (fa19 49))))]) rfl rfl rfl (e_load tf46 (cs := [Ix (x.tick), .slice (sla (prt 1 (prt 0 (fa19 49)))) (es.length) (slc (prt 1 (prt 0 (fa19 49))))]) rfl (k_pt 4 (cs := #[Ix (x.tick), .slice (sla (prt 1 (prt 0 (fa19 49)))) (es.length) (slc (prt 1 (prt 0 (fa19 49))))]) (vs := [Ix (x.tick), .slice (sla (prt 1 (prt 0 (fa19 49)))) (es.length) (slc (prt 1 (prt 0 (fa19 49))))]) rfl rfl) rfl) ?_
        refine l_call rfl rfl rfl (cl_value (fst := []) (cap := []) (vs := [.agg #[Ix (x.tick), .slice (sla (prt 1 (prt 0 (fa19 49)))) (es.length) (slc (prt 1 (prt 0 (fa19 49))))]]) (all := [.agg #[Ix (x.tick), .slice (sla (prt 1 (prt 0 (fa19 49)))) (es.length) (slc (prt 1 (prt 0 (fa19 49))))]]) tf59 rfl rfl rfl) ?_
        intro w hw
        obtain ⟨β1, sb, kn, hw1, back⟩ := St.frame_all hw
        refine (world_ok β1 w hw1 (⟨x.tick, es.set ck e'⟩ : KWorld) _ (Sl.mono _ _ _ _ _ sb hcs)).mono ?_
        rintro e w' ⟨rfl, hw'⟩
        refine ⟨_, rfl, _, back _ _ hw', ?_⟩
        clear hw hw1 hw' back kn sb
        refine l_val (v := Ux (worldU (⟨x.tick, es⟩ : KWorld))) rfl rfl rfl (e_move) ?_
        refine l_val (v := .bool (decide (((worldU (⟨x.tick, es.set ck e'⟩ : KWorld)).toNat : Int) = ((worldU (⟨x.tick, es⟩ : KWorld)).toNat : Int)))) rfl rfl rfl (e_eql (a := ((worldU (⟨x.tick, es.set ck e'⟩ : KWorld)).toNat : Int)) (b := ((worldU (⟨x.tick, es⟩ : KWorld)).toNat : Int)) rfl rfl) ?_
        refine l_nil ?_
        refine f_then ?_
        refine c_if (((worldU (⟨x.tick, es.set ck e'⟩ : KWorld)).toNat : Int) = ((worldU (⟨x.tick, es⟩ : KWorld)).toNat : Int)) rfl (fun hc21 => ?_) (fun hc21 => ?_)
        ·
          exact absurd hc21 (fun h => world_set_ne hce hcne (UInt64.toNat_inj.1 (Int.ofNat_inj.1 h)))
        ·
          refine c_skip ?_
          refine f_then ?_
          refine c_seq ?_
          refine c_seq ?_
          refine c_region ?_
          refine l_val (v := Ix ((intv (prt 1 (fa19 49))))) rfl rfl rfl (e_move) ?_
          refine l_val (v := Ix ((intv (prt 2 (fa19 49))))) rfl rfl rfl (e_move) ?_
          refine l_val (v := .bool (decide (((intv (prt 1 (fa19 49)))) = ((intv (prt 2 (fa19 49))))))) rfl rfl rfl (e_eql (a := ((intv (prt 1 (fa19 49))))) (b := ((intv (prt 2 (fa19 49))))) rfl rfl) ?_
          refine l_nil ?_
          refine f_then ?_
          refine c_if (((intv (prt 1 (fa19 49)))) = ((intv (prt 2 (fa19 49))))) rfl (fun hc22 => ?_) (fun hc22 => ?_)
          ·
            refine c_seq ?_
            refine c_region ?_
            refine l_val (v := v20) rfl rfl rfl (e_move) ?_
            refine l_val (v := Ix ((intv (prt 1 (fa19 49))))) rfl rfl rfl (e_move) ?_
            refine l_mv rfl rfl rfl (m_slices tf39 tf52 (vs := [(0, Ix ((intv (prt 1 (fa19 49)))))]) (cells := #[Ix ((intv (prt 1 (fa19 49))))]) rfl rfl rfl rfl) ?_
            rintro _ _ ⟨b23, rfl, rfl⟩
            refine l_call rfl rfl rfl (cl_value (fst := []) (cap := []) (vs := [v20, .slice (some ⟨b23, 0, none⟩) 1 1]) (all := [v20, .slice (some ⟨b23, 0, none⟩) 1 1]) tf62 rfl rfl rfl) ?_
            intro w hw
            obtain ⟨β1, sb, kn, hw1, back⟩ := St.frame_all hw
            refine (sameInts_ok β1 w hw1 _ _ (differU (⟨x.tick, es⟩ : KWorld) (⟨x.tick, es.set ck e'⟩ : KWorld)) [((intv (prt 1 (fa19 49))))] (kn (fun h => Sl IntR h _ (differU (⟨x.tick, es⟩ : KWorld) (⟨x.tick, es.set ck e'⟩ : KWorld))) (Knows.of_res 1 rfl (fun _ _ hs h => Sl.mono IntR _ _ _ _ hs h) fun _ h => row_slI h)) (kn (fun h => Sl IntR h _ [((intv (prt 1 (fa19 49))))]) (Knows.of_res 0 rfl (fun _ _ hs h => Sl.mono IntR _ _ _ _ hs h) fun _ h => pt_slI (xs := [((intv (prt 1 (fa19 49))))]) h rfl rfl))).mono ?_
            rintro e w' ⟨rfl, hw'⟩
            refine ⟨_, rfl, _, back _ _ hw', ?_⟩
            clear hw hw1 hw' back kn sb
            refine l_val (v := .bool (decide ((differU (⟨x.tick, es⟩ : KWorld) (⟨x.tick, es.set ck e'⟩ : KWorld)) = [((intv (prt 1 (fa19 49))))]))) rfl rfl rfl (e_move) ?_
            refine l_split (s := 67) (p := (differU (⟨x.tick, es⟩ : KWorld) (⟨x.tick, es.set ck e'⟩ : KWorld)) = [((intv (prt 1 (fa19 49))))]) rfl (fun h => ?_) (fun h => ?_)
            rotate_left; exact absurd (by rw [differ_set hce hcne, if_pos (by omega)]; simp only [hca]) h
            refine g_call rfl rfl rfl rfl rfl (cl_value (fst := []) (cap := []) (vs := []) (all := []) tf63 rfl rfl rfl) ?_
            intro w hw
            obtain ⟨β1, sb, kn, hw1, back⟩ := St.frame_all hw
            refine (awake_ok β1 w hw1).mono ?_
            rintro e w' ⟨rfl, hw'⟩
            refine ⟨_, rfl, _, back _ _ hw', ?_⟩
            clear hw hw1 hw' back kn sb
            refine l_val (v := .bool true) rfl rfl rfl (e_pick_t rfl) ?_
            refine l_val (v := .bool true) rfl rfl rfl (e_assign) ?_
            refine l_nil ?_
            refine f_then ?_
            refine c_ret ?_
            refine f_then_ret ?_
            refine ret1 Try.results4 (v := .bool true) rfl ?_
            intro w hw
            exact ⟨rfl, St.weaken ext₁ (St.weaken ext₂ (st_mask [false, false, false, false, false, false] rfl hw))⟩
          ·
            refine c_skip ?_
            refine f_then ?_
            refine c_seq ?_
            refine c_region ?_
            refine l_val (v := v20) rfl rfl rfl (e_move) ?_
            refine l_val (v := Ix ((intv (prt 1 (fa19 49))))) rfl rfl rfl (e_move) ?_
            refine l_val (v := Ix ((intv (prt 2 (fa19 49))))) rfl rfl rfl (e_move) ?_
            refine l_val (v := Ix (min ((intv (prt 1 (fa19 49)))) ((intv (prt 2 (fa19 49)))))) rfl rfl rfl (e_min (a := ((intv (prt 1 (fa19 49))))) (b := ((intv (prt 2 (fa19 49))))) rfl rfl) ?_
            refine l_val (v := Ix ((intv (prt 1 (fa19 49))))) rfl rfl rfl (e_move) ?_
            refine l_val (v := Ix ((intv (prt 2 (fa19 49))))) rfl rfl rfl (e_move) ?_
            refine l_val (v := Ix (max ((intv (prt 1 (fa19 49)))) ((intv (prt 2 (fa19 49)))))) rfl rfl rfl (e_max (a := ((intv (prt 1 (fa19 49))))) (b := ((intv (prt 2 (fa19 49))))) rfl rfl) ?_
            refine l_mv rfl rfl rfl (m_slices tf39 tf52 (vs := [(0, Ix (min ((intv (prt 1 (fa19 49)))) ((intv (prt 2 (fa19 49)))))), (1, Ix (max ((intv (prt 1 (fa19 49)))) ((intv (prt 2 (fa19 49))))))]) (cells := #[Ix (min ((intv (prt 1 (fa19 49)))) ((intv (prt 2 (fa19 49))))), Ix (max ((intv (prt 1 (fa19 49)))) ((intv (prt 2 (fa19 49)))))]) rfl rfl rfl rfl) ?_
            rintro _ _ ⟨b24, rfl, rfl⟩
            refine l_call rfl rfl rfl (cl_value (fst := []) (cap := []) (vs := [v20, .slice (some ⟨b24, 0, none⟩) 2 2]) (all := [v20, .slice (some ⟨b24, 0, none⟩) 2 2]) tf62 rfl rfl rfl) ?_
            intro w hw
            obtain ⟨β1, sb, kn, hw1, back⟩ := St.frame_all hw
            refine (sameInts_ok β1 w hw1 _ _ (differU (⟨x.tick, es⟩ : KWorld) (⟨x.tick, es.set ck e'⟩ : KWorld)) [(min ((intv (prt 1 (fa19 49)))) ((intv (prt 2 (fa19 49))))), (max ((intv (prt 1 (fa19 49)))) ((intv (prt 2 (fa19 49)))))] (kn (fun h => Sl IntR h _ (differU (⟨x.tick, es⟩ : KWorld) (⟨x.tick, es.set ck e'⟩ : KWorld))) (Knows.of_res 1 rfl (fun _ _ hs h => Sl.mono IntR _ _ _ _ hs h) fun _ h => row_slI h)) (kn (fun h => Sl IntR h _ [(min ((intv (prt 1 (fa19 49)))) ((intv (prt 2 (fa19 49))))), (max ((intv (prt 1 (fa19 49)))) ((intv (prt 2 (fa19 49)))))]) (Knows.of_res 0 rfl (fun _ _ hs h => Sl.mono IntR _ _ _ _ hs h) fun _ h => pt_slI (xs := [(min ((intv (prt 1 (fa19 49)))) ((intv (prt 2 (fa19 49))))), (max ((intv (prt 1 (fa19 49)))) ((intv (prt 2 (fa19 49)))))]) h rfl rfl))).mono ?_
            rintro e w' ⟨rfl, hw'⟩
            refine ⟨_, rfl, _, back _ _ hw', ?_⟩
            clear hw hw1 hw' back kn sb
            refine l_val (v := .bool (decide ((differU (⟨x.tick, es⟩ : KWorld) (⟨x.tick, es.set ck e'⟩ : KWorld)) = [(min ((intv (prt 1 (fa19 49)))) ((intv (prt 2 (fa19 49))))), (max ((intv (prt 1 (fa19 49)))) ((intv (prt 2 (fa19 49)))))]))) rfl rfl rfl (e_move) ?_
            refine l_split (s := 79) (p := (differU (⟨x.tick, es⟩ : KWorld) (⟨x.tick, es.set ck e'⟩ : KWorld)) = [(min ((intv (prt 1 (fa19 49)))) ((intv (prt 2 (fa19 49))))), (max ((intv (prt 1 (fa19 49)))) ((intv (prt 2 (fa19 49)))))]) rfl (fun h => ?_) (fun h => ?_)
            rotate_left; exact absurd (by rw [differ_set hce hcne, if_neg (by omega)]; simp only [hca, hcb]) h
            refine g_call rfl rfl rfl rfl rfl (cl_value (fst := []) (cap := []) (vs := []) (all := []) tf63 rfl rfl rfl) ?_
            intro w hw
            obtain ⟨β1, sb, kn, hw1, back⟩ := St.frame_all hw
            refine (awake_ok β1 w hw1).mono ?_
            rintro e w' ⟨rfl, hw'⟩
            refine ⟨_, rfl, _, back _ _ hw', ?_⟩
            clear hw hw1 hw' back kn sb
            refine l_val (v := .bool true) rfl rfl rfl (e_pick_t rfl) ?_
            refine l_val (v := .bool true) rfl rfl rfl (e_assign) ?_
            refine l_nil ?_
            refine f_then ?_
            refine c_ret ?_
            refine ret1 Try.results4 (v := .bool true) rfl ?_
            intro w hw
            exact ⟨rfl, St.weaken ext₁ (St.weaken ext₂ (st_mask [false, false, false, false, false, false] rfl hw))⟩
  ·
    refine c_skip ?_
    refine f_then ?_
    refine c_seq ?_
    obtain ⟨bb, hbbr, hbb0, hbb⟩ : ∃ z : Int, (-9223372036854775808 ≤ z ∧ z ≤ 9223372036854775807) ∧ z ≠ 0 ∧ (by_) = z := ⟨_, by omega, by omega, rfl⟩
    refine rebase (d := 2) (v := Ix bb) (by rw [← hbb]; rfl) ?_
    refine c_region ?_
    refine l_val (v := .agg #[Ix (x.tick), .slice p2 (es.length) (c3)]) rfl rfl rfl (e_load tf46 (cs := [Ix (x.tick), .slice p2 (es.length) (c3)]) rfl (k_pt 0 (cs := #[Ix (x.tick), .slice p2 (es.length) (c3)]) (vs := [Ix (x.tick), .slice p2 (es.length) (c3)]) rfl rfl) rfl) ?_
    refine l_mv rfl rfl rfl (m_alloc tf49) ?_
    rintro _ _ ⟨b25, rfl, rfl⟩
    refine l_mu rfl rfl (m_store 0 tf46 (b := b25) (o := 0) (T := 24) (cs := #[.int .i64 (0), .slice none 0 0]) (cs' := #[Ix (x.tick), .slice p2 (es.length) (c3)]) (v := .agg #[Ix (x.tick), .slice p2 (es.length) (c3)]) rfl rfl rfl rfl rfl rfl rfl) ?_
    refine l_nil ?_
    refine f_then ?_
    refine c_seq ?_
    refine c_region ?_
    refine l_val (v := .pointer (some ⟨b25, 0, none⟩)) rfl rfl rfl (e_fieldPt (b := b25) (o := 0) rfl tf27) ?_
    refine l_val (v := Ix (x.tick)) rfl rfl rfl (e_load1 tf10 (v := Ix (x.tick)) rfl (k_pt 0 (cs := #[Ix (x.tick), .slice p2 (es.length) (c3)]) (vs := [Ix (x.tick)]) rfl rfl)) ?_
    refine l_val (v := Ix (bb)) rfl rfl rfl (e_move) ?_
    refine l_val (v := Ix (IntKind.i64.wrap ((x.tick) + (bb)))) rfl rfl rfl (e_add (a := (x.tick)) (b := (bb)) rfl rfl rfl) ?_
    refine l_val (v := .pointer (some ⟨b25, 0, none⟩)) rfl rfl rfl (e_fieldPt (b := b25) (o := 0) rfl tf27) ?_
    refine l_mu rfl rfl (m_store 0 tf10 (b := b25) (o := 0) (T := 24) (cs := #[Ix (x.tick), .slice p2 (es.length) (c3)]) (cs' := #[Ix (IntKind.i64.wrap ((x.tick) + (bb))), .slice p2 (es.length) (c3)]) (v := Ix (IntKind.i64.wrap ((x.tick) + (bb)))) rfl rfl rfl rfl rfl rfl rfl) ?_
    refine l_nil ?_
    refine f_then ?_
    refine c_seq ?_
    refine c_region ?_
    refine l_val (v := .agg #[Ix (x.tick), .slice p2 (es.length) (c3)]) rfl rfl rfl (e_load tf46 (cs := [Ix (x.tick), .slice p2 (es.length) (c3)]) rfl (k_pt 1 (cs := #[Ix (x.tick), .slice p2 (es.length) (c3)]) (vs := [Ix (x.tick), .slice p2 (es.length) (c3)]) rfl rfl) rfl) ?_
    refine l_call rfl rfl rfl (cl_value (fst := []) (cap := []) (vs := [.agg #[Ix (x.tick), .slice p2 (es.length) (c3)]]) (all := [.agg #[Ix (x.tick), .slice p2 (es.length) (c3)]]) tf59 rfl rfl rfl) ?_
    intro w hw
    obtain ⟨β1, sb, kn, hw1, back⟩ := St.frame_all hw
    refine (world_ok β1 w hw1 (⟨x.tick, es⟩ : KWorld) _ (Sl.mono _ _ _ _ _ sb (⟨⟨_, _, rfl, p2l, p2m, p2e⟩⟩ : Sl EntR _ _ es))).mono ?_
    rintro e w' ⟨rfl, hw'⟩
    refine ⟨_, rfl, _, back _ _ hw', ?_⟩
    clear hw hw1 hw' back kn sb
    refine l_val (v := Ux (worldU (⟨x.tick, es⟩ : KWorld))) rfl rfl rfl (e_assign) ?_
    refine l_nil ?_
    refine f_then ?_
    refine c_seq ?_
    refine c_seq ?_
    refine c_region ?_
    refine l_val (v := .agg #[Ix (IntKind.i64.wrap ((x.tick) + (bb))), .slice p2 (es.length) (c3)]) rfl rfl rfl (e_load tf46 (cs := [Ix (IntKind.i64.wrap ((x.tick) + (bb))), .slice p2 (es.length) (c3)]) rfl (k_pt 0 (cs := #[Ix (IntKind.i64.wrap ((x.tick) + (bb))), .slice p2 (es.length) (c3)]) (vs := [Ix (IntKind.i64.wrap ((x.tick) + (bb))), .slice p2 (es.length) (c3)]) rfl rfl) rfl) ?_
    refine l_call rfl rfl rfl (cl_value (fst := []) (cap := []) (vs := [.agg #[Ix (IntKind.i64.wrap ((x.tick) + (bb))), .slice p2 (es.length) (c3)]]) (all := [.agg #[Ix (IntKind.i64.wrap ((x.tick) + (bb))), .slice p2 (es.length) (c3)]]) tf59 rfl rfl rfl) ?_
    intro w hw
    obtain ⟨β1, sb, kn, hw1, back⟩ := St.frame_all hw
    refine (world_ok β1 w hw1 (⟨IntKind.i64.wrap ((x.tick) + (bb)), es⟩ : KWorld) _ (Sl.mono _ _ _ _ _ sb (⟨⟨_, _, rfl, p2l, p2m, p2e⟩⟩ : Sl EntR _ _ es))).mono ?_
    rintro e w' ⟨rfl, hw'⟩
    refine ⟨_, rfl, _, back _ _ hw', ?_⟩
    clear hw hw1 hw' back kn sb
    refine l_val (v := Ux (worldU (⟨x.tick, es⟩ : KWorld))) rfl rfl rfl (e_move) ?_
    refine l_val (v := .bool (decide (((worldU (⟨IntKind.i64.wrap ((x.tick) + (bb)), es⟩ : KWorld)).toNat : Int) = ((worldU (⟨x.tick, es⟩ : KWorld)).toNat : Int)))) rfl rfl rfl (e_eql (a := ((worldU (⟨IntKind.i64.wrap ((x.tick) + (bb)), es⟩ : KWorld)).toNat : Int)) (b := ((worldU (⟨x.tick, es⟩ : KWorld)).toNat : Int)) rfl rfl) ?_
    refine l_val (v := .bool (decide (((worldU (⟨IntKind.i64.wrap ((x.tick) + (bb)), es⟩ : KWorld)).toNat : Int) = ((worldU (⟨x.tick, es⟩ : KWorld)).toNat : Int)))) rfl rfl rfl (e_move) ?_
    refine l_split (s := 30) (p := ((worldU (⟨IntKind.i64.wrap ((x.tick) + (bb)), es⟩ : KWorld)).toNat : Int) = ((worldU (⟨x.tick, es⟩ : KWorld)).toNat : Int)) rfl (fun h => ?_) (fun h => ?_)
    exact absurd h (fun h => tick_ne hbbr hbb0 es (UInt64.toNat_inj.1 (Int.ofNat_inj.1 h)))
    refine g_val (v := .agg #[Ix (x.tick), .slice p2 (es.length) (c3)]) rfl rfl rfl rfl rfl (e_load tf46 (cs := [Ix (x.tick), .slice p2 (es.length) (c3)]) rfl (k_pt 1 (cs := #[Ix (x.tick), .slice p2 (es.length) (c3)]) (vs := [Ix (x.tick), .slice p2 (es.length) (c3)]) rfl rfl) rfl) ?_
    refine g_val (v := .agg #[Ix (IntKind.i64.wrap ((x.tick) + (bb))), .slice p2 (es.length) (c3)]) rfl rfl rfl rfl rfl (e_load tf46 (cs := [Ix (IntKind.i64.wrap ((x.tick) + (bb))), .slice p2 (es.length) (c3)]) rfl (k_pt 0 (cs := #[Ix (IntKind.i64.wrap ((x.tick) + (bb))), .slice p2 (es.length) (c3)]) (vs := [Ix (IntKind.i64.wrap ((x.tick) + (bb))), .slice p2 (es.length) (c3)]) rfl rfl) rfl) ?_
    refine g_call rfl rfl rfl rfl rfl (cl_value (fst := []) (cap := []) (vs := [.agg #[Ix (x.tick), .slice p2 (es.length) (c3)], .agg #[Ix (IntKind.i64.wrap ((x.tick) + (bb))), .slice p2 (es.length) (c3)]]) (all := [.agg #[Ix (x.tick), .slice p2 (es.length) (c3)], .agg #[Ix (IntKind.i64.wrap ((x.tick) + (bb))), .slice p2 (es.length) (c3)]]) tf61 rfl rfl rfl) ?_
    intro w hw
    obtain ⟨β1, sb, kn, hw1, back⟩ := St.frame_all hw
    refine (differ_ok β1 w hw1 (⟨x.tick, es⟩ : KWorld) (⟨IntKind.i64.wrap ((x.tick) + (bb)), es⟩ : KWorld) _ _ (Sl.mono _ _ _ _ _ sb (⟨⟨_, _, rfl, p2l, p2m, p2e⟩⟩ : Sl EntR _ _ es)) (Sl.mono _ _ _ _ _ sb (⟨⟨_, _, rfl, p2l, p2m, p2e⟩⟩ : Sl EntR _ _ es)) (show es.length ≤ 1000000 from (by first | omega | (simp; omega))) (show es.length ≤ 1000000 from (by first | omega | (simp; omega)))).mono ?_
    rintro e w' ⟨v26, rfl, hw'⟩
    refine ⟨_, rfl, _, back _ _ hw', ?_⟩
    clear hw hw1 hw' back kn sb
    refine g_val (v := Nx ((differU (⟨x.tick, es⟩ : KWorld) (⟨IntKind.i64.wrap ((x.tick) + (bb)), es⟩ : KWorld)).length)) rfl rfl rfl rfl rfl (e_len_row 0 rfl rfl tf38) ?_
    refine g_val (v := .bool (decide ((((differU (⟨x.tick, es⟩ : KWorld) (⟨IntKind.i64.wrap ((x.tick) + (bb)), es⟩ : KWorld)).length : Nat) : Int) ≠ (0 : Int)))) rfl rfl rfl rfl rfl (e_neq (a := (((differU (⟨x.tick, es⟩ : KWorld) (⟨IntKind.i64.wrap ((x.tick) + (bb)), es⟩ : KWorld)).length : Nat) : Int)) (b := (0 : Int)) rfl rfl) ?_
    refine l_val (v := .bool (decide ((((differU (⟨x.tick, es⟩ : KWorld) (⟨IntKind.i64.wrap ((x.tick) + (bb)), es⟩ : KWorld)).length : Nat) : Int) ≠ (0 : Int)))) rfl rfl rfl (e_pick_f rfl) ?_
    refine l_nil ?_
    refine f_then ?_
    refine c_if ((((differU (⟨x.tick, es⟩ : KWorld) (⟨IntKind.i64.wrap ((x.tick) + (bb)), es⟩ : KWorld)).length : Nat) : Int) ≠ (0 : Int)) rfl (fun hc27 => ?_) (fun hc27 => ?_)
    ·
      exact absurd hc27 (fun h => h (by rw [differ_tick]; rfl))
    ·
      refine c_skip ?_
      refine f_then ?_
      refine c_seq ?_
      refine c_region ?_
      refine l_val (v := .agg #[Ix (x.tick), .slice p2 (es.length) (c3)]) rfl rfl rfl (e_load tf46 (cs := [Ix (x.tick), .slice p2 (es.length) (c3)]) rfl (k_pt 2 (cs := #[Ix (x.tick), .slice p2 (es.length) (c3)]) (vs := [Ix (x.tick), .slice p2 (es.length) (c3)]) rfl rfl) rfl) ?_
      refine l_call rfl rfl rfl (cl_value (fst := []) (cap := []) (vs := [.agg #[Ix (x.tick), .slice p2 (es.length) (c3)]]) (all := [.agg #[Ix (x.tick), .slice p2 (es.length) (c3)]]) tf77 rfl rfl rfl) ?_
      intro w hw
      obtain ⟨β1, sb, kn, hw1, back⟩ := St.frame_all hw
      refine (numbers2_ok β1 w hw1 (⟨x.tick, es⟩ : KWorld) _ (Sl.mono _ _ _ _ _ sb (⟨⟨_, _, rfl, p2l, p2m, p2e⟩⟩ : Sl EntR _ _ es)) hesb hesl).mono ?_
      rintro e w' ⟨rfl, hw'⟩
      refine ⟨_, rfl, _, back _ _ hw', ?_⟩
      clear hw hw1 hw' back kn sb
      refine l_val (v := Nx (numsTo es es.length)) rfl rfl rfl (e_assign) ?_
      refine l_nil ?_
      refine f_then ?_
      refine c_seq ?_
      refine c_seq ?_
      refine c_region ?_
      refine l_val (v := Nx (numsTo es es.length)) rfl rfl rfl (e_move) ?_
      refine l_val (v := .bool (decide (((numsTo es es.length : Nat) : Int) = (0 : Int)))) rfl rfl rfl (e_eql (a := ((numsTo es es.length : Nat) : Int)) (b := (0 : Int)) rfl rfl) ?_
      refine l_nil ?_
      refine f_then ?_
      refine c_if (((numsTo es es.length : Nat) : Int) = (0 : Int)) rfl (fun hc28 => ?_) (fun hc28 => ?_)
      ·
        refine c_seq ?_
        refine c_region ?_
        refine l_call rfl rfl rfl (cl_value (fst := []) (cap := []) (vs := []) (all := []) tf63 rfl rfl rfl) ?_
        intro w hw
        obtain ⟨β1, sb, kn, hw1, back⟩ := St.frame_all hw
        refine (awake_ok β1 w hw1).mono ?_
        rintro e w' ⟨rfl, hw'⟩
        refine ⟨_, rfl, _, back _ _ hw', ?_⟩
        clear hw hw1 hw' back kn sb
        refine l_val (v := .bool true) rfl rfl rfl (e_assign) ?_
        refine l_nil ?_
        refine f_then ?_
        refine c_ret ?_
        refine f_then_ret ?_
        refine ret1 Try.results4 (v := .bool true) rfl ?_
        intro w hw
        exact ⟨rfl, St.weaken ext₁ (st_mask [false, false, false] rfl hw)⟩
      ·
        refine c_skip ?_
        refine f_then ?_
        refine c_seq ?_
        refine c_any [⟨[], [], [0], [43], fun f => f 43 = .agg #[Ix (x.tick), .slice p2 (es.length) (c3)]⟩, ⟨[], [], [1], [44], fun f => f 44 = .int .u16 (((at_ : Nat)) : Int)⟩, ⟨[1], [1], [], [45], fun f => f 45 = Nx (at_)⟩, ⟨[], [], [2], [46], fun f => f 46 = Nx (numsTo es es.length)⟩, ⟨[1, 2, 3], [2, 3], [], [47], fun f => f 47 = Nx (at_ % (numsTo es es.length))⟩, ⟨[], [], [3], [48], fun f => f 48 = Ix (bb)⟩, ⟨[0, 1, 2, 3, 4, 5], [0, 4, 5], [], [49], fun f => f 49 = .tuple #[.agg #[Ix (x.tick), .slice (sla (prt 1 (prt 0 (f 49)))) (es.length) (slc (prt 1 (prt 0 (f 49))))], Ix ((intv (prt 1 (f 49)))), Ix ((intv (prt 2 (f 49))))]⟩, ⟨[0, 1, 2, 3, 4, 5, 6], [6], [], [42, 49], fun f => f 42 = .tuple #[.agg #[Ix (x.tick), .slice (sla (prt 1 (prt 0 (f 49)))) (es.length) (slc (prt 1 (prt 0 (f 49))))], Ix ((intv (prt 1 (f 49)))), Ix ((intv (prt 2 (f 49))))]⟩, ⟨[0, 1, 2, 3, 4, 5, 6, 7], [7], [], [49, 50], fun f => f 50 = .agg #[Ix (x.tick), .slice (sla (prt 1 (prt 0 (f 49)))) (es.length) (slc (prt 1 (prt 0 (f 49))))]⟩, ⟨[0, 1, 2, 3, 4, 5, 6, 7], [7], [], [49, 51], fun f => f 51 = Ix ((intv (prt 1 (f 49))))⟩, ⟨[0, 1, 2, 3, 4, 5, 6, 7], [7], [], [49, 52], fun f => f 52 = Ix ((intv (prt 2 (f 49))))⟩, ⟨[], [], [], [10], fun f => f 10 = .pointer (some ⟨(blk (f 10)), 0, none⟩)⟩, ⟨[0, 1, 2, 3, 4, 5, 6, 7, 8, 11], [11, 8], [], [], fun _ => True⟩, ⟨[0, 1, 2, 3, 4, 5, 6, 7, 8, 9, 11, 12], [9], [], [11, 49], fun f => f 11 = Ix ((intv (prt 1 (f 49))))⟩, ⟨[0, 1, 2, 3, 4, 5, 6, 7, 8, 9, 10, 11, 12, 13], [10], [], [12, 49], fun f => f 12 = Ix ((intv (prt 2 (f 49))))⟩] [⟨none, none, [], [], fun _ => row v26 3 1 ((differU (⟨x.tick, es⟩ : KWorld) (⟨IntKind.i64.wrap ((x.tick) + (bb)), es⟩ : KWorld)).length) (((differU (⟨x.tick, es⟩ : KWorld) (⟨IntKind.i64.wrap ((x.tick) + (bb)), es⟩ : KWorld)).map fun z => Ix z))⟩, ⟨none, none, [], [], fun _ => pt b25 (.cells #[Ix (IntKind.i64.wrap ((x.tick) + (bb))), .slice p2 (es.length) (c3)] 24)⟩, ⟨none, none, [0], [], fun _ => pt b1 (.cells #[Ix (x.tick), .slice p2 (es.length) (c3)] 24)⟩, ⟨(some 6), none, [], [49], fun f => chgR es (.slice (sla (prt 1 (prt 0 (f 49)))) (es.length) (slc (prt 1 (prt 0 (f 49))))) (intv (prt 1 (f 49))) (intv (prt 2 (f 49)))⟩, ⟨(some 11), (some 12), [12], [10], fun f => pt (blk (f 10)) (.cells #[.int .i64 (0), .slice none 0 0] 24)⟩, ⟨(some 12), none, [], [10, 49], fun f => pt (blk (f 10)) (.cells #[Ix (x.tick), .slice (sla (prt 1 (prt 0 (f 49)))) (es.length) (slc (prt 1 (prt 0 (f 49))))] 24)⟩] [(3, .pointer (some ⟨b1, 0, none⟩)), (1, .int .u16 (((at_ : Nat)) : Int)), (9, Nx (numsTo es es.length)), (2, Ix (bb)), (8, Ux (worldU (⟨x.tick, es⟩ : KWorld)))] [0, 4] [] (by kernel_rfl) (by kernel_rfl) (by kernel_rfl) (by kernel_rfl) rfl ⟨rfl, rfl, rfl, rfl, rfl, trivial⟩ ⟨?_, ?_, ?_, ?_, ?_, ?_, ?_, ?_, ?_, ?_, ?_, ?_, ?_, ?_, ?_, trivial⟩ ?_
        · rintro f M - ⟨i0, -⟩
          have hs3 : f 3 = .pointer (some ⟨b1, 0, none⟩) := i0
          refine ob_start (L' := pt b1 (.cells #[Ix (x.tick), .slice p2 (es.length) (c3)] 24) :: M) (by rfl) (up_cons rfl hs3) ?_
          refine l_val (v := .agg #[Ix (x.tick), .slice p2 (es.length) (c3)]) rfl rfl rfl (e_load tf46 (cs := [Ix (x.tick), .slice p2 (es.length) (c3)]) rfl (k_pt 0 (cs := #[Ix (x.tick), .slice p2 (es.length) (c3)]) (vs := [Ix (x.tick), .slice p2 (es.length) (c3)]) rfl rfl) rfl) ?_
          refine l_nil ?_
          exact f_owes_d (up_cons rfl hs3) rfl (perm_front 0 rfl)
        · rintro f M - ⟨i0, -⟩
          have hs1 : f 1 = .int .u16 (((at_ : Nat)) : Int) := i0
          refine ob_start (L' := M) (by rfl) (up_cons rfl hs1) ?_
          refine l_val (v := .int .u16 (((at_ : Nat)) : Int)) rfl rfl rfl (e_move) ?_
          refine l_nil ?_
          exact f_owes_d (up_cons rfl hs1) rfl (List.Perm.refl _)
        · rintro f M ⟨k0, -⟩ -
          have hs44 : f 44 = .int .u16 (((at_ : Nat)) : Int) := k0
          refine ob_start (L' := M) (by rfl) (up_cons rfl hs44) ?_
          refine l_val (v := Nx (at_)) rfl rfl rfl (e_conv (a := ((at_ : Nat) : Int)) rfl ⟨_, tf64⟩ tf1 (i64n rfl (by omega))) ?_
          refine l_nil ?_
          exact f_owes_d (up_cons rfl hs44) rfl (List.Perm.refl _)
        · rintro f M - ⟨i0, -⟩
          have hs9 : f 9 = Nx (numsTo es es.length) := i0
          refine ob_start (L' := M) (by rfl) (up_cons rfl hs9) ?_
          refine l_val (v := Nx (numsTo es es.length)) rfl rfl rfl (e_move) ?_
          refine l_nil ?_
          exact f_owes_d (up_cons rfl hs9) rfl (List.Perm.refl _)
        · rintro f M ⟨k0, k1, -⟩ -
          have hs45 : f 45 = Nx (at_) := k0
          have hs46 : f 46 = Nx (numsTo es es.length) := k1
          refine ob_start (L' := M) (by rfl) (up_cons (up_cons rfl hs45) hs46) ?_
          refine l_val (v := Nx (at_ % (numsTo es es.length))) rfl rfl rfl (e_rem (a := ((at_ : Nat) : Int)) (b := ((numsTo es es.length : Nat) : Int)) rfl rfl (by omega) (nat_tmod _ _)) ?_
          refine l_nil ?_
          exact f_owes_d (up_cons (up_cons rfl hs45) hs46) rfl (List.Perm.refl _)
        · rintro f M - ⟨i0, -⟩
          have hs2 : f 2 = Ix (bb) := i0
          refine ob_start (L' := M) (by rfl) (up_cons rfl hs2) ?_
          refine l_val (v := Ix (bb)) rfl rfl rfl (e_move) ?_
          refine l_nil ?_
          exact f_owes_d (up_cons rfl hs2) rfl (List.Perm.refl _)
        · rintro f M ⟨k0, k1, k2, -⟩ -
          have hs43 : f 43 = .agg #[Ix (x.tick), .slice p2 (es.length) (c3)] := k0
          have hs47 : f 47 = Nx (at_ % (numsTo es es.length)) := k1
          have hs48 : f 48 = Ix (bb) := k2
          refine ob_start (L' := M) (by rfl) (up_cons (up_cons (up_cons rfl hs43) hs47) hs48) ?_
          refine l_call rfl rfl rfl (cl_value (fst := []) (cap := []) (vs := [.agg #[Ix (x.tick), .slice p2 (es.length) (c3)], Nx (at_ % (numsTo es es.length)), Ix (bb)]) (all := [.agg #[Ix (x.tick), .slice p2 (es.length) (c3)], Nx (at_ % (numsTo es es.length)), Ix (bb)]) tf78 rfl rfl rfl) ?_
          intro w hw
          obtain ⟨β1, sb, kn, hw1, back⟩ := St.frame_all hw
          refine (changed_res β1 w hw1 x.tick es _ (Sl.mono _ _ _ _ _ sb (⟨⟨_, _, rfl, p2l, p2m, p2e⟩⟩ : Sl EntR _ _ es)) hesb hesl (at_ % (numsTo es es.length)) (Nat.mod_lt _ (by omega)) bb hbbr hbb0).mono ?_
          rintro e w' ⟨p33, c34, a35, b36, rfl, hw'⟩
          refine ⟨_, rfl, _, back _ _ hw', ?_⟩
          clear hw hw1 hw' back kn sb
          refine l_nil ?_
          exact f_owes_d (up_cons (up_cons (up_cons rfl hs43) hs47) hs48) rfl (perm_front 0 rfl)
        · rintro f M ⟨k0, -⟩ -
          have hs49 : f 49 = .tuple #[.agg #[Ix (x.tick), .slice (sla (prt 1 (prt 0 (f 49)))) (es.length) (slc (prt 1 (prt 0 (f 49))))], Ix ((intv (prt 1 (f 49)))), Ix ((intv (prt 2 (f 49))))] := k0
          refine ob_start (L' := M) (by rfl) (up_cons rfl hs49) ?_
          refine l_val (v := .tuple #[.agg #[Ix (x.tick), .slice (sla (prt 1 (prt 0 (f 49)))) (es.length) (slc (prt 1 (prt 0 (f 49))))], Ix ((intv (prt 1 (f 49)))), Ix ((intv (prt 2 (f 49))))]) rfl rfl rfl (e_move) ?_
          refine l_nil ?_
          exact f_owes_d (up_cons rfl hs49) rfl (List.Perm.refl _)
        · rintro f M ⟨k0, -⟩ -
          have hs42 : f 42 = .tuple #[.agg #[Ix (x.tick), .slice (sla (prt 1 (prt 0 (f 49)))) (es.length) (slc (prt 1 (prt 0 (f 49))))], Ix ((intv (prt 1 (f 49)))), Ix ((intv (prt 2 (f 49))))] := k0
          refine ob_start (L' := M) (by rfl) (up_cons rfl hs42) ?_
          refine l_val (v := .agg #[Ix (x.tick), .slice (sla (prt 1 (prt 0 (f 49)))) (es.length) (slc (prt 1 (prt 0 (f 49))))]) rfl rfl rfl (e_extract (vs := #[.agg #[Ix (x.tick), .slice (sla (prt 1 (prt 0 (f 49)))) (es.length) (slc (prt 1 (prt 0 (f 49))))], Ix ((intv (prt 1 (f 49)))), Ix ((intv (prt 2 (f 49))))]) rfl rfl) ?_
          refine l_nil ?_
          exact f_owes_d (up_cons rfl hs42) rfl (List.Perm.refl _)
        · rintro f M ⟨k0, -⟩ -
          have hs42 : f 42 = .tuple #[.agg #[Ix (x.tick), .slice (sla (prt 1 (prt 0 (f 49)))) (es.length) (slc (prt 1 (prt 0 (f 49))))], Ix ((intv (prt 1 (f 49)))), Ix ((intv (prt 2 (f 49))))] := k0
          refine ob_start (L' := M) (by rfl) (up_cons rfl hs42) ?_
          refine l_val (v := Ix ((intv (prt 1 (f 49))))) rfl rfl rfl (e_extract (vs := #[.agg #[Ix (x.tick), .slice (sla (prt 1 (prt 0 (f 49)))) (es.length) (slc (prt 1 (prt 0 (f 49))))], Ix ((intv (prt 1 (f 49)))), Ix ((intv (prt 2 (f 49))))]) rfl rfl) ?_
          refine l_nil ?_
          exact f_owes_d (up_cons rfl hs42) rfl (List.Perm.refl _)
        · rintro f M ⟨k0, -⟩ -
          have hs42 : f 42 = .tuple #[.agg #[Ix (x.tick), .slice (sla (prt 1 (prt 0 (f 49)))) (es.length) (slc (prt 1 (prt 0 (f 49))))], Ix ((intv (prt 1 (f 49)))), Ix ((intv (prt 2 (f 49))))] := k0
          refine ob_start (L' := M) (by rfl) (up_cons rfl hs42) ?_
          refine l_val (v := Ix ((intv (prt 2 (f 49))))) rfl rfl rfl (e_extract (vs := #[.agg #[Ix (x.tick), .slice (sla (prt 1 (prt 0 (f 49)))) (es.length) (slc (prt 1 (prt 0 (f 49))))], Ix ((intv (prt 1 (f 49)))), Ix ((intv (prt 2 (f 49))))]) rfl rfl) ?_
          refine l_nil ?_
          exact f_owes_d (up_cons rfl hs42) rfl (List.Perm.refl _)
        · rintro f M - -
          refine ob_start (L' := M) (by rfl) rfl ?_
          refine l_mv rfl rfl rfl (m_alloc tf49) ?_
          rintro _ _ ⟨b38, rfl, rfl⟩
          refine l_nil ?_
          exact f_owes_d rfl rfl (perm_front 0 rfl)
        · rintro f M ⟨k0, k1, -⟩ -
          have hs10 : f 10 = .pointer (some ⟨(blk (f 10)), 0, none⟩) := k0
          have hs50 : f 50 = .agg #[Ix (x.tick), .slice (sla (prt 1 (prt 0 (f 49)))) (es.length) (slc (prt 1 (prt 0 (f 49))))] := k1
          refine ob_start (L' := pt (blk (f 10)) (.cells #[.int .i64 (0), .slice none 0 0] 24) :: M) (by rfl) (up_cons (up_cons rfl hs10) hs50) ?_
          refine l_mu rfl rfl (m_store 0 tf46 (b := (blk (f 10))) (o := 0) (T := 24) (cs := #[.int .i64 (0), .slice none 0 0]) (cs' := #[Ix (x.tick), .slice (sla (prt 1 (prt 0 (f 49)))) (es.length) (slc (prt 1 (prt 0 (f 49))))]) (v := .agg #[Ix (x.tick), .slice (sla (prt 1 (prt 0 (f 49)))) (es.length) (slc (prt 1 (prt 0 (f 49))))]) rfl rfl rfl rfl rfl rfl rfl) ?_
          refine l_nil ?_
          exact f_owes_n (up_cons (up_cons rfl hs10) hs50) trivial (perm_front 0 rfl)
        · rintro f M ⟨k0, -⟩ -
          have hs51 : f 51 = Ix ((intv (prt 1 (f 49)))) := k0
          refine ob_start (L' := M) (by rfl) (up_cons rfl hs51) ?_
          refine l_val (v := Ix ((intv (prt 1 (f 49))))) rfl rfl rfl (e_assign) ?_
          refine l_nil ?_
          exact f_owes_d (up_cons rfl hs51) rfl (List.Perm.refl _)
        · rintro f M ⟨k0, -⟩ -
          have hs52 : f 52 = Ix ((intv (prt 2 (f 49)))) := k0
          refine ob_start (L' := M) (by rfl) (up_cons rfl hs52) ?_
          refine l_val (v := Ix ((intv (prt 2 (f 49))))) rfl rfl rfl (e_assign) ?_
          refine l_nil ?_
          exact f_owes_d (up_cons rfl hs52) rfl (List.Perm.refl _)
        rintro fa39 ⟨-, -, -, -, -, -, -, -, -, -, -, k11, -, k13, k14, -⟩ ⟨j0, j1, -⟩
        refine f_re (L' := [row v26 3 1 ((differU (⟨x.tick, es⟩ : KWorld) (⟨IntKind.i64.wrap ((x.tick) + (bb)), es⟩ : KWorld)).length) (((differU (⟨x.tick, es⟩ : KWorld) (⟨IntKind.i64.wrap ((x.tick) + (bb)), es⟩ : KWorld)).map fun z => Ix z)), pt b25 (.cells #[Ix (IntKind.i64.wrap ((x.tick) + (bb))), .slice p2 (es.length) (c3)] 24), pt b1 (.cells #[Ix (x.tick), .slice p2 (es.length) (c3)] 24), chgR es (.slice (sla (prt 1 (prt 0 (fa39 49)))) (es.length) (slc (prt 1 (prt 0 (fa39 49))))) (intv (prt 1 (fa39 49))) (intv (prt 2 (fa39 49))), pt (blk (fa39 10)) (.cells #[Ix (x.tick), .slice (sla (prt 1 (prt 0 (fa39 49)))) (es.length) (slc (prt 1 (prt 0 (fa39 49))))] 24)]) (by rfl) ?_
        refine f_rebase (d := 3) (v := .pointer (some ⟨b1, 0, none⟩)) j0 ?_
        refine f_rebase (d := 8) (v := Ux (worldU (⟨x.tick, es⟩ : KWorld))) j1 ?_
        refine f_rebase (d := 10) (v := .pointer (some ⟨(blk (fa39 10)), 0, none⟩)) k11 ?_
        refine f_rebase (d := 11) (v := Ix ((intv (prt 1 (fa39 49))))) k13 ?_
        refine f_rebase (d := 12) (v := Ix ((intv (prt 2 (fa39 49))))) k14 ?_
        refine f_then ?_
        refine c_seq ?_
        refine c_perm (L' := [row v26 3 1 ((differU (⟨x.tick, es⟩ : KWorld) (⟨IntKind.i64.wrap ((x.tick) + (bb)), es⟩ : KWorld)).length) (((differU (⟨x.tick, es⟩ : KWorld) (⟨IntKind.i64.wrap ((x.tick) + (bb)), es⟩ : KWorld)).map fun z => Ix z)), pt b25 (.cells #[Ix (IntKind.i64.wrap ((x.tick) + (bb))), .slice p2 (es.length) (c3)] 24), pt b1 (.cells #[Ix (x.tick), .slice p2 (es.length) (c3)] 24), pt (blk (fa39 10)) (.cells #[Ix (x.tick), .slice (sla (prt 1 (prt 0 (fa39 49)))) (es.length) (slc (prt 1 (prt 0 (fa39 49))))] 24), chgR es (.slice (sla (prt 1 (prt 0 (fa39 49)))) (es.length) (slc (prt 1 (prt 0 (fa39 49))))) (intv (prt 1 (fa39 49))) (intv (prt 2 (fa39 49)))]) (((((perm_front 3 rfl).trans (perm_front 4 rfl)).trans (perm_front 4 rfl)).trans (perm_front 4 rfl)).trans (perm_front 4 rfl)) ?_
        refine c_freeze (M := [row v26 3 1 ((differU (⟨x.tick, es⟩ : KWorld) (⟨IntKind.i64.wrap ((x.tick) + (bb)), es⟩ : KWorld)).length) (((differU (⟨x.tick, es⟩ : KWorld) (⟨IntKind.i64.wrap ((x.tick) + (bb)), es⟩ : KWorld)).map fun z => Ix z)), pt b25 (.cells #[Ix (IntKind.i64.wrap ((x.tick) + (bb))), .slice p2 (es.length) (c3)] 24), pt b1 (.cells #[Ix (x.tick), .slice p2 (es.length) (c3)] 24), pt (blk (fa39 10)) (.cells #[Ix (x.tick), .slice (sla (prt 1 (prt 0 (fa39 49)))) (es.length) (slc (prt 1 (prt 0 (fa39 49))))] 24)]) (K := [chgR es (.slice (sla (prt 1 (prt 0 (fa39 49)))) (es.length) (slc (prt 1 (prt 0 (fa39 49))))) (intv (prt 1 (fa39 49))) (intv (prt 2 (fa39 49)))]) rfl (fun β₂ ext₂ kn₂ => ?_)
        obtain ⟨ck, e, e', hce, hcne, hca, hcb, hcs⟩ := kn₂ _ (Knows.of_res 0 rfl (chgR.mono _ _ _ _) fun _ h => h)
        replace p2e := Elems.mono EntR _ _ _ _ ext₂.sub p2e
        refine c_region ?_
        refine l_val (v := .agg #[Ix (x.tick), .slice p2 (es.length) (c3)]) rfl rfl rfl (e_load tf46 (cs := [Ix (x.tick), .slice p2 (es.length) (c3)]) rfl (k_pt 2 (cs := #[Ix (x.tick), .slice p2 (es.length) (c3)]) (vs := [Ix (x.tick), .slice p2 (es.length) (c3)]) rfl rfl) rfl) ?_
        refine l_val (v := .agg #[Ix (x.tick), .slice (sla (prt 1 (prt 0 (fa39 49)))) (es.length) (slc (prt 1 (prt 0 (fa39 49))))]) rfl rfl rfl (e_load tf46 (cs := [Ix (x.tick), .slice (sla (prt 1 (prt 0 (fa39 49)))) (es.length) (slc (prt 1 (prt 0 (fa39 49))))]) rfl (k_pt 3 (cs := #[Ix (x.tick), .slice (sla (prt 1 (prt 0 (fa39 49)))) (es.length) (slc (prt 1 (prt 0 (fa39 49))))]) (vs := [Ix (x.tick), .slice (sla (prt 1 (prt 0 (fa39 49)))) (es.length) (slc (prt 1 (prt 0 (fa39 49))))]) rfl rfl) rfl) ?_
        refine l_call rfl rfl rfl (cl_value (fst := []) (cap := []) (vs := [.agg #[Ix (x.tick), .slice p2 (es.length) (c3)], .agg #[Ix (x.tick), .slice (sla (prt 1 (prt 0 (fa39 49)))) (es.length) (slc (prt 1 (prt 0 (fa39 49))))]]) (all := [.agg #[Ix (x.tick), .slice p2 (es.length) (c3)], .agg #[Ix (x.tick), .slice (sla (prt 1 (prt 0 (fa39 49)))) (es.length) (slc (prt 1 (prt 0 (fa39 49))))]]) tf61 rfl rfl rfl) ?_
        intro w hw
        obtain ⟨β1, sb, kn, hw1, back⟩ := St.frame_all hw
        refine (differ_ok β1 w hw1 (⟨x.tick, es⟩ : KWorld) (⟨x.tick, es.set ck e'⟩ : KWorld) _ _ (Sl.mono _ _ _ _ _ sb (⟨⟨_, _, rfl, p2l, p2m, p2e⟩⟩ : Sl EntR _ _ es)) (Sl.mono _ _ _ _ _ sb hcs) (show es.length ≤ 1000000 from (by first | omega | (simp; omega))) (show (es.set ck e').length ≤ 1000000 from (by first | omega | (simp; omega)))).mono ?_
        rintro e w' ⟨v40, rfl, hw'⟩
        refine ⟨_, rfl, _, back _ _ hw', ?_⟩
        clear hw hw1 hw' back kn sb
        refine l_val (v := v40) rfl rfl rfl (e_assign) ?_
        refine l_nil ?_
        refine f_then ?_
        refine c_seq ?_
        refine c_seq ?_
        refine c_region ?_
        refine l_val (v := .agg #[Ix (x.tick), .slice (sla (prt 1 (prt 0 (fa39 49)))) (es.length) (slc (prt 1 (prt 0 (fa39 49))))]) rfl rfl rfl (e_load tf46 (cs := [Ix (x.tick), .slice (sla (prt 1 (prt 0 (fa39 49)))) (es.length) (slc (prt 1 (prt 0 (fa39 49))))]) rfl (k_pt 4 (cs := #[Ix (x.tick), .slice (sla (prt 1 (prt 0 (fa39 49)))) (es.length) (slc (prt 1 (prt 0 (fa39 49))))]) (vs := [Ix (x.tick), .slice (sla (prt 1 (prt 0 (fa39 49)))) (es.length) (slc (prt 1 (prt 0 (fa39 49))))]) rfl rfl) rfl) ?_
        refine l_call rfl rfl rfl (cl_value (fst := []) (cap := []) (vs := [.agg #[Ix (x.tick), .slice (sla (prt 1 (prt 0 (fa39 49)))) (es.length) (slc (prt 1 (prt 0 (fa39 49))))]]) (all := [.agg #[Ix (x.tick), .slice (sla (prt 1 (prt 0 (fa39 49)))) (es.length) (slc (prt 1 (prt 0 (fa39 49))))]]) tf59 rfl rfl rfl) ?_
        intro w hw
        obtain ⟨β1, sb, kn, hw1, back⟩ := St.frame_all hw
        refine (world_ok β1 w hw1 (⟨x.tick, es.set ck e'⟩ : KWorld) _ (Sl.mono _ _ _ _ _ sb hcs)).mono ?_
        rintro e w' ⟨rfl, hw'⟩
        refine ⟨_, rfl, _, back _ _ hw', ?_⟩
        clear hw hw1 hw' back kn sb
        refine l_val (v := Ux (worldU (⟨x.tick, es⟩ : KWorld))) rfl rfl rfl (e_move) ?_
        refine l_val (v := .bool (decide (((worldU (⟨x.tick, es.set ck e'⟩ : KWorld)).toNat : Int) = ((worldU (⟨x.tick, es⟩ : KWorld)).toNat : Int)))) rfl rfl rfl (e_eql (a := ((worldU (⟨x.tick, es.set ck e'⟩ : KWorld)).toNat : Int)) (b := ((worldU (⟨x.tick, es⟩ : KWorld)).toNat : Int)) rfl rfl) ?_
        refine l_nil ?_
        refine f_then ?_
        refine c_if (((worldU (⟨x.tick, es.set ck e'⟩ : KWorld)).toNat : Int) = ((worldU (⟨x.tick, es⟩ : KWorld)).toNat : Int)) rfl (fun hc41 => ?_) (fun hc41 => ?_)
        ·
          exact absurd hc41 (fun h => world_set_ne hce hcne (UInt64.toNat_inj.1 (Int.ofNat_inj.1 h)))
        ·
          refine c_skip ?_
          refine f_then ?_
          refine c_seq ?_
          refine c_seq ?_
          refine c_region ?_
          refine l_val (v := Ix ((intv (prt 1 (fa39 49))))) rfl rfl rfl (e_move) ?_
          refine l_val (v := Ix ((intv (prt 2 (fa39 49))))) rfl rfl rfl (e_move) ?_
          refine l_val (v := .bool (decide (((intv (prt 1 (fa39 49)))) = ((intv (prt 2 (fa39 49))))))) rfl rfl rfl (e_eql (a := ((intv (prt 1 (fa39 49))))) (b := ((intv (prt 2 (fa39 49))))) rfl rfl) ?_
          refine l_nil ?_
          refine f_then ?_
          refine c_if (((intv (prt 1 (fa39 49)))) = ((intv (prt 2 (fa39 49))))) rfl (fun hc42 => ?_) (fun hc42 => ?_)
          ·
            refine c_seq ?_
            refine c_region ?_
            refine l_val (v := v40) rfl rfl rfl (e_move) ?_
            refine l_val (v := Ix ((intv (prt 1 (fa39 49))))) rfl rfl rfl (e_move) ?_
            refine l_mv rfl rfl rfl (m_slices tf39 tf52 (vs := [(0, Ix ((intv (prt 1 (fa39 49)))))]) (cells := #[Ix ((intv (prt 1 (fa39 49))))]) rfl rfl rfl rfl) ?_
            rintro _ _ ⟨b43, rfl, rfl⟩
            refine l_call rfl rfl rfl (cl_value (fst := []) (cap := []) (vs := [v40, .slice (some ⟨b43, 0, none⟩) 1 1]) (all := [v40, .slice (some ⟨b43, 0, none⟩) 1 1]) tf62 rfl rfl rfl) ?_
            intro w hw
            obtain ⟨β1, sb, kn, hw1, back⟩ := St.frame_all hw
            refine (sameInts_ok β1 w hw1 _ _ (differU (⟨x.tick, es⟩ : KWorld) (⟨x.tick, es.set ck e'⟩ : KWorld)) [((intv (prt 1 (fa39 49))))] (kn (fun h => Sl IntR h _ (differU (⟨x.tick, es⟩ : KWorld) (⟨x.tick, es.set ck e'⟩ : KWorld))) (Knows.of_res 1 rfl (fun _ _ hs h => Sl.mono IntR _ _ _ _ hs h) fun _ h => row_slI h)) (kn (fun h => Sl IntR h _ [((intv (prt 1 (fa39 49))))]) (Knows.of_res 0 rfl (fun _ _ hs h => Sl.mono IntR _ _ _ _ hs h) fun _ h => pt_slI (xs := [((intv (prt 1 (fa39 49))))]) h rfl rfl))).mono ?_
            rintro e w' ⟨rfl, hw'⟩
            refine ⟨_, rfl, _, back _ _ hw', ?_⟩
            clear hw hw1 hw' back kn sb
            refine l_val (v := .bool (decide ((differU (⟨x.tick, es⟩ : KWorld) (⟨x.tick, es.set ck e'⟩ : KWorld)) = [((intv (prt 1 (fa39 49))))]))) rfl rfl rfl (e_move) ?_
            refine l_split (s := 67) (p := (differU (⟨x.tick, es⟩ : KWorld) (⟨x.tick, es.set ck e'⟩ : KWorld)) = [((intv (prt 1 (fa39 49))))]) rfl (fun h => ?_) (fun h => ?_)
            rotate_left; exact absurd (by rw [differ_set hce hcne, if_pos (by omega)]; simp only [hca]) h
            refine g_call rfl rfl rfl rfl rfl (cl_value (fst := []) (cap := []) (vs := []) (all := []) tf63 rfl rfl rfl) ?_
            intro w hw
            obtain ⟨β1, sb, kn, hw1, back⟩ := St.frame_all hw
            refine (awake_ok β1 w hw1).mono ?_
            rintro e w' ⟨rfl, hw'⟩
            refine ⟨_, rfl, _, back _ _ hw', ?_⟩
            clear hw hw1 hw' back kn sb
            refine l_val (v := .bool true) rfl rfl rfl (e_pick_t rfl) ?_
            refine l_val (v := .bool true) rfl rfl rfl (e_assign) ?_
            refine l_nil ?_
            refine f_then ?_
            refine c_ret ?_
            refine f_then_ret ?_
            refine ret1 Try.results4 (v := .bool true) rfl ?_
            intro w hw
            exact ⟨rfl, St.weaken ext₁ (St.weaken ext₂ (st_mask [false, false, false, false, false, false] rfl hw))⟩
          ·
            refine c_skip ?_
            refine f_then ?_
            refine c_seq ?_
            refine c_region ?_
            refine l_val (v := v40) rfl rfl rfl (e_move) ?_
            refine l_val (v := Ix ((intv (prt 1 (fa39 49))))) rfl rfl rfl (e_move) ?_
            refine l_val (v := Ix ((intv (prt 2 (fa39 49))))) rfl rfl rfl (e_move) ?_
            refine l_val (v := Ix (min ((intv (prt 1 (fa39 49)))) ((intv (prt 2 (fa39 49)))))) rfl rfl rfl (e_min (a := ((intv (prt 1 (fa39 49))))) (b := ((intv (prt 2 (fa39 49))))) rfl rfl) ?_
            refine l_val (v := Ix ((intv (prt 1 (fa39 49))))) rfl rfl rfl (e_move) ?_
            refine l_val (v := Ix ((intv (prt 2 (fa39 49))))) rfl rfl rfl (e_move) ?_
            refine l_val (v := Ix (max ((intv (prt 1 (fa39 49)))) ((intv (prt 2 (fa39 49)))))) rfl rfl rfl (e_max (a := ((intv (prt 1 (fa39 49))))) (b := ((intv (prt 2 (fa39 49))))) rfl rfl) ?_
            refine l_mv rfl rfl rfl (m_slices tf39 tf52 (vs := [(0, Ix (min ((intv (prt 1 (fa39 49)))) ((intv (prt 2 (fa39 49)))))), (1, Ix (max ((intv (prt 1 (fa39 49)))) ((intv (prt 2 (fa39 49))))))]) (cells := #[Ix (min ((intv (prt 1 (fa39 49)))) ((intv (prt 2 (fa39 49))))), Ix (max ((intv (prt 1 (fa39 49)))) ((intv (prt 2 (fa39 49)))))]) rfl rfl rfl rfl) ?_
            rintro _ _ ⟨b44, rfl, rfl⟩
            refine l_call rfl rfl rfl (cl_value (fst := []) (cap := []) (vs := [v40, .slice (some ⟨b44, 0, none⟩) 2 2]) (all := [v40, .slice (some ⟨b44, 0, none⟩) 2 2]) tf62 rfl rfl rfl) ?_
            intro w hw
            obtain ⟨β1, sb, kn, hw1, back⟩ := St.frame_all hw
            refine (sameInts_ok β1 w hw1 _ _ (differU (⟨x.tick, es⟩ : KWorld) (⟨x.tick, es.set ck e'⟩ : KWorld)) [(min ((intv (prt 1 (fa39 49)))) ((intv (prt 2 (fa39 49))))), (max ((intv (prt 1 (fa39 49)))) ((intv (prt 2 (fa39 49)))))] (kn (fun h => Sl IntR h _ (differU (⟨x.tick, es⟩ : KWorld) (⟨x.tick, es.set ck e'⟩ : KWorld))) (Knows.of_res 1 rfl (fun _ _ hs h => Sl.mono IntR _ _ _ _ hs h) fun _ h => row_slI h)) (kn (fun h => Sl IntR h _ [(min ((intv (prt 1 (fa39 49)))) ((intv (prt 2 (fa39 49))))), (max ((intv (prt 1 (fa39 49)))) ((intv (prt 2 (fa39 49)))))]) (Knows.of_res 0 rfl (fun _ _ hs h => Sl.mono IntR _ _ _ _ hs h) fun _ h => pt_slI (xs := [(min ((intv (prt 1 (fa39 49)))) ((intv (prt 2 (fa39 49))))), (max ((intv (prt 1 (fa39 49)))) ((intv (prt 2 (fa39 49)))))]) h rfl rfl))).mono ?_
            rintro e w' ⟨rfl, hw'⟩
            refine ⟨_, rfl, _, back _ _ hw', ?_⟩
            clear hw hw1 hw' back kn sb
            refine l_val (v := .bool (decide ((differU (⟨x.tick, es⟩ : KWorld) (⟨x.tick, es.set ck e'⟩ : KWorld)) = [(min ((intv (prt 1 (fa39 49)))) ((intv (prt 2 (fa39 49))))), (max ((intv (prt 1 (fa39 49)))) ((intv (prt 2 (fa39 49)))))]))) rfl rfl rfl (e_move) ?_
            refine l_split (s := 79) (p := (differU (⟨x.tick, es⟩ : KWorld) (⟨x.tick, es.set ck e'⟩ : KWorld)) = [(min ((intv (prt 1 (fa39 49)))) ((intv (prt 2 (fa39 49))))), (max ((intv (prt 1 (fa39 49)))) ((intv (prt 2 (fa39 49)))))]) rfl (fun h => ?_) (fun h => ?_)
            rotate_left; exact absurd (by rw [differ_set hce hcne, if_neg (by omega)]; simp only [hca, hcb]) h
            refine g_call rfl rfl rfl rfl rfl (cl_value (fst := []) (cap := []) (vs := []) (all := []) tf63 rfl rfl rfl) ?_
            intro w hw
            obtain ⟨β1, sb, kn, hw1, back⟩ := St.frame_all hw
            refine (awake_ok β1 w hw1).mono ?_
            rintro e w' ⟨rfl, hw'⟩
            refine ⟨_, rfl, _, back _ _ hw', ?_⟩
            clear hw hw1 hw' back kn sb
            refine l_val (v := .bool true) rfl rfl rfl (e_pick_t rfl) ?_
            refine l_val (v := .bool true) rfl rfl rfl (e_assign) ?_
            refine l_nil ?_
            refine f_then ?_
            refine c_ret ?_
            refine ret1 Try.results4 (v := .bool true) rfl ?_
            intro w hw
            exact ⟨rfl, St.weaken ext₁ (St.weaken ext₂ (st_mask [false, false, false, false, false, false] rfl hw))⟩
end Go.Proofs
