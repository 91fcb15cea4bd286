import Derived.Test.YtbfidhbcojbklaaDg3
namespace Go.Proofs
open Go Go.Sl
def entsU (d : UInt64) (es : List KEnt) : UInt64 := es.foldl (fun d e => d + entU e) d
def worldU (x : KWorld) : UInt64 := entsU (tickU x.tick) x.ents
theorem entsU_snoc {d : UInt64} {es : List KEnt} {k : Nat} {e : KEnt} (h : es[k]? = some e) : entsU d (es.take (k + 1)) = entsU d (es.take k) + entU e := by
  rw [take_succ h]; simp [entsU]
theorem tf26 : cfB Try.prog 20 = true := by kernel_rfl
theorem tf27 : fldB Try.prog 24 0 0 1 false = true := by kernel_rfl
theorem tf28 : cfB Try.prog 15 = true := by kernel_rfl
theorem tf29 : fldB Try.prog 24 1 1 1 false = true := by kernel_rfl
theorem tf30 : tyB Try.prog 22 false 1 = true := by kernel_rfl
theorem tf31 : Try.prog.underlying 22 = some (.slice 33) := by kernel_rfl
theorem tf32 : slB Try.prog 22 33 2 = true := by kernel_rfl
theorem tf33 : (Try.prog.info? 33).bind (·.zero) = some (.agg #[.int .i64 (0), .slice none 0 0]) := by kernel_rfl
theorem tf34 : cfB Try.prog 21 = true := by kernel_rfl
theorem with_ok (β : Base) (w : World) (hw : St β [] w) (d : UInt64) (e : KEnt) (v : Value) (hs : Sl CompR β.heap v e.comps) : Calls Try.prog 21 #[Ux d, .agg #[Ix e.id, v]] w fun r w' => r = .returned (Ux (d + entU e)) ∧ St β [] w' := by
  obtain ⟨va, vc, rfl, vl, vm, ve⟩ := hs.get
  refine enter (n := 9) Try.func21 rfl Try.ntmps21 rfl ?_ hw
  refine c_seq ?_
  refine c_region ?_
  refine l_mv rfl rfl rfl (m_box (v := .agg #[Ix (e.id), .slice va (e.comps.length) (vc)]) rfl) ?_
  rintro _ _ ⟨b1, rfl, rfl⟩
  refine l_val (v := .int .u64 (0)) rfl rfl rfl (e_assign) ?_
  refine l_nil ?_
  refine f_then ?_
  refine c_seq ?_
  refine c_region ?_
  refine l_val (v := Ux (d)) rfl rfl rfl (e_move) ?_
  refine l_val (v := .agg #[Ix (e.id), .slice va (e.comps.length) (vc)]) rfl rfl rfl (e_load tf24 (cs := [Ix (e.id), .slice va (e.comps.length) (vc)]) rfl (k_pt 0 (cs := #[Ix (e.id), .slice va (e.comps.length) (vc)]) (vs := [Ix (e.id), .slice va (e.comps.length) (vc)]) rfl rfl) rfl) ?_
  refine l_call rfl rfl rfl (cl_value (fst := []) (cap := []) (vs := [.agg #[Ix (e.id), .slice va (e.comps.length) (vc)]]) (all := [.agg #[Ix (e.id), .slice va (e.comps.length) (vc)]]) tf26 rfl rfl rfl) ?_
  intro w hw
  obtain ⟨β1, sb, kn, hw1, back⟩ := St.frame_all hw
  refine (entity_ok β1 w hw1 e _ (Sl.mono _ _ _ _ _ sb (⟨⟨_, _, rfl, vl, vm, ve⟩⟩ : Sl CompR _ _ e.comps))).mono ?_
  rintro e w' ⟨rfl, hw'⟩
  refine ⟨_, rfl, _, back _ _ hw', ?_⟩
  clear hw hw1 hw' back kn sb
  refine l_val (v := Ux (d + (entU e))) rfl rfl rfl (e_add (a := ((d).toNat : Int)) (b := ((entU e).toNat : Int)) rfl rfl (ux_add _ _)) ?_
  refine l_val (v := Ux (d + (entU e))) rfl rfl rfl (e_assign) ?_
  refine l_nil ?_
  refine f_then ?_
  refine c_ret ?_
  refine ret1 Try.results21 (v := Ux (d + (entU e))) rfl ?_
  intro w hw
  exact ⟨rfl, st_mask [false] rfl hw⟩
theorem without_ok (β : Base) (w : World) (hw : St β [] w) (d : UInt64) (e : KEnt) (v : Value) (hs : Sl CompR β.heap v e.comps) : Calls Try.prog 22 #[Ux d, .agg #[Ix e.id, v]] w fun r w' => r = .returned (Ux (d - entU e)) ∧ St β [] w' := by
  obtain ⟨va, vc, rfl, vl, vm, ve⟩ := hs.get
  refine enter (n := 9) Try.func22 rfl Try.ntmps22 rfl ?_ hw
  refine c_seq ?_
  refine c_region ?_
  refine l_mv rfl rfl rfl (m_box (v := .agg #[Ix (e.id), .slice va (e.comps.length) (vc)]) rfl) ?_
  rintro _ _ ⟨b1, rfl, rfl⟩
  refine l_val (v := .int .u64 (0)) rfl rfl rfl (e_assign) ?_
  refine l_nil ?_
  refine f_then ?_
  refine c_seq ?_
  refine c_region ?_
  refine l_val (v := Ux (d)) rfl rfl rfl (e_move) ?_
  refine l_val (v := .agg #[Ix (e.id), .slice va (e.comps.length) (vc)]) rfl rfl rfl (e_load tf24 (cs := [Ix (e.id), .slice va (e.comps.length) (vc)]) rfl (k_pt 0 (cs := #[Ix (e.id), .slice va (e.comps.length) (vc)]) (vs := [Ix (e.id), .slice va (e.comps.length) (vc)]) rfl rfl) rfl) ?_
  refine l_call rfl rfl rfl (cl_value (fst := []) (cap := []) (vs := [.agg #[Ix (e.id), .slice va (e.comps.length) (vc)]]) (all := [.agg #[Ix (e.id), .slice va (e.comps.length) (vc)]]) tf26 rfl rfl rfl) ?_
  intro w hw
  obtain ⟨β1, sb, kn, hw1, back⟩ := St.frame_all hw
  refine (entity_ok β1 w hw1 e _ (Sl.mono _ _ _ _ _ sb (⟨⟨_, _, rfl, vl, vm, ve⟩⟩ : Sl CompR _ _ e.comps))).mono ?_
  rintro e w' ⟨rfl, hw'⟩
  refine ⟨_, rfl, _, back _ _ hw', ?_⟩
  clear hw hw1 hw' back kn sb
  refine l_val (v := Ux (d - (entU e))) rfl rfl rfl (e_sub (a := ((d).toNat : Int)) (b := ((entU e).toNat : Int)) rfl rfl (ux_sub _ _)) ?_
  refine l_val (v := Ux (d - (entU e))) rfl rfl rfl (e_assign) ?_
  refine l_nil ?_
  refine f_then ?_
  refine c_ret ?_
  refine ret1 Try.results22 (v := Ux (d - (entU e))) rfl ?_
  intro w hw
  exact ⟨rfl, st_mask [false] rfl hw⟩
theorem world_ok (β : Base) (w : World) (hw : St β [] w) (x : KWorld) (v : Value) (hs : Sl EntR β.heap v x.ents) : Calls Try.prog 11 #[.agg #[Ix x.tick, v]] w fun r w' => r = .returned (Ux (worldU x)) ∧ St β [] w' := by
  obtain ⟨va, vc, rfl, vl, vm, ve⟩ := hs.get
  refine enter (n := 21) Try.func11 rfl Try.ntmps11 rfl ?_ hw
  refine c_seq ?_
  refine c_region ?_
  refine l_mv rfl rfl rfl (m_box (v := .agg #[Ix (x.tick), .slice va (x.ents.length) (vc)]) rfl) ?_
  rintro _ _ ⟨b1, rfl, rfl⟩
  refine l_val (v := .int .u64 (0)) rfl rfl rfl (e_assign) ?_
  refine l_nil ?_
  refine f_then ?_
  refine c_seq ?_
  refine c_region ?_
  refine l_val (v := .pointer (some ⟨b1, 0, none⟩)) rfl rfl rfl (e_fieldPt (b := b1) (o := 0) rfl tf27) ?_
  refine l_val (v := Ix (x.tick)) rfl rfl rfl (e_load1 tf10 (v := Ix (x.tick)) rfl (k_pt 0 (cs := #[Ix (x.tick), .slice va (x.ents.length) (vc)]) (vs := [Ix (x.tick)]) rfl rfl)) ?_
  refine l_call rfl rfl rfl (cl_value (fst := []) (cap := []) (vs := [Ix (x.tick)]) (all := [Ix (x.tick)]) tf28 rfl rfl rfl) ?_
  intro w hw
  obtain ⟨β1, sb, kn, hw1, back⟩ := St.frame_all hw
  refine (tick_ok β1 w hw1 (x.tick)).mono ?_
  rintro e w' ⟨rfl, hw'⟩
  refine ⟨_, rfl, _, back _ _ hw', ?_⟩
  clear hw hw1 hw' back kn sb
  refine l_val (v := Ux (tickU (x.tick))) rfl rfl rfl (e_assign) ?_
  refine l_nil ?_
  refine f_then ?_
  refine c_seq ?_
  refine c_seq ?_
  refine c_region ?_
  refine l_val (v := .pointer (some ⟨b1, 1, none⟩)) rfl rfl rfl (e_fieldPt (b := b1) (o := 0) rfl tf29) ?_
  refine l_val (v := .slice va (x.ents.length) (vc)) rfl rfl rfl (e_load1 tf30 (v := .slice va (x.ents.length) (vc)) rfl (k_pt 0 (cs := #[Ix (x.tick), .slice va (x.ents.length) (vc)]) (vs := [.slice va (x.ents.length) (vc)]) rfl rfl)) ?_
  refine l_val (v := Nx (x.ents.length)) rfl rfl rfl (e_len (a := va) (n := x.ents.length) (c := vc) rfl tf31) ?_
  refine l_val (v := .int .i64 (0)) rfl rfl rfl (e_move) ?_
  refine l_nil ?_
  refine f_then ?_
  refine c_block ?_
  refine c_mask [true] rfl ?_
  refine c_loop (fun (k : Nat) (f : Fm) (L : List Res) => (f 3 = Ux (entsU (tickU x.tick) (x.ents.take k)) ∧ f 10 = .slice va (x.ents.length) (vc) ∧ f 11 = Nx (x.ents.length) ∧ f 12 = Nx (k)) ∧ L = [pt b1 (.cells #[Ix (x.tick), .slice va (x.ents.length) (vc)] 24)] ∧ (k ≤ x.ents.length)) (fun (k : Nat) => x.ents.length - k) 0 ?_ ?_
  · exact ⟨⟨rfl, rfl, rfl, rfl⟩, rfl, (by omega)⟩
  rintro k f0 L0 ⟨⟨hs3, hs10, hs11, hs12⟩, hL, hk⟩
  subst L0
  refine rebase (d := 3) hs3 ?_
  refine rebase (d := 10) hs10 ?_
  refine rebase (d := 11) hs11 ?_
  refine rebase (d := 12) hs12 ?_
  clear hs3 hs10 hs11 hs12
  refine c_seq ?_
  refine c_region ?_
  refine l_val (v := .bool (decide (((k : Nat) : Int) < ((x.ents.length : Nat) : Int)))) rfl rfl rfl (e_lss (a := ((k : Nat) : Int)) (b := ((x.ents.length : Nat) : Int)) rfl rfl) ?_
  refine l_nil ?_
  refine f_then ?_
  refine c_seq ?_
  refine c_if (((k : Nat) : Int) < ((x.ents.length : Nat) : Int)) rfl (fun hc2 => ?_) (fun hc2 => ?_)
  ·
    refine c_skip ?_
    refine f_then ?_
    refine c_seq ?_
    refine c_block ?_
    refine c_seq ?_
    refine c_region ?_
    obtain ⟨x3, hx4⟩ : ∃ x_, (x.ents)[k]? = some x_ := ⟨_, List.getElem?_eq_getElem (by omega)⟩
    obtain ⟨ha5, cs6, hc7, hr8⟩ := ve _ _ hx4
    obtain ⟨v9, rfl, hv10⟩ := hr8
    obtain ⟨v9a, v9c, rfl, v9l, v9m, v9e⟩ := hv10.get
    refine l_val (v := .pointer (some ((ba va).add (k * 2)))) rfl rfl rfl (e_indexAddr (k := k) (len := x.ents.length) (cap := vc) (a := va) rfl rfl tf32 (by omega) ha5) ?_
    refine l_val (v := .agg #[Ix (x3.id), .slice v9a (x3.comps.length) (v9c)]) rfl rfl rfl (e_load tf24 (cs := [Ix (x3.id), .slice v9a (x3.comps.length) (v9c)]) rfl (Knows.of_base (Cs.mono _ _) hc7) rfl) ?_
    refine l_mv rfl rfl rfl (m_alloc tf33) ?_
    rintro _ _ ⟨b11, rfl, rfl⟩
    refine l_mu rfl rfl (m_store 0 tf24 (b := b11) (o := 0) (T := 33) (cs := #[.int .i64 (0), .slice none 0 0]) (cs' := #[Ix (x3.id), .slice v9a (x3.comps.length) (v9c)]) (v := .agg #[Ix (x3.id), .slice v9a (x3.comps.length) (v9c)]) rfl rfl rfl rfl rfl rfl rfl) ?_
    refine l_nil ?_
    refine f_then ?_
    refine c_region ?_
    refine l_val (v := Ux (entsU (tickU x.tick) (x.ents.take k))) rfl rfl rfl (e_move) ?_
    refine l_val (v := .agg #[Ix (x3.id), .slice v9a (x3.comps.length) (v9c)]) rfl rfl rfl (e_load tf24 (cs := [Ix (x3.id), .slice v9a (x3.comps.length) (v9c)]) rfl (k_pt 0 (cs := #[Ix (x3.id), .slice v9a (x3.comps.length) (v9c)]) (vs := [Ix (x3.id), .slice v9a (x3.comps.length) (v9c)]) rfl rfl) rfl) ?_
    refine l_call rfl rfl rfl (cl_value (fst := []) (cap := []) (vs := [Ux (entsU (tickU x.tick) (x.ents.take k)), .agg #[Ix (x3.id), .slice v9a (x3.comps.length) (v9c)]]) (all := [Ux (entsU (tickU x.tick) (x.ents.take k)), .agg #[Ix (x3.id), .slice v9a (x3.comps.length) (v9c)]]) tf34 rfl rfl rfl) ?_
    intro w hw
    obtain ⟨β1, sb, kn, hw1, back⟩ := St.frame_all hw
    refine (with_ok β1 w hw1 (entsU (tickU x.tick) (x.ents.take k)) x3 _ (Sl.mono _ _ _ _ _ sb (⟨⟨_, _, rfl, v9l, v9m, v9e⟩⟩ : Sl CompR _ _ x3.comps))).mono ?_
    rintro e w' ⟨rfl, hw'⟩
    refine ⟨_, rfl, _, back _ _ hw', ?_⟩
    clear hw hw1 hw' back kn sb
    refine l_val (v := Ux ((entsU (tickU x.tick) (x.ents.take k)) + entU x3)) rfl rfl rfl (e_assign) ?_
    refine l_nil ?_
    refine f_block ?_
    refine f_then ?_
    refine c_region ?_
    refine l_val (v := Nx (k + 1)) rfl rfl rfl (e_add (a := ((k : Nat) : Int)) (b := (1 : Int)) rfl rfl (i64n (by omega) (by omega))) ?_
    refine l_val (v := Nx (k + 1)) rfl rfl rfl (e_move) ?_
    refine l_nil ?_
    refine f_mask (L' := [pt b1 (.cells #[Ix (x.tick), .slice va (x.ents.length) (vc)] 24)]) [false, true] rfl ?_
    exact f_cut ⟨k + 1, ⟨⟨congrArg (fun z => Ux z) (entsU_snoc hx4).symm, rfl, rfl, rfl⟩, rfl, (by omega)⟩, (show x.ents.length - (k + 1) < x.ents.length - k from by omega)⟩
  ·
    refine c_exit ?_
    refine f_then_exit ?_
    refine f_then_exit ?_
    refine f_exit ?_
    refine f_then ?_
    refine c_seq ?_
    refine c_region ?_
    refine l_val (v := Ux (entsU (tickU x.tick) (x.ents.take k))) rfl rfl rfl (e_move) ?_
    refine l_val (v := Ux (entsU (tickU x.tick) (x.ents.take k))) rfl rfl rfl (e_assign) ?_
    refine l_nil ?_
    refine f_then ?_
    refine c_ret ?_
    refine ret1 Try.results11 (v := Ux (entsU (tickU x.tick) (x.ents.take k))) rfl ?_
    intro w hw
    exact ⟨by rw [worldU, List.take_of_length_le (show x.ents.length ≤ k by omega)], st_mask [false] rfl hw⟩
end Go.Proofs
