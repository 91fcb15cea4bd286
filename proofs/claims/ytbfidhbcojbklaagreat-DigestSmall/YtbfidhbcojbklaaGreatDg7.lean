/-
  Own work; plain Lean (Dg7).
-/
import Derived.Test.YtbfidhbcojbklaaGreatDg6
import Derived.Test.YtbfidhbcojbklaaGreatDgSort
namespace Go.Proofs
open Go Go.Sl
def dpick (x y : KWorld) (es : List KEnt) : List Int := (es.filter fun e => decide (¬ dg x.ents e.id = dg y.ents e.id)).map (·.id)
def outsK (x y : KWorld) : Nat → List Int
  | 0 => []
  | 1 => dpick x y x.ents
  | _ => dpick x y x.ents ++ dpick x y y.ents
def differU (x y : KWorld) : List Int := Lib.compact ((outsK x y 2).mergeSort fun x y => decide (x ≤ y))
theorem mapU_mono (b : Nat) (d : Int → List UInt64) : Mono (mapU b d) := fun _ _ hs ⟨ks, h, k⟩ => ⟨ks, mapR.mono KInt b ks _ _ hs h, fun i => Sl.mono U64R _ _ _ _ hs (k i)⟩
theorem dpick_le (x y : KWorld) (es : List KEnt) : (dpick x y es).length ≤ es.length := by
  have := List.length_filter_le (fun e : KEnt => decide (¬ dg x.ents e.id = dg y.ents e.id)) es
  simpa [dpick] using this
theorem outs_le (x y : KWorld) (k : Nat) (w : KWorld) (j : Nat) (hx : x.ents.length ≤ 1000000) (hy : y.ents.length ≤ 1000000) (hw : w = x ∨ w = y) : (outsK x y k ++ dpick x y (w.ents.take j)).length ≤ 3000000 := by
  have h1 := dpick_le x y x.ents
  have h2 := dpick_le x y y.ents
  have h3 := dpick_le x y (w.ents.take j)
  have h4 := List.length_take_le j w.ents
  have h5 := List.length_take_le' j w.ents
  have h6 : w.ents.length ≤ 1000000 := by rcases hw with rfl | rfl <;> assumption
  rw [List.length_append]
  match k with
  | 0 => simp [outsK]; omega
  | 1 => simp only [outsK]; omega
  | k + 2 => simp only [outsK, List.length_append]; omega
theorem outs_len (x y : KWorld) (hx : x.ents.length ≤ 1000000) (hy : y.ents.length ≤ 1000000) : (outsK x y 2).length ≤ 2000000 := by
  have h1 := dpick_le x y x.ents
  have h2 := dpick_le x y y.ents
  simp only [outsK, List.length_append]; omega
theorem dpick_yes {x y : KWorld} {es : List KEnt} {k : Nat} {e : KEnt} (h : es[k]? = some e) (hn : ¬ dg x.ents e.id = dg y.ents e.id) : dpick x y (es.take (k + 1)) = dpick x y (es.take k) ++ [e.id] := by
  rw [take_succ h]; simp [dpick, List.filter_append, hn]
theorem dpick_no {x y : KWorld} {es : List KEnt} {k : Nat} {e : KEnt} (h : es[k]? = some e) (hn : ¬ ¬ dg x.ents e.id = dg y.ents e.id) : dpick x y (es.take (k + 1)) = dpick x y (es.take k) := by
  rw [take_succ h]; simp [dpick, List.filter_append, Decidable.not_not.1 hn]
theorem tf46 : tyB Tryz.prog 24 true 2 = true := by kernel_rfl
theorem tf47 : cfB Tryz.prog 16 = true := by kernel_rfl
theorem tf48 : slB Tryz.prog 45 24 2 = true := by kernel_rfl
theorem tf49 : (Tryz.prog.info? 24).bind (·.zero) = some (.agg #[.int .i64 (0), .slice none 0 0]) := by kernel_rfl
theorem tf50 : Tryz.prog.underlying 45 = some (.slice 24) := by kernel_rfl
theorem tf51 : cfB Tryz.prog 17 = true := by kernel_rfl
theorem tf52 : (Tryz.prog.info? 3).bind (·.zero) = some (.int .i64 (0)) := by kernel_rfl
theorem tf53 : elB Tryz.prog 3 1 8 = true := by kernel_rfl
theorem tf54 : cfB Tryz.prog 18 = true := by kernel_rfl
theorem tf55 : cfB Tryz.prog 19 = true := by kernel_rfl
theorem differ_ok (β : Base) (w : World) (hw : St β [] w) (x y : KWorld) (v v' : Value) (hs : Sl EntR β.heap v x.ents) (hs' : Sl EntR β.heap v' y.ents) (hxn : x.ents.length ≤ 1000000) (hyn : y.ents.length ≤ 1000000) : Calls Tryz.prog 7 #[.agg #[Ix x.tick, v], .agg #[Ix y.tick, v']] w fun r w' => ∃ v, r = .returned v ∧ St β [row v 3 1 (differU x y).length ((differU x y).map fun z => Ix z)] w' := by
  obtain ⟨va, vc, rfl, vl, vm, ve⟩ := hs.get
  obtain ⟨v'a, v'c, rfl, v'l, v'm, v'e⟩ := hs'.get
  refine enter (n := 52) Tryz.func7 rfl Tryz.ntmps7 rfl ?_ hw
  refine c_seq ?_
  refine c_region ?_
  refine l_mv rfl rfl rfl (m_box (v := .agg #[Ix (x.tick), .slice va (x.ents.length) (vc)]) rfl) ?_
  rintro _ _ ⟨b1, rfl, rfl⟩
  refine l_mv rfl rfl rfl (m_box (v := .agg #[Ix (y.tick), .slice v'a (y.ents.length) (v'c)]) rfl) ?_
  rintro _ _ ⟨b2, rfl, rfl⟩
  refine l_val (v := .slice none 0 0) rfl rfl rfl (e_assign) ?_
  refine l_nil ?_
  refine f_then ?_
  refine c_seq ?_
  refine c_any [⟨[], [], [0], [12], fun f => f 12 = .agg #[Ix (x.tick), .slice va (x.ents.length) (vc)]⟩, ⟨[0], [0], [], [13], fun f => f 13 = .map (some (mblk (f 13)))⟩, ⟨[], [], [1], [14], fun f => f 14 = .agg #[Ix (y.tick), .slice v'a (y.ents.length) (v'c)]⟩, ⟨[0, 1, 2], [2], [], [15], fun f => f 15 = .map (some (mblk (f 15)))⟩, ⟨[0, 1, 2, 3], [1], [], [5, 13], fun f => f 5 = .map (some (mblk (f 13)))⟩, ⟨[0, 1, 2, 3, 4], [3], [], [6, 15], fun f => f 6 = .map (some (mblk (f 15)))⟩] [⟨none, none, [2], [], fun _ => pt b2 (.cells #[Ix (y.tick), .slice v'a (y.ents.length) (v'c)] 24)⟩, ⟨none, none, [0], [], fun _ => pt b1 (.cells #[Ix (x.tick), .slice va (x.ents.length) (vc)] 24)⟩, ⟨(some 1), none, [], [13], fun f => mapU (mblk (f 13)) (dg x.ents)⟩, ⟨(some 3), none, [], [15], fun f => mapU (mblk (f 15)) (dg y.ents)⟩] [(2, .pointer (some ⟨b1, 0, none⟩)), (3, .pointer (some ⟨b2, 0, none⟩))] [0, 1] [] (by kernel_rfl) (by kernel_rfl) (by kernel_rfl) (by kernel_rfl) rfl ⟨rfl, rfl, trivial⟩ ⟨?_, ?_, ?_, ?_, ?_, ?_, trivial⟩ ?_
  · rintro f M - ⟨i0, -⟩
    have hs2 : f 2 = .pointer (some ⟨b1, 0, none⟩) := i0
    refine ob_start (L' := pt b1 (.cells #[Ix (x.tick), .slice va (x.ents.length) (vc)] 24) :: M) (by rfl) (up_cons rfl hs2) ?_
    refine l_val (v := .agg #[Ix (x.tick), .slice va (x.ents.length) (vc)]) rfl rfl rfl (e_load tf46 (cs := [Ix (x.tick), .slice va (x.ents.length) (vc)]) rfl (k_pt 0 (cs := #[Ix (x.tick), .slice va (x.ents.length) (vc)]) (vs := [Ix (x.tick), .slice va (x.ents.length) (vc)]) rfl rfl) rfl) ?_
    refine l_nil ?_
    exact f_owes_d (up_cons rfl hs2) rfl (perm_front 0 rfl)
  · rintro f M ⟨k0, -⟩ -
    have hs12 : f 12 = .agg #[Ix (x.tick), .slice va (x.ents.length) (vc)] := k0
    refine ob_start (L' := M) (by rfl) (up_cons rfl hs12) ?_
    refine l_call rfl rfl rfl (cl_value (fst := []) (cap := []) (vs := [.agg #[Ix (x.tick), .slice va (x.ents.length) (vc)]]) (all := [.agg #[Ix (x.tick), .slice va (x.ents.length) (vc)]]) tf47 rfl rfl rfl) ?_
    intro w hw
    obtain ⟨β1, sb, kn, hw1, back⟩ := St.frame_all hw
    refine (own_ok β1 w hw1 x _ (Sl.mono _ _ _ _ _ sb (⟨⟨_, _, rfl, vl, vm, ve⟩⟩ : Sl EntR _ _ x.ents)) hxn).mono ?_
    rintro e w' ⟨b4, rfl, hw'⟩
    refine ⟨_, rfl, _, back _ _ hw', ?_⟩
    clear hw hw1 hw' back kn sb
    refine l_nil ?_
    exact f_owes_d (up_cons rfl hs12) rfl (perm_front 0 rfl)
  · rintro f M - ⟨i0, -⟩
    have hs3 : f 3 = .pointer (some ⟨b2, 0, none⟩) := i0
    refine ob_start (L' := pt b2 (.cells #[Ix (y.tick), .slice v'a (y.ents.length) (v'c)] 24) :: M) (by rfl) (up_cons rfl hs3) ?_
    refine l_val (v := .agg #[Ix (y.tick), .slice v'a (y.ents.length) (v'c)]) rfl rfl rfl (e_load tf46 (cs := [Ix (y.tick), .slice v'a (y.ents.length) (v'c)]) rfl (k_pt 0 (cs := #[Ix (y.tick), .slice v'a (y.ents.length) (v'c)]) (vs := [Ix (y.tick), .slice v'a (y.ents.length) (v'c)]) rfl rfl) rfl) ?_
    refine l_nil ?_
    exact f_owes_d (up_cons rfl hs3) rfl (perm_front 0 rfl)
  · rintro f M ⟨k0, -⟩ -
    have hs14 : f 14 = .agg #[Ix (y.tick), .slice v'a (y.ents.length) (v'c)] := k0
    refine ob_start (L' := M) (by rfl) (up_cons rfl hs14) ?_
    refine l_call rfl rfl rfl (cl_value (fst := []) (cap := []) (vs := [.agg #[Ix (y.tick), .slice v'a (y.ents.length) (v'c)]]) (all := [.agg #[Ix (y.tick), .slice v'a (y.ents.length) (v'c)]]) tf47 rfl rfl rfl) ?_
    intro w hw
    obtain ⟨β1, sb, kn, hw1, back⟩ := St.frame_all hw
    refine (own_ok β1 w hw1 y _ (Sl.mono _ _ _ _ _ sb (⟨⟨_, _, rfl, v'l, v'm, v'e⟩⟩ : Sl EntR _ _ y.ents)) hyn).mono ?_
    rintro e w' ⟨b6, rfl, hw'⟩
    refine ⟨_, rfl, _, back _ _ hw', ?_⟩
    clear hw hw1 hw' back kn sb
    refine l_nil ?_
    exact f_owes_d (up_cons rfl hs14) rfl (perm_front 0 rfl)
  · rintro f M ⟨k0, -⟩ -
    have hs13 : f 13 = .map (some (mblk (f 13))) := k0
    refine ob_start (L' := M) (by rfl) (up_cons rfl hs13) ?_
    refine l_val (v := .map (some (mblk (f 13)))) rfl rfl rfl (e_assign) ?_
    refine l_nil ?_
    exact f_owes_d (up_cons rfl hs13) rfl (List.Perm.refl _)
  · rintro f M ⟨k0, -⟩ -
    have hs15 : f 15 = .map (some (mblk (f 15))) := k0
    refine ob_start (L' := M) (by rfl) (up_cons rfl hs15) ?_
    refine l_val (v := .map (some (mblk (f 15)))) rfl rfl rfl (e_assign) ?_
    refine l_nil ?_
    exact f_owes_d (up_cons rfl hs15) rfl (List.Perm.refl _)
  rintro fa7 ⟨-, -, -, -, k4, k5, -⟩ ⟨j0, j1, -⟩
  refine f_re (L' := [pt b2 (.cells #[Ix (y.tick), .slice v'a (y.ents.length) (v'c)] 24), pt b1 (.cells #[Ix (x.tick), .slice va (x.ents.length) (vc)] 24), mapU (mblk (fa7 13)) (dg x.ents), mapU (mblk (fa7 15)) (dg y.ents)]) (by rfl) ?_
  refine f_rebase (d := 2) (v := .pointer (some ⟨b1, 0, none⟩)) j0 ?_
  refine f_rebase (d := 3) (v := .pointer (some ⟨b2, 0, none⟩)) j1 ?_
  refine f_rebase (d := 5) (v := .map (some (mblk (fa7 13)))) k4 ?_
  refine f_rebase (d := 6) (v := .map (some (mblk (fa7 15)))) k5 ?_
  refine f_then ?_
  refine c_seq ?_
  refine c_perm (L' := [pt b2 (.cells #[Ix (y.tick), .slice v'a (y.ents.length) (v'c)] 24), pt b1 (.cells #[Ix (x.tick), .slice va (x.ents.length) (vc)] 24), mapU (mblk (fa7 13)) (dg x.ents), mapU (mblk (fa7 15)) (dg y.ents)]) ((((perm_front 3 rfl).trans (perm_front 3 rfl)).trans (perm_front 3 rfl)).trans (perm_front 3 rfl)) ?_
  refine c_freeze (M := [pt b2 (.cells #[Ix (y.tick), .slice v'a (y.ents.length) (v'c)] 24), pt b1 (.cells #[Ix (x.tick), .slice va (x.ents.length) (vc)] 24)]) (K := [mapU (mblk (fa7 13)) (dg x.ents), mapU (mblk (fa7 15)) (dg y.ents)]) rfl (fun β' ext kn => ?_)
  obtain ⟨ksx, hkx, hsx⟩ := kn (mapU (mblk (fa7 13)) (dg x.ents)) (Knows.of_res 0 rfl (mapU_mono _ _) fun _ h => h)
  obtain ⟨ksy, hky, hsy⟩ := kn (mapU (mblk (fa7 15)) (dg y.ents)) (Knows.of_res 1 rfl (mapU_mono _ _) fun _ h => h)
  replace ve := Elems.mono EntR _ _ _ _ ext.sub ve
  replace v'e := Elems.mono EntR _ _ _ _ ext.sub v'e
  refine c_region ?_
  refine l_val (v := .slice none 0 0) rfl rfl rfl (e_assign) ?_
  refine l_nil ?_
  refine f_then ?_
  refine c_seq ?_
  refine c_seq ?_
  refine c_emp (r := row (.slice none 0 0) 3 1 0 []) (row_nil _ _ _) ?_
  refine c_region ?_
  refine l_val (v := .agg #[Ix (x.tick), .slice va (x.ents.length) (vc)]) rfl rfl rfl (e_load tf46 (cs := [Ix (x.tick), .slice va (x.ents.length) (vc)]) rfl (k_pt 2 (cs := #[Ix (x.tick), .slice va (x.ents.length) (vc)]) (vs := [Ix (x.tick), .slice va (x.ents.length) (vc)]) rfl rfl) rfl) ?_
  refine l_val (v := .agg #[Ix (y.tick), .slice v'a (y.ents.length) (v'c)]) rfl rfl rfl (e_load tf46 (cs := [Ix (y.tick), .slice v'a (y.ents.length) (v'c)]) rfl (k_pt 1 (cs := #[Ix (y.tick), .slice v'a (y.ents.length) (v'c)]) (vs := [Ix (y.tick), .slice v'a (y.ents.length) (v'c)]) rfl rfl) rfl) ?_
  refine l_mv rfl rfl rfl (m_slices tf48 tf49 (vs := [(0, .agg #[Ix (x.tick), .slice va (x.ents.length) (vc)]), (1, .agg #[Ix (y.tick), .slice v'a (y.ents.length) (v'c)])]) (cells := #[Ix (x.tick), .slice va (x.ents.length) (vc), Ix (y.tick), .slice v'a (y.ents.length) (v'c)]) rfl rfl rfl rfl) ?_
  rintro _ _ ⟨b8, rfl, rfl⟩
  refine l_val (v := .int .i64 (2)) rfl rfl rfl (e_len (n := 2) rfl tf50) ?_
  refine l_val (v := .int .i64 (0)) rfl rfl rfl (e_move) ?_
  refine l_nil ?_
  refine f_then ?_
  refine c_block ?_
  refine c_loop (fun (x_ : Nat × Value) (f : Fm) (L : List Res) => match x_ with | (k, r) => (f 5 = .map (some (mblk (fa7 13))) ∧ f 6 = .map (some (mblk (fa7 15))) ∧ f 7 = r ∧ f 18 = .slice (some ⟨b8, 0, none⟩) 2 2 ∧ f 19 = .int .i64 (2) ∧ f 20 = Nx (k)) ∧ L = [pt b8 (.cells #[Ix (x.tick), .slice va (x.ents.length) (vc), Ix (y.tick), .slice v'a (y.ents.length) (v'c)] 24), row r 3 1 ((outsK x y k).length) (((outsK x y k).map fun z => Ix z)), pt b2 (.cells #[Ix (y.tick), .slice v'a (y.ents.length) (v'c)] 24), pt b1 (.cells #[Ix (x.tick), .slice va (x.ents.length) (vc)] 24)] ∧ (k ≤ 2)) (fun (x_ : Nat × Value) => match x_ with | (k, r) => 2 - k) (0, (.slice none 0 0)) ?_ ?_
  · exact ⟨⟨rfl, rfl, rfl, rfl, rfl, rfl⟩, rfl, (by omega)⟩
  rintro ⟨k, r⟩ f0 L0 ⟨⟨hs5, hs6, hs7, hs18, hs19, hs20⟩, hL, hk⟩
  subst L0
  rcases (show k = 0 ∨ k = 1 ∨ k = 2 from by omega) with rfl | rfl | rfl
  ·
    refine rebase (d := 5) hs5 ?_
    refine rebase (d := 6) hs6 ?_
    refine rebase (d := 7) hs7 ?_
    refine rebase (d := 18) hs18 ?_
    refine rebase (d := 19) hs19 ?_
    refine rebase (d := 20) hs20 ?_
    clear hs5 hs6 hs7 hs18 hs19 hs20
    refine c_seq ?_
    refine c_region ?_
    refine l_val (v := .bool true) rfl rfl rfl (e_lss (a := (0 : Int)) (b := (2 : Int)) rfl rfl) ?_
    refine l_nil ?_
    refine f_then ?_
    refine c_seq ?_
    refine c_yes rfl ?_
    refine c_skip ?_
    refine f_then ?_
    refine c_seq ?_
    refine c_block ?_
    refine c_seq ?_
    refine c_region ?_
    refine l_val (v := .pointer (some ⟨b8, 0, none⟩)) rfl rfl rfl (e_indexPt (b := b8) (o := 0) (k := 0) (len := 2) (cap := 2) rfl rfl tf48 (by decide)) ?_
    refine l_val (v := .agg #[Ix (x.tick), .slice va (x.ents.length) (vc)]) rfl rfl rfl (e_load tf46 (cs := [Ix (x.tick), .slice va (x.ents.length) (vc)]) rfl (k_pt 0 (cs := #[Ix (x.tick), .slice va (x.ents.length) (vc), Ix (y.tick), .slice v'a (y.ents.length) (v'c)]) (vs := [Ix (x.tick), .slice va (x.ents.length) (vc)]) rfl rfl) rfl) ?_
    refine l_mv rfl rfl rfl (m_alloc tf49) ?_
    rintro _ _ ⟨b9, rfl, rfl⟩
    refine l_mu rfl rfl (m_store 0 tf46 (b := b9) (o := 0) (T := 24) (cs := #[.int .i64 (0), .slice none 0 0]) (cs' := #[Ix (x.tick), .slice va (x.ents.length) (vc)]) (v := .agg #[Ix (x.tick), .slice va (x.ents.length) (vc)]) rfl rfl rfl rfl rfl rfl rfl) ?_
    refine l_nil ?_
    refine f_then ?_
    refine c_seq ?_
    refine c_region ?_
    refine l_val (v := .pointer (some ⟨b9, 1, none⟩)) rfl rfl rfl (e_fieldPt (b := b9) (o := 0) rfl tf29) ?_
    refine l_val (v := .slice va (x.ents.length) (vc)) rfl rfl rfl (e_load1 tf30 (v := .slice va (x.ents.length) (vc)) rfl (k_pt 0 (cs := #[Ix (x.tick), .slice va (x.ents.length) (vc)]) (vs := [.slice va (x.ents.length) (vc)]) rfl rfl)) ?_
    refine l_val (v := Nx (x.ents.length)) rfl rfl rfl (e_len (a := va) (n := x.ents.length) (c := vc) rfl tf31) ?_
    refine l_val (v := .int .i64 (0)) rfl rfl rfl (e_move) ?_
    refine l_nil ?_
    refine f_then ?_
    refine c_block ?_
    refine c_loop (fun (x_ : Nat × Value) (f : Fm) (L : List Res) => match x_ with | (j, r) => (f 5 = .map (some (mblk (fa7 13))) ∧ f 6 = .map (some (mblk (fa7 15))) ∧ f 7 = r ∧ f 18 = .slice (some ⟨b8, 0, none⟩) 2 2 ∧ f 19 = .int .i64 (2) ∧ f 20 = .int .i64 (0) ∧ f 25 = .slice va (x.ents.length) (vc) ∧ f 26 = Nx (x.ents.length) ∧ f 27 = Nx (j)) ∧ L = [pt b9 (.cells #[Ix (x.tick), .slice va (x.ents.length) (vc)] 24), pt b8 (.cells #[Ix (x.tick), .slice va (x.ents.length) (vc), Ix (y.tick), .slice v'a (y.ents.length) (v'c)] 24), row r 3 1 ((outsK x y 0 ++ dpick x y (x.ents.take j)).length) (((outsK x y 0 ++ dpick x y (x.ents.take j)).map fun z => Ix z)), pt b2 (.cells #[Ix (y.tick), .slice v'a (y.ents.length) (v'c)] 24), pt b1 (.cells #[Ix (x.tick), .slice va (x.ents.length) (vc)] 24)] ∧ (j ≤ x.ents.length)) (fun (x_ : Nat × Value) => match x_ with | (j, r) => x.ents.length - j) (0, r) ?_ ?_
    · exact ⟨⟨rfl, rfl, rfl, rfl, rfl, rfl, rfl, rfl, rfl⟩, (by simp [dpick]), (by omega)⟩
    rintro ⟨j, r⟩ f0 L0 ⟨⟨hs5, hs6, hs7, hs18, hs19, hs20, hs25, hs26, hs27⟩, hL, hj⟩
    subst L0
    refine rebase (d := 5) hs5 ?_
    refine rebase (d := 6) hs6 ?_
    refine rebase (d := 7) hs7 ?_
    refine rebase (d := 18) hs18 ?_
    refine rebase (d := 19) hs19 ?_
    refine rebase (d := 20) hs20 ?_
    refine rebase (d := 25) hs25 ?_
    refine rebase (d := 26) hs26 ?_
    refine rebase (d := 27) hs27 ?_
    clear hs5 hs6 hs7 hs18 hs19 hs20 hs25 hs26 hs27
    have hol := outs_le x y 0 x j (by omega) (by omega) (Or.inl rfl)
    refine c_seq ?_
    refine c_region ?_
    refine l_val (v := .bool (decide (((j : Nat) : Int) < ((x.ents.length : Nat) : Int)))) rfl rfl rfl (e_lss (a := ((j : Nat) : Int)) (b := ((x.ents.length : Nat) : Int)) rfl rfl) ?_
    refine l_nil ?_
    refine f_then ?_
    refine c_seq ?_
    refine c_if (((j : Nat) : Int) < ((x.ents.length : Nat) : Int)) rfl (fun hc10 => ?_) (fun hc10 => ?_)
    ·
      refine c_skip ?_
      refine f_then ?_
      refine c_seq ?_
      refine c_block ?_
      refine c_seq ?_
      refine c_region ?_
      obtain ⟨x11, hx12⟩ : ∃ x_, (x.ents)[j]? = some x_ := ⟨_, List.getElem?_eq_getElem (by omega)⟩
      obtain ⟨ha13, cs14, hc15, hr16⟩ := ve _ _ hx12
      obtain ⟨v17, rfl, hv18⟩ := hr16
      obtain ⟨v17a, v17c, rfl, v17l, v17m, v17e⟩ := hv18.get
      refine l_val (v := .pointer (some ((ba va).add (j * 2)))) rfl rfl rfl (e_indexAddr (k := j) (len := x.ents.length) (cap := vc) (a := va) rfl rfl tf32 (by omega) ha13) ?_
      refine l_val (v := .agg #[Ix (x11.id), .slice v17a (x11.comps.length) (v17c)]) rfl rfl rfl (e_load tf24 (cs := [Ix (x11.id), .slice v17a (x11.comps.length) (v17c)]) rfl (Knows.of_base (Cs.mono _ _) hc15) rfl) ?_
      refine l_mv rfl rfl rfl (m_alloc tf33) ?_
      rintro _ _ ⟨b19, rfl, rfl⟩
      refine l_mu rfl rfl (m_store 0 tf24 (b := b19) (o := 0) (T := 35) (cs := #[.int .i64 (0), .slice none 0 0]) (cs' := #[Ix (x11.id), .slice v17a (x11.comps.length) (v17c)]) (v := .agg #[Ix (x11.id), .slice v17a (x11.comps.length) (v17c)]) rfl rfl rfl rfl rfl rfl rfl) ?_
      refine l_nil ?_
      refine f_then ?_
      refine c_seq ?_
      refine c_region ?_
      refine l_val (v := .map (some (mblk (fa7 13)))) rfl rfl rfl (e_move) ?_
      refine l_val (v := .pointer (some ⟨b19, 0, none⟩)) rfl rfl rfl (e_fieldPt (b := b19) (o := 0) rfl tf9) ?_
      refine l_val (v := Ix (x11.id)) rfl rfl rfl (e_load1 tf10 (v := Ix (x11.id)) rfl (k_pt 0 (cs := #[Ix (x11.id), .slice v17a (x11.comps.length) (v17c)]) (vs := [Ix (x11.id)]) rfl rfl)) ?_
      obtain ⟨la20, lc21, lq22, ll23, lm24, le25⟩ := (hsx x11.id).get
      refine l_val (v := .slice la20 ((dg x.ents x11.id).length) (lc21)) rfl rfl rfl (ev_eq lq22 (e_lookup KInt (b := (mblk (fa7 13))) (ks := ksx) (k := x11.id) tf42 tf43 tf44 rfl rfl (Knows.of_base (mapR.mono _ _ _) hkx))) ?_
      refine l_val (v := .map (some (mblk (fa7 15)))) rfl rfl rfl (e_move) ?_
      refine l_val (v := .pointer (some ⟨b19, 0, none⟩)) rfl rfl rfl (e_fieldPt (b := b19) (o := 0) rfl tf9) ?_
      refine l_val (v := Ix (x11.id)) rfl rfl rfl (e_load1 tf10 (v := Ix (x11.id)) rfl (k_pt 0 (cs := #[Ix (x11.id), .slice v17a (x11.comps.length) (v17c)]) (vs := [Ix (x11.id)]) rfl rfl)) ?_
      obtain ⟨la26, lc27, lq28, ll29, lm30, le31⟩ := (hsy x11.id).get
      refine l_val (v := .slice la26 ((dg y.ents x11.id).length) (lc27)) rfl rfl rfl (ev_eq lq28 (e_lookup KInt (b := (mblk (fa7 15))) (ks := ksy) (k := x11.id) tf42 tf43 tf44 rfl rfl (Knows.of_base (mapR.mono _ _ _) hky))) ?_
      refine l_call rfl rfl rfl (cl_value (fst := []) (cap := []) (vs := [.slice la20 ((dg x.ents x11.id).length) (lc21), .slice la26 ((dg y.ents x11.id).length) (lc27)]) (all := [.slice la20 ((dg x.ents x11.id).length) (lc21), .slice la26 ((dg y.ents x11.id).length) (lc27)]) tf51 rfl rfl rfl) ?_
      intro w hw
      obtain ⟨β1, sb, kn, hw1, back⟩ := St.frame_all hw
      refine (equal_ok β1 w hw1 _ _ _ _ (Sl.mono _ _ _ _ _ sb (⟨⟨_, _, rfl, ll23, lm24, le25⟩⟩ : Sl U64R _ _ (dg x.ents x11.id))) (Sl.mono _ _ _ _ _ sb (⟨⟨_, _, rfl, ll29, lm30, le31⟩⟩ : Sl U64R _ _ (dg y.ents x11.id)))).mono ?_
      rintro e w' ⟨rfl, hw'⟩
      refine ⟨_, rfl, _, back _ _ hw', ?_⟩
      clear hw hw1 hw' back kn sb
      refine l_val (v := .bool (decide (¬ ((dg x.ents x11.id) = (dg y.ents x11.id))))) rfl rfl rfl (e_not_p (p := (dg x.ents x11.id) = (dg y.ents x11.id)) rfl) ?_
      refine l_nil ?_
      refine f_then ?_
      refine c_if (¬ ((dg x.ents x11.id) = (dg y.ents x11.id))) rfl (fun hc32 => ?_) (fun hc32 => ?_)
      ·
        refine c_region ?_
        refine l_val (v := r) rfl rfl rfl (e_move) ?_
        refine l_val (v := .pointer (some ⟨b19, 0, none⟩)) rfl rfl rfl (e_fieldPt (b := b19) (o := 0) rfl tf9) ?_
        refine l_val (v := Ix (x11.id)) rfl rfl rfl (e_load1 tf10 (v := Ix (x11.id)) rfl (k_pt 0 (cs := #[Ix (x11.id), .slice v17a (x11.comps.length) (v17c)]) (vs := [Ix (x11.id)]) rfl rfl)) ?_
        refine l_mv rfl rfl rfl (m_slices tf39 tf52 (vs := [(0, Ix (x11.id))]) (cells := #[Ix (x11.id)]) rfl rfl rfl rfl) ?_
        rintro _ _ ⟨b33, rfl, rfl⟩
        refine l_mv rfl rfl rfl (m_append 4 tf39 tf53 (v := r) (m := (outsK x y 0 ++ dpick x y (x.ents.take j)).length) (vs := ((outsK x y 0 ++ dpick x y (x.ents.take j)).map fun z => Ix z)) (ad := ⟨b33, 0, none⟩) (k := 1) (c := 1) (news := [Ix (x11.id)]) rfl rfl rfl rfl (k_pt 0 (cs := #[Ix (x11.id)]) (vs := [Ix (x11.id)]) rfl rfl) rfl (by unfold maxLen; omega) (by omega)) ?_
        rintro v34 _ ⟨hnv34, rfl⟩
        refine l_val (v := v34) rfl rfl rfl (e_assign) ?_
        refine l_nil ?_
        refine f_block ?_
        refine f_then ?_
        refine c_region ?_
        refine l_val (v := Nx (j + 1)) rfl rfl rfl (e_add (a := ((j : Nat) : Int)) (b := (1 : Int)) rfl rfl (i64n (by omega) (by omega))) ?_
        refine l_val (v := Nx (j + 1)) rfl rfl rfl (e_move) ?_
        refine l_nil ?_
        refine f_mask (L' := [pt b9 (.cells #[Ix (x.tick), .slice va (x.ents.length) (vc)] 24), pt b8 (.cells #[Ix (x.tick), .slice va (x.ents.length) (vc), Ix (y.tick), .slice v'a (y.ents.length) (v'c)] 24), row v34 3 1 (((outsK x y 0 ++ dpick x y (x.ents.take j)).length) + 1) (((outsK x y 0 ++ dpick x y (x.ents.take j)).map fun z => Ix z) ++ [Ix (x11.id)]), pt b2 (.cells #[Ix (y.tick), .slice v'a (y.ents.length) (v'c)] 24), pt b1 (.cells #[Ix (x.tick), .slice va (x.ents.length) (vc)] 24)]) [false, false, true, true, true, true, true] rfl ?_
        exact f_cut ⟨(j + 1, v34), ⟨⟨rfl, rfl, rfl, rfl, rfl, rfl, rfl, rfl, rfl⟩, (by rw [dpick_yes hx12 hc32]; simp [List.append_assoc, Nat.add_assoc]), (by omega)⟩, (show x.ents.length - (j + 1) < x.ents.length - j from by omega)⟩
      ·
        refine c_skip ?_
        refine f_block ?_
        refine f_then ?_
        refine c_region ?_
        refine l_val (v := Nx (j + 1)) rfl rfl rfl (e_add (a := ((j : Nat) : Int)) (b := (1 : Int)) rfl rfl (i64n (by omega) (by omega))) ?_
        refine l_val (v := Nx (j + 1)) rfl rfl rfl (e_move) ?_
        refine l_nil ?_
        refine f_mask (L' := [pt b9 (.cells #[Ix (x.tick), .slice va (x.ents.length) (vc)] 24), pt b8 (.cells #[Ix (x.tick), .slice va (x.ents.length) (vc), Ix (y.tick), .slice v'a (y.ents.length) (v'c)] 24), row r 3 1 ((outsK x y 0 ++ dpick x y (x.ents.take j)).length) (((outsK x y 0 ++ dpick x y (x.ents.take j)).map fun z => Ix z)), pt b2 (.cells #[Ix (y.tick), .slice v'a (y.ents.length) (v'c)] 24), pt b1 (.cells #[Ix (x.tick), .slice va (x.ents.length) (vc)] 24)]) [false, true, true, true, true, true] rfl ?_
        exact f_cut ⟨(j + 1, r), ⟨⟨rfl, rfl, rfl, rfl, rfl, rfl, rfl, rfl, rfl⟩, (by rw [dpick_no hx12 hc32]), (by omega)⟩, (show x.ents.length - (j + 1) < x.ents.length - j from by omega)⟩
    ·
      refine c_exit ?_
      refine f_then_exit ?_
      refine f_then_exit ?_
      refine f_exit ?_
      refine f_block ?_
      refine f_then ?_
      refine c_region ?_
      refine l_val (v := .int .i64 (1)) rfl rfl rfl (e_add (a := (0 : Int)) (b := (1 : Int)) rfl rfl (by decide)) ?_
      refine l_val (v := .int .i64 (1)) rfl rfl rfl (e_move) ?_
      refine l_nil ?_
      refine f_mask (L' := [pt b8 (.cells #[Ix (x.tick), .slice va (x.ents.length) (vc), Ix (y.tick), .slice v'a (y.ents.length) (v'c)] 24), row r 3 1 ((outsK x y 0 ++ dpick x y (x.ents.take j)).length) (((outsK x y 0 ++ dpick x y (x.ents.take j)).map fun z => Ix z)), pt b2 (.cells #[Ix (y.tick), .slice v'a (y.ents.length) (v'c)] 24), pt b1 (.cells #[Ix (x.tick), .slice va (x.ents.length) (vc)] 24)]) [false, true, true, true, true] rfl ?_
      exact f_cut ⟨(1, r), ⟨⟨rfl, rfl, rfl, rfl, rfl, rfl⟩, (by simp [outsK, List.take_of_length_le (show x.ents.length ≤ j by omega)]), (by omega)⟩, (show 2 - 1 < 2 - 0 from by omega)⟩
  ·
    refine rebase (d := 5) hs5 ?_
    refine rebase (d := 6) hs6 ?_
    refine rebase (d := 7) hs7 ?_
    refine rebase (d := 18) hs18 ?_
    refine rebase (d := 19) hs19 ?_
    refine rebase (d := 20) hs20 ?_
    clear hs5 hs6 hs7 hs18 hs19 hs20
    refine c_seq ?_
    refine c_region ?_
    refine l_val (v := .bool true) rfl rfl rfl (e_lss (a := (1 : Int)) (b := (2 : Int)) rfl rfl) ?_
    refine l_nil ?_
    refine f_then ?_
    refine c_seq ?_
    refine c_yes rfl ?_
    refine c_skip ?_
    refine f_then ?_
    refine c_seq ?_
    refine c_block ?_
    refine c_seq ?_
    refine c_region ?_
    refine l_val (v := .pointer (some ⟨b8, 2, none⟩)) rfl rfl rfl (e_indexPt (b := b8) (o := 0) (k := 1) (len := 2) (cap := 2) rfl rfl tf48 (by decide)) ?_
    refine l_val (v := .agg #[Ix (y.tick), .slice v'a (y.ents.length) (v'c)]) rfl rfl rfl (e_load tf46 (cs := [Ix (y.tick), .slice v'a (y.ents.length) (v'c)]) rfl (k_pt 0 (cs := #[Ix (x.tick), .slice va (x.ents.length) (vc), Ix (y.tick), .slice v'a (y.ents.length) (v'c)]) (vs := [Ix (y.tick), .slice v'a (y.ents.length) (v'c)]) rfl rfl) rfl) ?_
    refine l_mv rfl rfl rfl (m_alloc tf49) ?_
    rintro _ _ ⟨b35, rfl, rfl⟩
    refine l_mu rfl rfl (m_store 0 tf46 (b := b35) (o := 0) (T := 24) (cs := #[.int .i64 (0), .slice none 0 0]) (cs' := #[Ix (y.tick), .slice v'a (y.ents.length) (v'c)]) (v := .agg #[Ix (y.tick), .slice v'a (y.ents.length) (v'c)]) rfl rfl rfl rfl rfl rfl rfl) ?_
    refine l_nil ?_
    refine f_then ?_
    refine c_seq ?_
    refine c_region ?_
    refine l_val (v := .pointer (some ⟨b35, 1, none⟩)) rfl rfl rfl (e_fieldPt (b := b35) (o := 0) rfl tf29) ?_
    refine l_val (v := .slice v'a (y.ents.length) (v'c)) rfl rfl rfl (e_load1 tf30 (v := .slice v'a (y.ents.length) (v'c)) rfl (k_pt 0 (cs := #[Ix (y.tick), .slice v'a (y.ents.length) (v'c)]) (vs := [.slice v'a (y.ents.length) (v'c)]) rfl rfl)) ?_
    refine l_val (v := Nx (y.ents.length)) rfl rfl rfl (e_len (a := v'a) (n := y.ents.length) (c := v'c) rfl tf31) ?_
    refine l_val (v := .int .i64 (0)) rfl rfl rfl (e_move) ?_
    refine l_nil ?_
    refine f_then ?_
    refine c_block ?_
    refine c_loop (fun (x_ : Nat × Value) (f : Fm) (L : List Res) => match x_ with | (j, r) => (f 5 = .map (some (mblk (fa7 13))) ∧ f 6 = .map (some (mblk (fa7 15))) ∧ f 7 = r ∧ f 18 = .slice (some ⟨b8, 0, none⟩) 2 2 ∧ f 19 = .int .i64 (2) ∧ f 20 = .int .i64 (1) ∧ f 25 = .slice v'a (y.ents.length) (v'c) ∧ f 26 = Nx (y.ents.length) ∧ f 27 = Nx (j)) ∧ L = [pt b35 (.cells #[Ix (y.tick), .slice v'a (y.ents.length) (v'c)] 24), pt b8 (.cells #[Ix (x.tick), .slice va (x.ents.length) (vc), Ix (y.tick), .slice v'a (y.ents.length) (v'c)] 24), row r 3 1 ((outsK x y 1 ++ dpick x y (y.ents.take j)).length) (((outsK x y 1 ++ dpick x y (y.ents.take j)).map fun z => Ix z)), pt b2 (.cells #[Ix (y.tick), .slice v'a (y.ents.length) (v'c)] 24), pt b1 (.cells #[Ix (x.tick), .slice va (x.ents.length) (vc)] 24)] ∧ (j ≤ y.ents.length)) (fun (x_ : Nat × Value) => match x_ with | (j, r) => y.ents.length - j) (0, r) ?_ ?_
    · exact ⟨⟨rfl, rfl, rfl, rfl, rfl, rfl, rfl, rfl, rfl⟩, (by simp [dpick]), (by omega)⟩
    rintro ⟨j, r⟩ f0 L0 ⟨⟨hs5, hs6, hs7, hs18, hs19, hs20, hs25, hs26, hs27⟩, hL, hj⟩
    subst L0
    refine rebase (d := 5) hs5 ?_
    refine rebase (d := 6) hs6 ?_
    refine rebase (d := 7) hs7 ?_
    refine rebase (d := 18) hs18 ?_
    refine rebase (d := 19) hs19 ?_
    refine rebase (d := 20) hs20 ?_
    refine rebase (d := 25) hs25 ?_
    refine rebase (d := 26) hs26 ?_
    refine rebase (d := 27) hs27 ?_
    clear hs5 hs6 hs7 hs18 hs19 hs20 hs25 hs26 hs27
    have hol := outs_le x y 1 y j (by omega) (by omega) (Or.inr rfl)
    refine c_seq ?_
    refine c_region ?_
    refine l_val (v := .bool (decide (((j : Nat) : Int) < ((y.ents.length : Nat) : Int)))) rfl rfl rfl (e_lss (a := ((j : Nat) : Int)) (b := ((y.ents.length : Nat) : Int)) rfl rfl) ?_
    refine l_nil ?_
    refine f_then ?_
    refine c_seq ?_
    refine c_if (((j : Nat) : Int) < ((y.ents.length : Nat) : Int)) rfl (fun hc36 => ?_) (fun hc36 => ?_)
    ·
      refine c_skip ?_
      refine f_then ?_
      refine c_seq ?_
      refine c_block ?_
      refine c_seq ?_
      refine c_region ?_
      obtain ⟨x37, hx38⟩ : ∃ x_, (y.ents)[j]? = some x_ := ⟨_, List.getElem?_eq_getElem (by omega)⟩
      obtain ⟨ha39, cs40, hc41, hr42⟩ := v'e _ _ hx38
      obtain ⟨v43, rfl, hv44⟩ := hr42
      obtain ⟨v43a, v43c, rfl, v43l, v43m, v43e⟩ := hv44.get
      refine l_val (v := .pointer (some ((ba v'a).add (j * 2)))) rfl rfl rfl (e_indexAddr (k := j) (len := y.ents.length) (cap := v'c) (a := v'a) rfl rfl tf32 (by omega) ha39) ?_
      refine l_val (v := .agg #[Ix (x37.id), .slice v43a (x37.comps.length) (v43c)]) rfl rfl rfl (e_load tf24 (cs := [Ix (x37.id), .slice v43a (x37.comps.length) (v43c)]) rfl (Knows.of_base (Cs.mono _ _) hc41) rfl) ?_
      refine l_mv rfl rfl rfl (m_alloc tf33) ?_
      rintro _ _ ⟨b45, rfl, rfl⟩
      refine l_mu rfl rfl (m_store 0 tf24 (b := b45) (o := 0) (T := 35) (cs := #[.int .i64 (0), .slice none 0 0]) (cs' := #[Ix (x37.id), .slice v43a (x37.comps.length) (v43c)]) (v := .agg #[Ix (x37.id), .slice v43a (x37.comps.length) (v43c)]) rfl rfl rfl rfl rfl rfl rfl) ?_
      refine l_nil ?_
      refine f_then ?_
      refine c_seq ?_
      refine c_region ?_
      refine l_val (v := .map (some (mblk (fa7 13)))) rfl rfl rfl (e_move) ?_
      refine l_val (v := .pointer (some ⟨b45, 0, none⟩)) rfl rfl rfl (e_fieldPt (b := b45) (o := 0) rfl tf9) ?_
      refine l_val (v := Ix (x37.id)) rfl rfl rfl (e_load1 tf10 (v := Ix (x37.id)) rfl (k_pt 0 (cs := #[Ix (x37.id), .slice v43a (x37.comps.length) (v43c)]) (vs := [Ix (x37.id)]) rfl rfl)) ?_
      obtain ⟨la46, lc47, lq48, ll49, lm50, le51⟩ := (hsx x37.id).get
      refine l_val (v := .slice la46 ((dg x.ents x37.id).length) (lc47)) rfl rfl rfl (ev_eq lq48 (e_lookup KInt (b := (mblk (fa7 13))) (ks := ksx) (k := x37.id) tf42 tf43 tf44 rfl rfl (Knows.of_base (mapR.mono _ _ _) hkx))) ?_
      refine l_val (v := .map (some (mblk (fa7 15)))) rfl rfl rfl (e_move) ?_
      refine l_val (v := .pointer (some ⟨b45, 0, none⟩)) rfl rfl rfl (e_fieldPt (b := b45) (o := 0) rfl tf9) ?_
      refine l_val (v := Ix (x37.id)) rfl rfl rfl (e_load1 tf10 (v := Ix (x37.id)) rfl (k_pt 0 (cs := #[Ix (x37.id), .slice v43a (x37.comps.length) (v43c)]) (vs := [Ix (x37.id)]) rfl rfl)) ?_
      obtain ⟨la52, lc53, lq54, ll55, lm56, le57⟩ := (hsy x37.id).get
      refine l_val (v := .slice la52 ((dg y.ents x37.id).length) (lc53)) rfl rfl rfl (ev_eq lq54 (e_lookup KInt (b := (mblk (fa7 15))) (ks := ksy) (k := x37.id) tf42 tf43 tf44 rfl rfl (Knows.of_base (mapR.mono _ _ _) hky))) ?_
      refine l_call rfl rfl rfl (cl_value (fst := []) (cap := []) (vs := [.slice la46 ((dg x.ents x37.id).length) (lc47), .slice la52 ((dg y.ents x37.id).length) (lc53)]) (all := [.slice la46 ((dg x.ents x37.id).length) (lc47), .slice la52 ((dg y.ents x37.id).length) (lc53)]) tf51 rfl rfl rfl) ?_
      intro w hw
      obtain ⟨β1, sb, kn, hw1, back⟩ := St.frame_all hw
      refine (equal_ok β1 w hw1 _ _ _ _ (Sl.mono _ _ _ _ _ sb (⟨⟨_, _, rfl, ll49, lm50, le51⟩⟩ : Sl U64R _ _ (dg x.ents x37.id))) (Sl.mono _ _ _ _ _ sb (⟨⟨_, _, rfl, ll55, lm56, le57⟩⟩ : Sl U64R _ _ (dg y.ents x37.id)))).mono ?_
      rintro e w' ⟨rfl, hw'⟩
      refine ⟨_, rfl, _, back _ _ hw', ?_⟩
      clear hw hw1 hw' back kn sb
      refine l_val (v := .bool (decide (¬ ((dg x.ents x37.id) = (dg y.ents x37.id))))) rfl rfl rfl (e_not_p (p := (dg x.ents x37.id) = (dg y.ents x37.id)) rfl) ?_
      refine l_nil ?_
      refine f_then ?_
      refine c_if (¬ ((dg x.ents x37.id) = (dg y.ents x37.id))) rfl (fun hc58 => ?_) (fun hc58 => ?_)
      ·
        refine c_region ?_
        refine l_val (v := r) rfl rfl rfl (e_move) ?_
        refine l_val (v := .pointer (some ⟨b45, 0, none⟩)) rfl rfl rfl (e_fieldPt (b := b45) (o := 0) rfl tf9) ?_
        refine l_val (v := Ix (x37.id)) rfl rfl rfl (e_load1 tf10 (v := Ix (x37.id)) rfl (k_pt 0 (cs := #[Ix (x37.id), .slice v43a (x37.comps.length) (v43c)]) (vs := [Ix (x37.id)]) rfl rfl)) ?_
        refine l_mv rfl rfl rfl (m_slices tf39 tf52 (vs := [(0, Ix (x37.id))]) (cells := #[Ix (x37.id)]) rfl rfl rfl rfl) ?_
        rintro _ _ ⟨b59, rfl, rfl⟩
        refine l_mv rfl rfl rfl (m_append 4 tf39 tf53 (v := r) (m := (outsK x y 1 ++ dpick x y (y.ents.take j)).length) (vs := ((outsK x y 1 ++ dpick x y (y.ents.take j)).map fun z => Ix z)) (ad := ⟨b59, 0, none⟩) (k := 1) (c := 1) (news := [Ix (x37.id)]) rfl rfl rfl rfl (k_pt 0 (cs := #[Ix (x37.id)]) (vs := [Ix (x37.id)]) rfl rfl) rfl (by unfold maxLen; omega) (by omega)) ?_
        rintro v60 _ ⟨hnv60, rfl⟩
        refine l_val (v := v60) rfl rfl rfl (e_assign) ?_
        refine l_nil ?_
        refine f_block ?_
        refine f_then ?_
        refine c_region ?_
        refine l_val (v := Nx (j + 1)) rfl rfl rfl (e_add (a := ((j : Nat) : Int)) (b := (1 : Int)) rfl rfl (i64n (by omega) (by omega))) ?_
        refine l_val (v := Nx (j + 1)) rfl rfl rfl (e_move) ?_
        refine l_nil ?_
        refine f_mask (L' := [pt b35 (.cells #[Ix (y.tick), .slice v'a (y.ents.length) (v'c)] 24), pt b8 (.cells #[Ix (x.tick), .slice va (x.ents.length) (vc), Ix (y.tick), .slice v'a (y.ents.length) (v'c)] 24), row v60 3 1 (((outsK x y 1 ++ dpick x y (y.ents.take j)).length) + 1) (((outsK x y 1 ++ dpick x y (y.ents.take j)).map fun z => Ix z) ++ [Ix (x37.id)]), pt b2 (.cells #[Ix (y.tick), .slice v'a (y.ents.length) (v'c)] 24), pt b1 (.cells #[Ix (x.tick), .slice va (x.ents.length) (vc)] 24)]) [false, false, true, true, true, true, true] rfl ?_
        exact f_cut ⟨(j + 1, v60), ⟨⟨rfl, rfl, rfl, rfl, rfl, rfl, rfl, rfl, rfl⟩, (by rw [dpick_yes hx38 hc58]; simp [List.append_assoc, Nat.add_assoc]), (by omega)⟩, (show y.ents.length - (j + 1) < y.ents.length - j from by omega)⟩
      ·
        refine c_skip ?_
        refine f_block ?_
        refine f_then ?_
        refine c_region ?_
        refine l_val (v := Nx (j + 1)) rfl rfl rfl (e_add (a := ((j : Nat) : Int)) (b := (1 : Int)) rfl rfl (i64n (by omega) (by omega))) ?_
        refine l_val (v := Nx (j + 1)) rfl rfl rfl (e_move) ?_
        refine l_nil ?_
        refine f_mask (L' := [pt b35 (.cells #[Ix (y.tick), .slice v'a (y.ents.length) (v'c)] 24), pt b8 (.cells #[Ix (x.tick), .slice va (x.ents.length) (vc), Ix (y.tick), .slice v'a (y.ents.length) (v'c)] 24), row r 3 1 ((outsK x y 1 ++ dpick x y (y.ents.take j)).length) (((outsK x y 1 ++ dpick x y (y.ents.take j)).map fun z => Ix z)), pt b2 (.cells #[Ix (y.tick), .slice v'a (y.ents.length) (v'c)] 24), pt b1 (.cells #[Ix (x.tick), .slice va (x.ents.length) (vc)] 24)]) [false, true, true, true, true, true] rfl ?_
        exact f_cut ⟨(j + 1, r), ⟨⟨rfl, rfl, rfl, rfl, rfl, rfl, rfl, rfl, rfl⟩, (by rw [dpick_no hx38 hc58]), (by omega)⟩, (show y.ents.length - (j + 1) < y.ents.length - j from by omega)⟩
    ·
      refine c_exit ?_
      refine f_then_exit ?_
      refine f_then_exit ?_
      refine f_exit ?_
      refine f_block ?_
      refine f_then ?_
      refine c_region ?_
      refine l_val (v := .int .i64 (2)) rfl rfl rfl (e_add (a := (1 : Int)) (b := (1 : Int)) rfl rfl (by decide)) ?_
      refine l_val (v := .int .i64 (2)) rfl rfl rfl (e_move) ?_
      refine l_nil ?_
      refine f_mask (L' := [pt b8 (.cells #[Ix (x.tick), .slice va (x.ents.length) (vc), Ix (y.tick), .slice v'a (y.ents.length) (v'c)] 24), row r 3 1 ((outsK x y 1 ++ dpick x y (y.ents.take j)).length) (((outsK x y 1 ++ dpick x y (y.ents.take j)).map fun z => Ix z)), pt b2 (.cells #[Ix (y.tick), .slice v'a (y.ents.length) (v'c)] 24), pt b1 (.cells #[Ix (x.tick), .slice va (x.ents.length) (vc)] 24)]) [false, true, true, true, true] rfl ?_
      exact f_cut ⟨(2, r), ⟨⟨rfl, rfl, rfl, rfl, rfl, rfl⟩, (by simp [outsK, List.take_of_length_le (show y.ents.length ≤ j by omega)]), (by omega)⟩, (show 2 - 2 < 2 - 1 from by omega)⟩
  ·
    refine rebase (d := 5) hs5 ?_
    refine rebase (d := 6) hs6 ?_
    refine rebase (d := 7) hs7 ?_
    refine rebase (d := 18) hs18 ?_
    refine rebase (d := 19) hs19 ?_
    refine rebase (d := 20) hs20 ?_
    clear hs5 hs6 hs7 hs18 hs19 hs20
    refine c_seq ?_
    refine c_region ?_
    refine l_val (v := .bool false) rfl rfl rfl (e_lss (a := (2 : Int)) (b := (2 : Int)) rfl rfl) ?_
    refine l_nil ?_
    refine f_then ?_
    refine c_seq ?_
    refine c_no rfl ?_
    refine c_exit ?_
    refine f_then_exit ?_
    refine f_then_exit ?_
    refine f_exit ?_
    refine f_then ?_
    refine c_seq ?_
    refine c_region ?_
    refine l_val (v := r) rfl rfl rfl (e_move) ?_
    refine l_call rfl rfl rfl (cl_value (fst := []) (cap := []) (vs := [r]) (all := [r]) tf54 rfl rfl rfl) ?_
    intro w hw
    replace hw := hw.perm (L' := _ :: _ :: _ :: _ :: []) (by exact ((((perm_front 3 rfl).trans (perm_front 3 rfl)).trans (perm_front 2 rfl)).trans (perm_front 3 rfl)))
    obtain ⟨β1, sb, kn, hw1, back⟩ := St.frame (L := [_]) (M := _ :: _ :: _ :: []) hw
    have hol := outs_len x y (by omega) (by omega)
    refine (sort_ok β1 w _ (outsK x y 2) hw1 (by omega)).mono ?_
    rintro e w' ⟨rfl, hw'⟩
    refine ⟨_, rfl, _, back _ _ hw', ?_⟩
    clear hw hw1 hw' back kn sb
    refine l_nil ?_
    refine f_then ?_
    refine c_seq ?_
    refine c_region ?_
    refine l_val (v := r) rfl rfl rfl (e_move) ?_
    refine l_call rfl rfl rfl (cl_value (fst := []) (cap := []) (vs := [r]) (all := [r]) tf55 rfl rfl rfl) ?_
    intro w hw
    replace hw := hw.perm (L' := _ :: _ :: _ :: _ :: []) (by exact ((((perm_front 3 rfl).trans (perm_front 3 rfl)).trans (perm_front 3 rfl)).trans (perm_front 3 rfl)))
    obtain ⟨β1, sb, kn, hw1, back⟩ := St.frame (L := [_]) (M := _ :: _ :: _ :: []) hw
    refine (compact_ok β1 w _ ((outsK x y 2).mergeSort fun x y => decide (x ≤ y)) (by rw [List.length_mergeSort]; exact hw1)).mono ?_
    rintro e w' ⟨v61, rfl, hw'⟩
    refine ⟨_, rfl, _, back _ _ hw', ?_⟩
    clear hw hw1 hw' back kn sb
    refine l_val (v := v61) rfl rfl rfl (e_assign) ?_
    refine l_nil ?_
    refine f_then ?_
    refine c_ret ?_
    refine ret1 Tryz.results7 (v := v61) rfl ?_
    intro w hw
    exact ⟨_, rfl, (st_mask [true, false, false, false] rfl hw).weaken ext⟩
end Go.Proofs
