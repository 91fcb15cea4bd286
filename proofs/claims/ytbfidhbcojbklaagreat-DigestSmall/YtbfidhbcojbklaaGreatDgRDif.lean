/-
  Own work; plain Lean (DgRDif).
-/
import Derived.Test.YtbfidhbcojbklaaGreatDgFindsL
namespace Go.Proofs
open Go Go.Sl
theorem tf104 : cfB Tryz.prog 21 = true := by kernel_rfl
theorem tf105 : cfB Tryz.prog 20 = true := by kernel_rfl
theorem rsame_ok (β : Base) (w : World) (hw : St β [] w) (v v' : Value) (xs ys : List UInt64) (hx : Sl U64R β.heap v xs) (hy : Sl U64R β.heap v' ys) : Calls Tryz.prog 20 #[v, v'] w fun r w' => r = .returned (.bool (decide (xs = ys))) ∧ St β [] w' := by
  obtain ⟨va, vc, rfl, vl, vm, ve⟩ := hx.get
  obtain ⟨v'a, v'c, rfl, v'l, v'm, v'e⟩ := hy.get
  refine enter (n := 26) Tryz.func20 rfl Tryz.ntmps20 rfl ?_ hw
  refine c_seq ?_
  refine c_region ?_
  refine l_val (v := .bool false) rfl rfl rfl (e_assign) ?_
  refine l_nil ?_
  refine f_then ?_
  refine c_seq ?_
  refine c_seq ?_
  refine c_region ?_
  refine l_val (v := .slice va (xs.length) (vc)) rfl rfl rfl (e_move) ?_
  refine l_val (v := Nx (xs.length)) rfl rfl rfl (e_len (a := va) (n := xs.length) (c := vc) rfl tf40) ?_
  refine l_val (v := .slice v'a (ys.length) (v'c)) rfl rfl rfl (e_move) ?_
  refine l_val (v := Nx (ys.length)) rfl rfl rfl (e_len (a := v'a) (n := ys.length) (c := v'c) rfl tf40) ?_
  refine l_val (v := .bool (decide (((xs.length : Nat) : Int) ≠ ((ys.length : Nat) : Int)))) rfl rfl rfl (e_neq (a := ((xs.length : Nat) : Int)) (b := ((ys.length : Nat) : Int)) rfl rfl) ?_
  refine l_nil ?_
  refine f_then ?_
  refine c_if (((xs.length : Nat) : Int) ≠ ((ys.length : Nat) : Int)) rfl (fun hc1 => ?_) (fun hc1 => ?_)
  ·
    refine c_seq ?_
    refine c_region ?_
    refine l_val (v := .bool false) rfl rfl rfl (e_assign) ?_
    refine l_nil ?_
    refine f_then ?_
    refine c_ret ?_
    refine f_then_ret ?_
    refine ret1 Tryz.results20 (v := .bool false) rfl ?_
    intro w hw
    exact ⟨bool_f (fun h => by subst h; omega), st_mask [] rfl hw⟩
  ·
    refine c_skip ?_
    refine f_then ?_
    refine c_seq ?_
    refine c_seq ?_
    refine c_region ?_
    refine l_val (v := .int .i64 (0)) rfl rfl rfl (e_assign) ?_
    refine l_nil ?_
    refine f_then ?_
    refine c_block ?_
    refine c_loop (fun (k : Nat) (f : Fm) (L : List Res) => (f 0 = .slice va (xs.length) (vc) ∧ f 1 = .slice v'a (ys.length) (v'c) ∧ f 5 = Nx (k)) ∧ L = [] ∧ (k ≤ xs.length ∧ xs.take (k) = ys.take (k))) (fun (k : Nat) => xs.length - k) 0 ?_ ?_
    · exact ⟨⟨rfl, rfl, rfl⟩, rfl, ⟨by omega, rfl⟩⟩
    rintro k f0 L0 ⟨⟨hs0, hs1, hs5⟩, hL, ⟨hp1, hp2⟩⟩
    subst L0
    refine rebase (d := 0) hs0 ?_
    refine rebase (d := 1) hs1 ?_
    refine rebase (d := 5) hs5 ?_
    clear hs0 hs1 hs5
    refine c_seq ?_
    refine c_seq ?_
    refine c_region ?_
    refine l_val (v := Nx (k)) rfl rfl rfl (e_move) ?_
    refine l_val (v := .slice va (xs.length) (vc)) rfl rfl rfl (e_move) ?_
    refine l_val (v := Nx (xs.length)) rfl rfl rfl (e_len (a := va) (n := xs.length) (c := vc) rfl tf40) ?_
    refine l_val (v := .bool (decide (((k : Nat) : Int) < ((xs.length : Nat) : Int)))) rfl rfl rfl (e_lss (a := ((k : Nat) : Int)) (b := ((xs.length : Nat) : Int)) rfl rfl) ?_
    refine l_nil ?_
    refine f_then ?_
    refine c_if (((k : Nat) : Int) < ((xs.length : Nat) : Int)) rfl (fun hc2 => ?_) (fun hc2 => ?_)
    ·
      refine c_skip ?_
      refine f_then ?_
      refine c_seq ?_
      refine c_block ?_
      refine c_seq ?_
      refine c_quiet (by kernel_rfl) (by kernel_rfl) ?_
      refine q_val (v := .slice va (xs.length) (vc)) rfl rfl rfl (e_move) ?_
      refine q_val (v := Nx (k)) rfl rfl rfl (e_move) ?_
      obtain ⟨x3, hx4⟩ : ∃ x_, (xs)[k]? = some x_ := ⟨_, List.getElem?_eq_getElem (by omega)⟩
      obtain ⟨ha5, cs6, hc7, rfl⟩ := ve _ _ hx4
      refine q_val (v := .pointer (some ((ba va).add (k * 1)))) rfl rfl rfl (e_indexAddr (k := k) (len := xs.length) (cap := vc) (a := va) rfl rfl tf41 (by omega) ha5) ?_
      refine q_val (v := Ux (x3)) rfl rfl rfl (e_load1 tf5 (v := Ux (x3)) rfl (Knows.of_base (Cs.mono _ _) hc7)) ?_
      refine q_val (v := .slice v'a (ys.length) (v'c)) rfl rfl rfl (e_move) ?_
      refine q_val (v := Nx (k)) rfl rfl rfl (e_move) ?_
      obtain ⟨x9, hx10⟩ : ∃ x_, (ys)[k]? = some x_ := ⟨_, List.getElem?_eq_getElem (by omega)⟩
      obtain ⟨ha11, cs12, hc13, rfl⟩ := v'e _ _ hx10
      refine q_val (v := .pointer (some ((ba v'a).add (k * 1)))) rfl rfl rfl (e_indexAddr (k := k) (len := ys.length) (cap := v'c) (a := v'a) rfl rfl tf41 (by omega) ha11) ?_
      refine q_val (v := Ux (x9)) rfl rfl rfl (e_load1 tf5 (v := Ux (x9)) rfl (Knows.of_base (Cs.mono _ _) hc13)) ?_
      refine q_val (v := .bool (decide (((x3).toNat : Int) ≠ ((x9).toNat : Int)))) rfl rfl rfl (e_neq (a := ((x3).toNat : Int)) (b := ((x9).toNat : Int)) rfl rfl) ?_
      refine q_nil ?_
      refine f_then ?_
      refine c_if (((x3).toNat : Int) ≠ ((x9).toNat : Int)) rfl (fun hc15 => ?_) (fun hc15 => ?_)
      ·
        refine c_seq ?_
        refine c_region ?_
        refine l_val (v := .bool false) rfl rfl rfl (e_assign) ?_
        refine l_nil ?_
        refine f_then ?_
        refine c_ret ?_
        refine f_block_ret ?_
        refine f_then_ret ?_
        refine f_then_ret ?_
        refine f_block_ret ?_
        refine f_then_ret ?_
        refine ret1 Tryz.results20 (v := .bool false) rfl ?_
        intro w hw
        exact ⟨bool_f (list_ne hx4 hx10 (fun e => hc15 (by rw [e]))), st_mask [] rfl hw⟩
      ·
        refine c_skip ?_
        refine f_block ?_
        refine f_then ?_
        refine c_region ?_
        refine l_val (v := Nx (k)) rfl rfl rfl (e_move) ?_
        refine l_val (v := Nx (k + 1)) rfl rfl rfl (e_add (a := ((k : Nat) : Int)) (b := (1 : Int)) rfl rfl (i64n (by omega) (by omega))) ?_
        refine l_val (v := Nx (k + 1)) rfl rfl rfl (e_assign) ?_
        refine l_nil ?_
        exact f_cut ⟨k + 1, ⟨⟨rfl, rfl, rfl⟩, rfl, ⟨by omega, take_next hx4 (by rw [hx10]; exact congrArg some (UInt64.toNat_inj.1 (by have := Decidable.not_not.1 hc15; omega)).symm) hp2⟩⟩, (show xs.length - (k + 1) < xs.length - k from by omega)⟩
    ·
      refine c_exit ?_
      refine f_then_exit ?_
      refine f_then_exit ?_
      refine f_exit ?_
      refine f_then ?_
      refine c_seq ?_
      refine c_region ?_
      refine l_val (v := .bool true) rfl rfl rfl (e_assign) ?_
      refine l_nil ?_
      refine f_then ?_
      refine c_ret ?_
      refine ret1 Tryz.results20 (v := .bool true) rfl ?_
      intro w hw
      exact ⟨bool_t (take_all hp2 (by omega) (by omega)), st_mask [] rfl hw⟩
theorem rof_ok (β : Base) (w : World) (hw : St β [] w) (x : KWorld) (v : Value) (hs : Sl EntR β.heap v x.ents) (hn : x.ents.length ≤ 1000) (hbig : ∀ (i : Nat) e, x.ents[i]? = some e → e.comps.length ≤ 20) (i : Int) : Calls Tryz.prog 21 #[.agg #[Ix x.tick, v], Ix i] w fun r w' => ∃ z, r = .returned z ∧ St β [row z 41 1 (dg x.ents i).length ((dg x.ents i).map fun z => Ux z)] w' := by
  obtain ⟨va, vc, rfl, vl, vm, ve⟩ := hs.get
  refine enter (n := 32) Tryz.func21 rfl Tryz.ntmps21 rfl ?_ hw
  refine c_seq ?_
  refine c_region ?_
  refine l_mv rfl rfl rfl (m_box (v := .agg #[Ix (x.tick), .slice va (x.ents.length) (vc)]) rfl) ?_
  rintro _ _ ⟨b1, rfl, rfl⟩
  refine l_val (v := .slice none 0 0) rfl rfl rfl (e_assign) ?_
  refine l_nil ?_
  refine f_then ?_
  refine c_seq ?_
  refine c_region ?_
  refine l_val (v := .slice none 0 0) rfl rfl rfl (e_assign) ?_
  refine l_nil ?_
  refine f_then ?_
  refine c_seq ?_
  refine c_seq ?_
  refine c_emp (r := row (.slice none 0 0) 41 1 0 []) (row_nil _ _ _) ?_
  refine c_region ?_
  refine l_val (v := .int .i64 (0)) rfl rfl rfl (e_assign) ?_
  refine l_nil ?_
  refine f_then ?_
  refine c_block ?_
  refine c_loop (fun (x_ : Nat × Value) (f : Fm) (L : List Res) => match x_ with | (k, z) => (f 1 = Ix (i) ∧ f 2 = .pointer (some ⟨b1, 0, none⟩) ∧ f 5 = z ∧ f 6 = Nx (k)) ∧ L = [row z 41 1 ((dg (x.ents.take k) i).length) (((dg (x.ents.take k) i).map fun z => Ux z)), pt b1 (.cells #[Ix (x.tick), .slice va (x.ents.length) (vc)] 24)] ∧ (k ≤ x.ents.length)) (fun (x_ : Nat × Value) => match x_ with | (k, z) => x.ents.length - k) (0, (.slice none 0 0)) ?_ ?_
  · exact ⟨⟨rfl, rfl, rfl, rfl⟩, (by simp [dg]; rfl), (by omega)⟩
  rintro ⟨k, z⟩ f0 L0 ⟨⟨hs1, hs2, hs5, hs6⟩, hL, hk⟩
  subst L0
  refine rebase (d := 1) hs1 ?_
  refine rebase (d := 2) hs2 ?_
  refine rebase (d := 5) hs5 ?_
  refine rebase (d := 6) hs6 ?_
  clear hs1 hs2 hs5 hs6
  have hdl := dg_length x.ents k i
  refine c_seq ?_
  refine c_seq ?_
  refine c_region ?_
  refine l_val (v := Nx (k)) rfl rfl rfl (e_move) ?_
  refine l_val (v := .pointer (some ⟨b1, 1, none⟩)) rfl rfl rfl (e_fieldPt (b := b1) (o := 0) rfl tf29) ?_
  refine l_val (v := .slice va (x.ents.length) (vc)) rfl rfl rfl (e_load1 tf30 (v := .slice va (x.ents.length) (vc)) rfl (k_pt 1 (cs := #[Ix (x.tick), .slice va (x.ents.length) (vc)]) (vs := [.slice va (x.ents.length) (vc)]) rfl rfl)) ?_
  refine l_val (v := Nx (x.ents.length)) rfl rfl rfl (e_len (a := va) (n := x.ents.length) (c := vc) rfl tf31) ?_
  refine l_val (v := .bool (decide (((k : Nat) : Int) < ((x.ents.length : Nat) : Int)))) rfl rfl rfl (e_lss (a := ((k : Nat) : Int)) (b := ((x.ents.length : Nat) : Int)) rfl rfl) ?_
  refine l_nil ?_
  refine f_then ?_
  refine c_if (((k : Nat) : Int) < ((x.ents.length : Nat) : Int)) rfl (fun hc2 => ?_) (fun hc2 => ?_)
  ·
    refine c_skip ?_
    refine f_then ?_
    refine c_seq ?_
    refine c_block ?_
    refine c_seq ?_
    refine c_region ?_
    refine l_val (v := .pointer (some ⟨b1, 1, none⟩)) rfl rfl rfl (e_fieldPt (b := b1) (o := 0) rfl tf29) ?_
    refine l_val (v := .slice va (x.ents.length) (vc)) rfl rfl rfl (e_load1 tf30 (v := .slice va (x.ents.length) (vc)) rfl (k_pt 1 (cs := #[Ix (x.tick), .slice va (x.ents.length) (vc)]) (vs := [.slice va (x.ents.length) (vc)]) rfl rfl)) ?_
    refine l_val (v := Nx (k)) rfl rfl rfl (e_move) ?_
    obtain ⟨x3, hx4⟩ : ∃ x_, (x.ents)[k]? = some x_ := ⟨_, List.getElem?_eq_getElem (by omega)⟩
    obtain ⟨ha5, cs6, hc7, hr8⟩ := ve _ _ hx4
    obtain ⟨v9, rfl, hv10⟩ := hr8
    obtain ⟨v9a, v9c, rfl, v9l, v9m, v9e⟩ := hv10.get
    refine l_val (v := .pointer (some ((ba va).add (k * 2)))) rfl rfl rfl (e_indexAddr (k := k) (len := x.ents.length) (cap := vc) (a := va) rfl rfl tf32 (by omega) ha5) ?_
    refine l_val (v := .pointer (some (((ba va).add (k * 2) : Addr).add 0))) rfl rfl rfl (e_fieldAddr (a := (ba va).add (k * 2)) rfl tf9) ?_
    refine l_val (v := Ix (x3.id)) rfl rfl rfl (e_load1 tf10 (v := Ix (x3.id)) rfl (Knows.imp (Knows.of_base (Cs.mono _ _) hc7) (fun _ h => Cs.sub (vs := [Ix (x3.id)]) 0 h rfl))) ?_
    refine l_val (v := Ix (i)) rfl rfl rfl (e_move) ?_
    refine l_val (v := .bool (decide ((x3.id) = (i)))) rfl rfl rfl (e_eql (a := (x3.id)) (b := (i)) rfl rfl) ?_
    refine l_nil ?_
    refine f_then ?_
    refine c_if ((x3.id) = (i)) rfl (fun hc11 => ?_) (fun hc11 => ?_)
    ·
      refine c_region ?_
      refine l_val (v := z) rfl rfl rfl (e_move) ?_
      refine l_val (v := .pointer (some ⟨b1, 1, none⟩)) rfl rfl rfl (e_fieldPt (b := b1) (o := 0) rfl tf29) ?_
      refine l_val (v := .slice va (x.ents.length) (vc)) rfl rfl rfl (e_load1 tf30 (v := .slice va (x.ents.length) (vc)) rfl (k_pt 1 (cs := #[Ix (x.tick), .slice va (x.ents.length) (vc)]) (vs := [.slice va (x.ents.length) (vc)]) rfl rfl)) ?_
      refine l_val (v := Nx (k)) rfl rfl rfl (e_move) ?_
      refine l_val (v := .pointer (some ((ba va).add (k * 2)))) rfl rfl rfl (e_indexAddr (k := k) (len := x.ents.length) (cap := vc) (a := va) rfl rfl tf32 (by omega) ha5) ?_
      refine l_val (v := .agg #[Ix (x3.id), .slice v9a (x3.comps.length) (v9c)]) rfl rfl rfl (e_load tf24 (cs := [Ix (x3.id), .slice v9a (x3.comps.length) (v9c)]) rfl (Knows.of_base (Cs.mono _ _) hc7) rfl) ?_
      refine l_call rfl rfl rfl (cl_value (fst := []) (cap := []) (vs := [.agg #[Ix (x3.id), .slice v9a (x3.comps.length) (v9c)]]) (all := [.agg #[Ix (x3.id), .slice v9a (x3.comps.length) (v9c)]]) tf82 rfl rfl rfl) ?_
      intro w hw
      obtain ⟨β1, sb, kn, hw1, back⟩ := St.frame_all hw
      refine (rentity_ok β1 w hw1 x3 _ (Sl.mono _ _ _ _ _ sb (⟨⟨_, _, rfl, v9l, v9m, v9e⟩⟩ : Sl CompR _ _ x3.comps)) (by have := hbig _ _ hx4; omega)).mono ?_
      rintro e w' ⟨rfl, hw'⟩
      refine ⟨_, rfl, _, back _ _ hw', ?_⟩
      clear hw hw1 hw' back kn sb
      refine l_mv rfl rfl rfl (m_slices tf41 tf4 (vs := [(0, Ux (entU x3))]) (cells := #[Ux (entU x3)]) rfl rfl rfl rfl) ?_
      rintro _ _ ⟨b12, rfl, rfl⟩
      refine l_mv rfl rfl rfl (m_append 1 tf41 tf45 (v := z) (m := (dg (x.ents.take k) i).length) (vs := ((dg (x.ents.take k) i).map fun z => Ux z)) (ad := ⟨b12, 0, none⟩) (k := 1) (c := 1) (news := [Ux (entU x3)]) rfl rfl rfl rfl (k_pt 0 (cs := #[Ux (entU x3)]) (vs := [Ux (entU x3)]) rfl rfl) rfl (by unfold maxLen; omega) (by omega)) ?_
      rintro v13 _ ⟨hnv13, rfl⟩
      refine l_val (v := v13) rfl rfl rfl (e_assign) ?_
      refine l_nil ?_
      refine f_block ?_
      refine f_then ?_
      refine c_region ?_
      refine l_val (v := Nx (k)) rfl rfl rfl (e_move) ?_
      refine l_val (v := Nx (k + 1)) rfl rfl rfl (e_add (a := ((k : Nat) : Int)) (b := (1 : Int)) rfl rfl (i64n (by omega) (by omega))) ?_
      refine l_val (v := Nx (k + 1)) rfl rfl rfl (e_assign) ?_
      refine l_nil ?_
      refine f_mask (L' := [row v13 41 1 (((dg (x.ents.take k) i).length) + 1) (((dg (x.ents.take k) i).map fun z => Ux z) ++ [Ux (entU x3)]), pt b1 (.cells #[Ix (x.tick), .slice va (x.ents.length) (vc)] 24)]) [false, true, true] rfl ?_
      exact f_cut ⟨(k + 1, v13), ⟨⟨rfl, rfl, rfl, rfl⟩, (by rw [dg_snoc hx4, if_pos hc11]; simp), (by omega)⟩, (show x.ents.length - (k + 1) < x.ents.length - k from by omega)⟩
    ·
      refine c_skip ?_
      refine f_block ?_
      refine f_then ?_
      refine c_region ?_
      refine l_val (v := Nx (k)) rfl rfl rfl (e_move) ?_
      refine l_val (v := Nx (k + 1)) rfl rfl rfl (e_add (a := ((k : Nat) : Int)) (b := (1 : Int)) rfl rfl (i64n (by omega) (by omega))) ?_
      refine l_val (v := Nx (k + 1)) rfl rfl rfl (e_assign) ?_
      refine l_nil ?_
      exact f_cut ⟨(k + 1, z), ⟨⟨rfl, rfl, rfl, rfl⟩, (by rw [dg_snoc hx4, if_neg hc11]; simp), (by omega)⟩, (show x.ents.length - (k + 1) < x.ents.length - k from by omega)⟩
  ·
    refine c_exit ?_
    refine f_then_exit ?_
    refine f_then_exit ?_
    refine f_exit ?_
    refine f_then ?_
    refine c_seq ?_
    refine c_region ?_
    refine l_val (v := z) rfl rfl rfl (e_move) ?_
    refine l_val (v := z) rfl rfl rfl (e_assign) ?_
    refine l_nil ?_
    refine f_then ?_
    refine c_ret ?_
    refine ret1 Tryz.results21 (v := z) rfl ?_
    intro w hw
    rw [List.take_of_length_le (show x.ents.length ≤ k by omega)] at hw
    exact ⟨_, rfl, st_mask [true, false] rfl hw⟩
set_option maxHeartbeats 4000000 in
theorem rdiffer_ok (β : Base) (w : World) (hw : St β [] w) (x y : KWorld) (v v' : Value) (hs : Sl EntR β.heap v x.ents) (hs' : Sl EntR β.heap v' y.ents) (hxn : x.ents.length ≤ 1000) (hxbig : ∀ (i : Nat) e, x.ents[i]? = some e → e.comps.length ≤ 20) (hyn : y.ents.length ≤ 1000) (hybig : ∀ (i : Nat) e, y.ents[i]? = some e → e.comps.length ≤ 20) : Calls Tryz.prog 9 #[.agg #[Ix x.tick, v], .agg #[Ix y.tick, v']] w fun r w' => ∃ p c, r = .returned (.slice p (differU x y).length c) ∧ St β [row (.slice p (differU x y).length c) 3 1 (differU x y).length ((differU x y).map fun z => Ix z)] w' := by
  obtain ⟨va, vc, rfl, vl, vm, ve⟩ := hs.get
  obtain ⟨v'a, v'c, rfl, v'l, v'm, v'e⟩ := hs'.get
  refine enter (n := 76) Tryz.func9 rfl Tryz.ntmps9 rfl ?_ hw
  refine c_seq ?_
  refine c_region ?_
  refine l_mv rfl rfl rfl (m_box (v := .agg #[Ix (x.tick), .slice va (x.ents.length) (vc)]) rfl) ?_
  rintro _ _ ⟨b1, rfl, rfl⟩
  refine l_mv rfl rfl rfl (m_box (v := .agg #[Ix (y.tick), .slice v'a (y.ents.length) (v'c)]) rfl) ?_
  rintro _ _ ⟨b2, rfl, rfl⟩
  refine l_val (v := .slice none 0 0) rfl rfl rfl (e_assign) ?_
  refine l_nil ?_
  refine f_then ?_
  refine c_seq ?_
  obtain ⟨us5, hg6, hcs7⟩ := elems_ents ve
  obtain ⟨us12, hg13, hcs14⟩ := elems_ents v'e
  refine c_any [⟨[], [], [], [10], fun f => f 10 = .slice (some ⟨(blk (f 10)), 0, none⟩) 0 0⟩, ⟨[], [], [0], [11], fun f => f 11 = .pointer (some ⟨b1, 1, none⟩)⟩, ⟨[1], [1], [], [12], fun f => f 12 = .slice va (x.ents.length) (vc)⟩, ⟨[0, 1, 2], [0, 2], [], [13], fun f => f 13 = .slice (sla (f 13)) (0 + x.ents.length) (slc (f 13))⟩, ⟨[], [], [1], [14], fun f => f 14 = .pointer (some ⟨b2, 1, none⟩)⟩, ⟨[4], [4], [], [15], fun f => f 15 = .slice v'a (y.ents.length) (v'c)⟩, ⟨[0, 1, 2, 3, 4, 5], [3, 5], [], [16], fun f => f 16 = .slice (sla (f 16)) ((0 + x.ents.length) + y.ents.length) (slc (f 16))⟩, ⟨[0, 1, 2, 3, 4, 5, 6], [6], [], [5, 16], fun f => f 5 = .slice (sla (f 16)) ((0 + x.ents.length) + y.ents.length) (slc (f 16))⟩] [⟨none, none, [5], [], fun _ => pt b2 (.cells #[Ix (y.tick), .slice v'a (y.ents.length) (v'c)] 24)⟩, ⟨none, none, [2], [], fun _ => pt b1 (.cells #[Ix (x.tick), .slice va (x.ents.length) (vc)] 24)⟩, ⟨(some 0), (some 3), [3], [10], fun f => pt (blk (f 10)) (.cells #[] 35)⟩, ⟨(some 3), (some 6), [6], [13], fun f => row (.slice (sla (f 13)) (0 + x.ents.length) (slc (f 13))) 35 2 (0 + x.ents.length) ([] ++ (entCells us5 x.ents))⟩, ⟨(some 6), none, [], [16], fun f => row (.slice (sla (f 16)) ((0 + x.ents.length) + y.ents.length) (slc (f 16))) 35 2 ((0 + x.ents.length) + y.ents.length) ([] ++ (entCells us5 x.ents) ++ (entCells us12 y.ents))⟩] [(2, .pointer (some ⟨b1, 0, none⟩)), (3, .pointer (some ⟨b2, 0, none⟩))] [0, 1] [] (by kernel_rfl) (by kernel_rfl) (by kernel_rfl) (by kernel_rfl) rfl ⟨rfl, rfl, trivial⟩ ⟨?_, ?_, ?_, ?_, ?_, ?_, ?_, ?_, trivial⟩ ?_
  · rintro f M - -
    refine ob_start (L' := M) (by rfl) rfl ?_
    refine l_mv rfl rfl rfl (m_slice0 tf32) ?_
    rintro _ _ ⟨b4, rfl, rfl⟩
    refine l_nil ?_
    exact f_owes_d rfl rfl (perm_front 0 rfl)
  · rintro f M - ⟨i0, -⟩
    have hs2 : f 2 = .pointer (some ⟨b1, 0, none⟩) := i0
    refine ob_start (L' := M) (by rfl) (up_cons rfl hs2) ?_
    refine l_val (v := .pointer (some ⟨b1, 1, none⟩)) rfl rfl rfl (e_fieldPt (b := b1) (o := 0) rfl tf29) ?_
    refine l_nil ?_
    exact f_owes_d (up_cons rfl hs2) rfl (List.Perm.refl _)
  · rintro f M ⟨k0, -⟩ -
    have hs11 : f 11 = .pointer (some ⟨b1, 1, none⟩) := k0
    refine ob_start (L' := pt b1 (.cells #[Ix (x.tick), .slice va (x.ents.length) (vc)] 24) :: M) (by rfl) (up_cons rfl hs11) ?_
    refine l_val (v := .slice va (x.ents.length) (vc)) rfl rfl rfl (e_load1 tf30 (v := .slice va (x.ents.length) (vc)) rfl (k_pt 0 (cs := #[Ix (x.tick), .slice va (x.ents.length) (vc)]) (vs := [.slice va (x.ents.length) (vc)]) rfl rfl)) ?_
    refine l_nil ?_
    exact f_owes_d (up_cons rfl hs11) rfl (perm_front 0 rfl)
  · rintro f M ⟨k0, k1, -⟩ -
    have hs10 : f 10 = .slice (some ⟨(blk (f 10)), 0, none⟩) 0 0 := k0
    have hs12 : f 12 = .slice va (x.ents.length) (vc) := k1
    refine ob_start (L' := pt (blk (f 10)) (.cells #[] 35) :: M) (by rfl) (up_cons (up_cons rfl hs10) hs12) ?_
    refine l_conseq 0 (r' := row (.slice (some ⟨(blk (f 10)), 0, none⟩) 0 0) 35 2 0 []) rfl (fun a h => pt_row (m := 0) (by decide) rfl a h) ?_
    refine l_mv rfl rfl rfl (m_append_w 0 tf32 tf72 (v := .slice (some ⟨(blk (f 10)), 0, none⟩) 0 0) (m := 0) (vs := []) (ao := va) (k := x.ents.length) (c := vc) (news := (entCells us5 x.ents)) rfl rfl rfl (ent_length hg6.1) (Knows.of_base (Cs.mono _ _) hcs7) (ent_one hg6) (elems_ba ve) (by unfold maxLen; omega) (by omega)) ?_
    rintro _ _ ⟨rp10, rc11, rfl, rfl⟩
    refine l_nil ?_
    exact f_owes_d (up_cons (up_cons rfl hs10) hs12) rfl (perm_front 0 rfl)
  · rintro f M - ⟨i0, -⟩
    have hs3 : f 3 = .pointer (some ⟨b2, 0, none⟩) := i0
    refine ob_start (L' := M) (by rfl) (up_cons rfl hs3) ?_
    refine l_val (v := .pointer (some ⟨b2, 1, none⟩)) rfl rfl rfl (e_fieldPt (b := b2) (o := 0) rfl tf29) ?_
    refine l_nil ?_
    exact f_owes_d (up_cons rfl hs3) rfl (List.Perm.refl _)
  · rintro f M ⟨k0, -⟩ -
    have hs14 : f 14 = .pointer (some ⟨b2, 1, none⟩) := k0
    refine ob_start (L' := pt b2 (.cells #[Ix (y.tick), .slice v'a (y.ents.length) (v'c)] 24) :: M) (by rfl) (up_cons rfl hs14) ?_
    refine l_val (v := .slice v'a (y.ents.length) (v'c)) rfl rfl rfl (e_load1 tf30 (v := .slice v'a (y.ents.length) (v'c)) rfl (k_pt 0 (cs := #[Ix (y.tick), .slice v'a (y.ents.length) (v'c)]) (vs := [.slice v'a (y.ents.length) (v'c)]) rfl rfl)) ?_
    refine l_nil ?_
    exact f_owes_d (up_cons rfl hs14) rfl (perm_front 0 rfl)
  · rintro f M ⟨k0, k1, -⟩ -
    have hs13 : f 13 = .slice (sla (f 13)) (0 + x.ents.length) (slc (f 13)) := k0
    have hs15 : f 15 = .slice v'a (y.ents.length) (v'c) := k1
    refine ob_start (L' := row (.slice (sla (f 13)) (0 + x.ents.length) (slc (f 13))) 35 2 (0 + x.ents.length) ([] ++ (entCells us5 x.ents)) :: M) (by rfl) (up_cons (up_cons rfl hs13) hs15) ?_
    refine l_mv rfl rfl rfl (m_append_w 0 tf32 tf72 (v := .slice (sla (f 13)) (0 + x.ents.length) (slc (f 13))) (m := 0 + x.ents.length) (vs := [] ++ (entCells us5 x.ents)) (ao := v'a) (k := y.ents.length) (c := v'c) (news := (entCells us12 y.ents)) rfl rfl rfl (ent_length hg13.1) (Knows.of_base (Cs.mono _ _) hcs14) (ent_one hg13) (elems_ba v'e) (by unfold maxLen; omega) (by omega)) ?_
    rintro _ _ ⟨rp17, rc18, rfl, rfl⟩
    refine l_nil ?_
    exact f_owes_d (up_cons (up_cons rfl hs13) hs15) rfl (perm_front 0 rfl)
  · rintro f M ⟨k0, -⟩ -
    have hs16 : f 16 = .slice (sla (f 16)) ((0 + x.ents.length) + y.ents.length) (slc (f 16)) := k0
    refine ob_start (L' := M) (by rfl) (up_cons rfl hs16) ?_
    refine l_val (v := .slice (sla (f 16)) ((0 + x.ents.length) + y.ents.length) (slc (f 16))) rfl rfl rfl (e_assign) ?_
    refine l_nil ?_
    exact f_owes_d (up_cons rfl hs16) rfl (List.Perm.refl _)
  rintro fa19 ⟨-, -, -, -, -, -, -, k7, -⟩ ⟨j0, j1, -⟩
  refine f_re (L' := [pt b2 (.cells #[Ix (y.tick), .slice v'a (y.ents.length) (v'c)] 24), pt b1 (.cells #[Ix (x.tick), .slice va (x.ents.length) (vc)] 24), row (.slice (sla (fa19 16)) ((0 + x.ents.length) + y.ents.length) (slc (fa19 16))) 35 2 ((0 + x.ents.length) + y.ents.length) ([] ++ (entCells us5 x.ents) ++ (entCells us12 y.ents))]) (by rfl) ?_
  refine f_rebase (d := 2) (v := .pointer (some ⟨b1, 0, none⟩)) j0 ?_
  refine f_rebase (d := 3) (v := .pointer (some ⟨b2, 0, none⟩)) j1 ?_
  refine f_rebase (d := 5) (v := .slice (sla (fa19 16)) ((0 + x.ents.length) + y.ents.length) (slc (fa19 16))) k7 ?_
  refine f_then ?_
  refine c_seq ?_
  refine c_perm (L' := [pt b2 (.cells #[Ix (y.tick), .slice v'a (y.ents.length) (v'c)] 24), pt b1 (.cells #[Ix (x.tick), .slice va (x.ents.length) (vc)] 24), row (.slice (sla (fa19 16)) ((0 + x.ents.length) + y.ents.length) (slc (fa19 16))) 35 2 ((0 + x.ents.length) + y.ents.length) ([] ++ (entCells us5 x.ents) ++ (entCells us12 y.ents))]) (((perm_front 2 rfl).trans (perm_front 2 rfl)).trans (perm_front 2 rfl)) ?_
  refine c_freeze (M := [pt b2 (.cells #[Ix (y.tick), .slice v'a (y.ents.length) (v'c)] 24), pt b1 (.cells #[Ix (x.tick), .slice va (x.ents.length) (vc)] 24)]) (K := [row (.slice (sla (fa19 16)) ((0 + x.ents.length) + y.ents.length) (slc (fa19 16))) 35 2 ((0 + x.ents.length) + y.ents.length) ([] ++ (entCells us5 x.ents) ++ (entCells us12 y.ents))]) rfl (fun β₁ ext₁ kn₁ => ?_)
  obtain ⟨al, hal⟩ : ∃ z, z = x.ents ++ y.ents := ⟨_, rfl⟩
  have hall : al.length = x.ents.length + y.ents.length := by rw [hal]; simp
  have hA : Sl EntR β₁.heap (.slice (sla (fa19 16)) ((0 + x.ents.length) + y.ents.length) (slc (fa19 16))) al := by rw [hal]; exact kn₁ _ (k_row_ents (us := us5 ++ us12) (zs := x.ents ++ y.ents) 0 (by rw [ent_cells_append hg6.1]; rfl) (hg6.append hg13) (by simp))
  rw [show (0 + x.ents.length) + y.ents.length = al.length by omega] at hA ⊢
  generalize (sla (fa19 16)) = ap at hA ⊢
  generalize (slc (fa19 16)) = ac at hA ⊢
  obtain ⟨Al, Am, Ae⟩ := sl_parts hA
  clear hA
  replace ve := Elems.mono EntR _ _ _ _ ext₁.sub ve
  replace v'e := Elems.mono EntR _ _ _ _ ext₁.sub v'e
  refine c_emp (r := row (.slice none 0 0) 3 1 0 []) (row_nil _ _ _) ?_
  refine c_region ?_
  refine l_val (v := .slice none 0 0) rfl rfl rfl (e_assign) ?_
  refine l_nil ?_
  refine f_then ?_
  refine c_block ?_
  refine c_loop (fun (x_ : List Int × Option Addr × Nat) (f : Fm) (L : List Res) => match x_ with | (out, op, oc) => (f 2 = .pointer (some ⟨b1, 0, none⟩) ∧ f 3 = .pointer (some ⟨b2, 0, none⟩) ∧ f 5 = .slice ap (al.length) (ac) ∧ f 6 = .slice op (out.length) oc) ∧ L = [row (.slice op (out.length) oc) 3 1 (out.length) ((out.map fun z => Ix z)), pt b2 (.cells #[Ix (y.tick), .slice v'a (y.ents.length) (v'c)] 24), pt b1 (.cells #[Ix (x.tick), .slice va (x.ents.length) (vc)] 24)] ∧ (Found x y out)) (fun (x_ : List Int × Option Addr × Nat) => match x_ with | (out, op, oc) => left al out) ([], none, 0) ?_ ?_
  · exact ⟨⟨rfl, rfl, rfl, rfl⟩, rfl, (Found.start x y)⟩
  rintro ⟨out, op, oc⟩ f0 L0 ⟨⟨hs2, hs3, hs5, hs6⟩, hL, hfd⟩
  subst L0
  refine rebase (d := 2) hs2 ?_
  refine rebase (d := 3) hs3 ?_
  refine rebase (d := 5) hs5 ?_
  refine rebase (d := 6) hs6 ?_
  clear hs2 hs3 hs5 hs6
  have hlf := left_le hfd hal
  refine c_block ?_
  refine c_seq ?_
  refine c_region ?_
  refine l_val (v := .int .i64 (-1)) rfl rfl rfl (e_assign) ?_
  refine l_nil ?_
  refine f_then ?_
  refine c_seq ?_
  refine c_seq ?_
  refine c_region ?_
  refine l_val (v := .int .i64 (0)) rfl rfl rfl (e_assign) ?_
  refine l_nil ?_
  refine f_then ?_
  refine c_block ?_
  refine c_loop (fun (x_ : Nat × Option Nat) (f : Fm) (L : List Res) => match x_ with | (j, bo) => (f 2 = .pointer (some ⟨b1, 0, none⟩) ∧ f 3 = .pointer (some ⟨b2, 0, none⟩) ∧ f 5 = .slice ap (al.length) (ac) ∧ f 6 = .slice op (out.length) oc ∧ f 7 = Ix (bi bo) ∧ f 8 = Nx (j)) ∧ L = [row (.slice op (out.length) oc) 3 1 (out.length) ((out.map fun z => Ix z)), pt b2 (.cells #[Ix (y.tick), .slice v'a (y.ents.length) (v'c)] 24), pt b1 (.cells #[Ix (x.tick), .slice va (x.ents.length) (vc)] 24)] ∧ (j ≤ al.length ∧ Best x y al out j bo)) (fun (x_ : Nat × Option Nat) => match x_ with | (j, bo) => al.length - j) (0, none) ?_ ?_
  · exact ⟨⟨rfl, rfl, rfl, rfl, rfl, rfl⟩, rfl, ⟨by omega, Best.start _ _ _ _⟩⟩
  rintro ⟨j, bo⟩ f0 L0 ⟨⟨hs2, hs3, hs5, hs6, hs7, hs8⟩, hL, ⟨hj, hbest⟩⟩
  subst L0
  refine rebase (d := 2) hs2 ?_
  refine rebase (d := 3) hs3 ?_
  refine rebase (d := 5) hs5 ?_
  refine rebase (d := 6) hs6 ?_
  refine rebase (d := 7) hs7 ?_
  refine rebase (d := 8) hs8 ?_
  clear hs2 hs3 hs5 hs6 hs7 hs8
  refine c_seq ?_
  refine c_seq ?_
  refine c_region ?_
  refine l_val (v := Nx (j)) rfl rfl rfl (e_move) ?_
  refine l_val (v := .slice ap (al.length) (ac)) rfl rfl rfl (e_move) ?_
  refine l_val (v := Nx (al.length)) rfl rfl rfl (e_len (a := ap) (n := al.length) (c := ac) rfl tf31) ?_
  refine l_val (v := .bool (decide (((j : Nat) : Int) < ((al.length : Nat) : Int)))) rfl rfl rfl (e_lss (a := ((j : Nat) : Int)) (b := ((al.length : Nat) : Int)) rfl rfl) ?_
  refine l_nil ?_
  refine f_then ?_
  refine c_if (((j : Nat) : Int) < ((al.length : Nat) : Int)) rfl (fun hc20 => ?_) (fun hc20 => ?_)
  ·
    refine c_skip ?_
    refine f_then ?_
    refine c_seq ?_
    refine c_block ?_
    refine c_seq ?_
    cases bo with
    | none =>
      refine rebase (d := 7) (v := .int .i64 (-1)) rfl ?_
      refine c_region ?_
      refine l_val (v := .slice ap (al.length) (ac)) rfl rfl rfl (e_move) ?_
      refine l_val (v := Nx (j)) rfl rfl rfl (e_move) ?_
      obtain ⟨x21, hx22⟩ : ∃ x_, (al)[j]? = some x_ := ⟨_, List.getElem?_eq_getElem (by omega)⟩
      obtain ⟨ha23, cs24, hc25, hr26⟩ := Ae _ _ hx22
      obtain ⟨v27, rfl, hv28⟩ := hr26
      obtain ⟨v27a, v27c, rfl, v27l, v27m, v27e⟩ := hv28.get
      refine l_val (v := .pointer (some ((ba ap).add (j * 2)))) rfl rfl rfl (e_indexAddr (k := j) (len := al.length) (cap := ac) (a := ap) rfl rfl tf32 (by omega) ha23) ?_
      refine l_val (v := .pointer (some (((ba ap).add (j * 2) : Addr).add 0))) rfl rfl rfl (e_fieldAddr (a := (ba ap).add (j * 2)) rfl tf9) ?_
      refine l_val (v := Ix (x21.id)) rfl rfl rfl (e_load1 tf10 (v := Ix (x21.id)) rfl (Knows.imp (Knows.of_base (Cs.mono _ _) hc25) (fun _ h => Cs.sub (vs := [Ix (x21.id)]) 0 h rfl))) ?_
      refine l_val (v := Ix (x21.id)) rfl rfl rfl (e_assign) ?_
      refine l_nil ?_
      refine f_then ?_
      refine c_seq ?_
      by_cases hg29 : ((out.length : Nat) : Int) = (0 : Int)
      ·
        refine c_any [⟨[], [], [0], [28], fun f => f 28 = .slice op (out.length) oc⟩, ⟨[0], [0], [], [29], fun f => f 29 = Nx (out.length)⟩, ⟨[0, 1], [1], [], [30], fun f => f 30 = .bool true⟩, ⟨[0, 1, 2], [2], [], [31], fun f => f 31 = .bool true⟩, ⟨[0, 1, 2, 3], [3], [1], [32], fun f => f 32 = undef⟩, ⟨[0, 1, 2, 3], [3], [0], [33], fun f => f 33 = undef⟩, ⟨[0, 1, 2, 3], [3], [0], [34], fun f => f 34 = undef⟩, ⟨[0, 1, 2, 3, 6], [6, 3], [], [35], fun f => f 35 = undef⟩, ⟨[0, 1, 2, 3, 6, 7], [7, 3], [], [36], fun f => f 36 = undef⟩, ⟨[0, 1, 2, 3, 5, 6, 7, 8], [5, 8, 3], [], [37], fun f => f 37 = undef⟩, ⟨[0, 1, 2, 3, 5, 6, 7, 8, 9], [9, 3], [], [38], fun f => f 38 = undef⟩, ⟨[0, 1, 2, 3, 4, 5, 6, 7, 8, 9, 10], [4, 10, 3], [], [39], fun f => f 39 = undef⟩, ⟨[0, 1, 2, 3, 4, 5, 6, 7, 8, 9, 10, 11], [3, 11], [], [40], fun f => f 40 = .bool true⟩, ⟨[0, 1, 2, 3, 4, 5, 6, 7, 8, 9, 10, 11, 12], [12], [], [41], fun f => f 41 = .bool true⟩, ⟨[0, 1, 2, 3, 4, 5, 6, 7, 8, 9, 10, 11, 12, 13], [13], [2], [42], fun f => f 42 = .int .i64 (-1)⟩, ⟨[0, 1, 2, 3, 4, 5, 6, 7, 8, 9, 10, 11, 12, 13, 14], [14, 13], [], [43], fun f => f 43 = .bool true⟩, ⟨[0, 1, 2, 3, 4, 5, 6, 7, 8, 9, 10, 11, 12, 13, 14, 15], [15, 13], [], [44], fun f => f 44 = .bool true⟩, ⟨[0, 1, 2, 3, 4, 5, 6, 7, 8, 9, 10, 11, 12, 13, 14, 15, 16], [16], [1], [45], fun f => f 45 = undef⟩, ⟨[0, 1, 2, 3, 4, 5, 6, 7, 8, 9, 10, 11, 12, 13, 14, 15, 16], [16], [3], [46], fun f => f 46 = undef⟩, ⟨[0, 1, 2, 3, 4, 5, 6, 7, 8, 9, 10, 11, 12, 13, 14, 15, 16], [16], [2], [47], fun f => f 47 = undef⟩, ⟨[0, 1, 2, 3, 4, 5, 6, 7, 8, 9, 10, 11, 12, 13, 14, 15, 16, 18, 19], [18, 19, 16], [], [48], fun f => f 48 = undef⟩, ⟨[0, 1, 2, 3, 4, 5, 6, 7, 8, 9, 10, 11, 12, 13, 14, 15, 16, 18, 19, 20], [20, 16], [], [49], fun f => f 49 = undef⟩, ⟨[0, 1, 2, 3, 4, 5, 6, 7, 8, 9, 10, 11, 12, 13, 14, 15, 16, 18, 19, 20, 21], [21, 16], [], [50], fun f => f 50 = undef⟩, ⟨[0, 1, 2, 3, 4, 5, 6, 7, 8, 9, 10, 11, 12, 13, 14, 15, 16, 17, 18, 19, 20, 21, 22], [17, 22, 16], [], [51], fun f => f 51 = undef⟩, ⟨[0, 1, 2, 3, 4, 5, 6, 7, 8, 9, 10, 11, 12, 13, 14, 15, 16, 17, 18, 19, 20, 21, 22, 23], [16, 23, 13], [], [52], fun f => f 52 = .bool true⟩, ⟨[0, 1, 2, 3, 4, 5, 6, 7, 8, 9, 10, 11, 12, 13, 14, 15, 16, 17, 18, 19, 20, 21, 22, 23, 24], [13, 24], [], [53], fun f => f 53 = .bool true⟩, ⟨[0, 1, 2, 3, 4, 5, 6, 7, 8, 9, 10, 11, 12, 13, 14, 15, 16, 17, 18, 19, 20, 21, 22, 23, 24, 25], [25], [], [54], fun f => f 54 = .bool true⟩, ⟨[0, 1, 2, 3, 4, 5, 6, 7, 8, 9, 10, 11, 12, 13, 14, 15, 16, 17, 18, 19, 20, 21, 22, 23, 24, 25, 26], [26], [4], [55], fun f => f 55 = .agg #[Ix (x.tick), .slice va (x.ents.length) (vc)]⟩, ⟨[0, 1, 2, 3, 4, 5, 6, 7, 8, 9, 10, 11, 12, 13, 14, 15, 16, 17, 18, 19, 20, 21, 22, 23, 24, 25, 26], [26], [1], [56], fun f => f 56 = Ix (x21.id)⟩, ⟨[0, 1, 2, 3, 4, 5, 6, 7, 8, 9, 10, 11, 12, 13, 14, 15, 16, 17, 18, 19, 20, 21, 22, 23, 24, 25, 26, 27, 28], [27, 28, 26], [], [57], fun f => f 57 = ((f 57))⟩, ⟨[0, 1, 2, 3, 4, 5, 6, 7, 8, 9, 10, 11, 12, 13, 14, 15, 16, 17, 18, 19, 20, 21, 22, 23, 24, 25, 26], [26], [5], [58], fun f => f 58 = .agg #[Ix (y.tick), .slice v'a (y.ents.length) (v'c)]⟩, ⟨[0, 1, 2, 3, 4, 5, 6, 7, 8, 9, 10, 11, 12, 13, 14, 15, 16, 17, 18, 19, 20, 21, 22, 23, 24, 25, 26], [26], [1], [59], fun f => f 59 = Ix (x21.id)⟩, ⟨[0, 1, 2, 3, 4, 5, 6, 7, 8, 9, 10, 11, 12, 13, 14, 15, 16, 17, 18, 19, 20, 21, 22, 23, 24, 25, 26, 27, 28, 29, 30, 31], [30, 31, 26], [], [60], fun f => f 60 = ((f 60))⟩, ⟨[0, 1, 2, 3, 4, 5, 6, 7, 8, 9, 10, 11, 12, 13, 14, 15, 16, 17, 18, 19, 20, 21, 22, 23, 24, 25, 26, 27, 28, 29, 30, 31, 32], [29, 32, 26], [], [61], fun f => f 61 = .bool (decide ((dg x.ents x21.id) = (dg y.ents x21.id)))⟩, ⟨[0, 1, 2, 3, 4, 5, 6, 7, 8, 9, 10, 11, 12, 13, 14, 15, 16, 17, 18, 19, 20, 21, 22, 23, 24, 25, 26, 27, 28, 29, 30, 31, 32, 33], [33, 26], [], [62], fun f => f 62 = .bool (decide (¬ ((dg x.ents x21.id) = (dg y.ents x21.id))))⟩, ⟨[0, 1, 2, 3, 4, 5, 6, 7, 8, 9, 10, 11, 12, 13, 14, 15, 16, 17, 18, 19, 20, 21, 22, 23, 24, 25, 26, 27, 28, 29, 30, 31, 32, 33, 34], [26, 34], [], [63], fun f => f 63 = .bool (decide (¬ ((dg x.ents x21.id) = (dg y.ents x21.id))))⟩] [⟨none, none, [], [], fun _ => row (.slice op (out.length) oc) 3 1 (out.length) ((out.map fun z => Ix z))⟩, ⟨none, none, [30], [], fun _ => pt b2 (.cells #[Ix (y.tick), .slice v'a (y.ents.length) (v'c)] 24)⟩, ⟨none, none, [27], [], fun _ => pt b1 (.cells #[Ix (x.tick), .slice va (x.ents.length) (vc)] 24)⟩, ⟨(some 29), none, [33], [57], fun f => row ((f 57)) 41 1 ((dg x.ents x21.id).length) (((dg x.ents x21.id).map fun z => Ux z))⟩, ⟨(some 32), none, [33], [60], fun f => row ((f 60)) 41 1 ((dg y.ents x21.id).length) (((dg y.ents x21.id).map fun z => Ux z))⟩] [(6, .slice op (out.length) oc), (9, Ix (x21.id)), (7, .int .i64 (-1)), (5, .slice ap (al.length) (ac)), (2, .pointer (some ⟨b1, 0, none⟩)), (3, .pointer (some ⟨b2, 0, none⟩)), (8, Nx (j))] [4, 5, 3, 0, 2, 6] [] (by kernel_rfl) (by kernel_rfl) (by kernel_rfl) (by kernel_rfl) rfl ⟨rfl, rfl, rfl, rfl, rfl, rfl, rfl, trivial⟩ ⟨?_, ?_, ?_, ?_, ?_, ?_, ?_, ?_, ?_, ?_, ?_, ?_, ?_, ?_, ?_, ?_, ?_, ?_, ?_, ?_, ?_, ?_, ?_, ?_, ?_, ?_, ?_, ?_, ?_, ?_, ?_, ?_, ?_, ?_, ?_, ?_, trivial⟩ ?_
        · rintro f M - ⟨i0, -⟩
          have hs6 : f 6 = .slice op (out.length) oc := i0
          refine ob_start (L' := M) (by rfl) (up_cons rfl hs6) ?_
          refine l_val (v := .slice op (out.length) oc) rfl rfl rfl (e_move) ?_
          refine l_nil ?_
          exact f_owes_d (up_cons rfl hs6) rfl (List.Perm.refl _)
        · rintro f M ⟨k0, -⟩ -
          have hs28 : f 28 = .slice op (out.length) oc := k0
          refine ob_start (L' := M) (by rfl) (up_cons rfl hs28) ?_
          refine l_val (v := Nx (out.length)) rfl rfl rfl (e_len (a := op) (n := out.length) (c := oc) rfl tf38) ?_
          refine l_nil ?_
          exact f_owes_d (up_cons rfl hs28) rfl (List.Perm.refl _)
        · rintro f M ⟨k0, -⟩ -
          have hs29 : f 29 = Nx (out.length) := k0
          refine ob_start (L' := M) (by rfl) (up_cons rfl hs29) ?_
          refine l_val (v := .bool true) rfl rfl rfl ((ev_t hg29 (e_eql (a := ((out.length : Nat) : Int)) (b := (0 : Int)) rfl rfl))) ?_
          refine l_nil ?_
          exact f_owes_d (up_cons rfl hs29) rfl (List.Perm.refl _)
        · rintro f M ⟨k0, -⟩ -
          have hs30 : f 30 = .bool true := k0
          refine ob_start (L' := M) (by rfl) (up_cons rfl hs30) ?_
          refine l_val (v := .bool true) rfl rfl rfl (e_move) ?_
          refine l_nil ?_
          exact f_owes_d (up_cons rfl hs30) rfl (List.Perm.refl _)
        · rintro f M ⟨k0, -⟩ ⟨i0, -⟩
          have hs9 : f 9 = Ix (x21.id) := i0
          have hs31 : f 31 = .bool true := k0
          refine ob_start (L' := M) (by rfl) (up_cons (up_cons rfl hs9) hs31) ?_
          refine l_skip rfl rfl rfl rfl rfl rfl ?_
          refine l_nil ?_
          exact f_owes_d (up_cons (up_cons rfl hs9) hs31) rfl (List.Perm.refl _)
        · rintro f M ⟨k0, -⟩ ⟨i0, -⟩
          have hs6 : f 6 = .slice op (out.length) oc := i0
          have hs31 : f 31 = .bool true := k0
          refine ob_start (L' := M) (by rfl) (up_cons (up_cons rfl hs6) hs31) ?_
          refine l_skip rfl rfl rfl rfl rfl rfl ?_
          refine l_nil ?_
          exact f_owes_d (up_cons (up_cons rfl hs6) hs31) rfl (List.Perm.refl _)
        · rintro f M ⟨k0, -⟩ ⟨i0, -⟩
          have hs6 : f 6 = .slice op (out.length) oc := i0
          have hs31 : f 31 = .bool true := k0
          refine ob_start (L' := M) (by rfl) (up_cons (up_cons rfl hs6) hs31) ?_
          refine l_skip rfl rfl rfl rfl rfl rfl ?_
          refine l_nil ?_
          exact f_owes_d (up_cons (up_cons rfl hs6) hs31) rfl (List.Perm.refl _)
        · rintro f M ⟨k0, k1, -⟩ -
          have hs34 : f 34 = undef := k0
          have hs31 : f 31 = .bool true := k1
          refine ob_start (L' := M) (by rfl) (up_cons (up_cons rfl hs34) hs31) ?_
          refine l_skip rfl rfl rfl rfl rfl rfl ?_
          refine l_nil ?_
          exact f_owes_d (up_cons (up_cons rfl hs34) hs31) rfl (List.Perm.refl _)
        · rintro f M ⟨k0, k1, -⟩ -
          have hs35 : f 35 = undef := k0
          have hs31 : f 31 = .bool true := k1
          refine ob_start (L' := M) (by rfl) (up_cons (up_cons rfl hs35) hs31) ?_
          refine l_skip rfl rfl rfl rfl rfl rfl ?_
          refine l_nil ?_
          exact f_owes_d (up_cons (up_cons rfl hs35) hs31) rfl (List.Perm.refl _)
        · rintro f M ⟨k0, k1, k2, -⟩ -
          have hs33 : f 33 = undef := k0
          have hs36 : f 36 = undef := k1
          have hs31 : f 31 = .bool true := k2
          refine ob_start (L' := M) (by rfl) (up_cons (up_cons (up_cons rfl hs33) hs36) hs31) ?_
          refine l_skip rfl rfl rfl rfl rfl rfl ?_
          refine l_nil ?_
          exact f_owes_d (up_cons (up_cons (up_cons rfl hs33) hs36) hs31) rfl (List.Perm.refl _)
        · rintro f M ⟨k0, k1, -⟩ -
          have hs37 : f 37 = undef := k0
          have hs31 : f 31 = .bool true := k1
          refine ob_start (L' := M) (by rfl) (up_cons (up_cons rfl hs37) hs31) ?_
          refine l_skip rfl rfl rfl rfl rfl rfl ?_
          refine l_nil ?_
          exact f_owes_d (up_cons (up_cons rfl hs37) hs31) rfl (List.Perm.refl _)
        · rintro f M ⟨k0, k1, k2, -⟩ -
          have hs32 : f 32 = undef := k0
          have hs38 : f 38 = undef := k1
          have hs31 : f 31 = .bool true := k2
          refine ob_start (L' := M) (by rfl) (up_cons (up_cons (up_cons rfl hs32) hs38) hs31) ?_
          refine l_skip rfl rfl rfl rfl rfl rfl ?_
          refine l_nil ?_
          exact f_owes_d (up_cons (up_cons (up_cons rfl hs32) hs38) hs31) rfl (List.Perm.refl _)
        · rintro f M ⟨k0, k1, -⟩ -
          have hs31 : f 31 = .bool true := k0
          have hs39 : f 39 = undef := k1
          refine ob_start (L' := M) (by rfl) (up_cons (up_cons rfl hs31) hs39) ?_
          refine l_val (v := .bool true) rfl rfl rfl (e_pick_t rfl) ?_
          refine l_nil ?_
          exact f_owes_d (up_cons (up_cons rfl hs31) hs39) rfl (List.Perm.refl _)
        · rintro f M ⟨k0, -⟩ -
          have hs40 : f 40 = .bool true := k0
          refine ob_start (L' := M) (by rfl) (up_cons rfl hs40) ?_
          refine l_val (v := .bool true) rfl rfl rfl (e_move) ?_
          refine l_nil ?_
          exact f_owes_d (up_cons rfl hs40) rfl (List.Perm.refl _)
        · rintro f M ⟨k0, -⟩ ⟨i0, -⟩
          have hs7 : f 7 = .int .i64 (-1) := i0
          have hs41 : f 41 = .bool true := k0
          refine ob_start (L' := M) (by rfl) (up_cons (up_cons rfl hs7) hs41) ?_
          refine g_val (v := .int .i64 (-1)) rfl rfl rfl rfl rfl (e_move) ?_
          refine l_nil ?_
          exact f_owes_d (up_cons (up_cons rfl hs7) hs41) rfl (List.Perm.refl _)
        · rintro f M ⟨k0, k1, -⟩ -
          have hs42 : f 42 = .int .i64 (-1) := k0
          have hs41 : f 41 = .bool true := k1
          refine ob_start (L' := M) (by rfl) (up_cons (up_cons rfl hs42) hs41) ?_
          refine g_val (v := .bool true) rfl rfl rfl rfl rfl (e_lss (a := (-1 : Int)) (b := (0 : Int)) rfl rfl) ?_
          refine l_nil ?_
          exact f_owes_d (up_cons (up_cons rfl hs42) hs41) rfl (List.Perm.refl _)
        · rintro f M ⟨k0, k1, -⟩ -
          have hs43 : f 43 = .bool true := k0
          have hs41 : f 41 = .bool true := k1
          refine ob_start (L' := M) (by rfl) (up_cons (up_cons rfl hs43) hs41) ?_
          refine g_val (v := .bool true) rfl rfl rfl rfl rfl (e_move) ?_
          refine l_nil ?_
          exact f_owes_d (up_cons (up_cons rfl hs43) hs41) rfl (List.Perm.refl _)
        · rintro f M ⟨k0, -⟩ ⟨i0, -⟩
          have hs9 : f 9 = Ix (x21.id) := i0
          have hs44 : f 44 = .bool true := k0
          refine ob_start (L' := M) (by rfl) (up_cons (up_cons rfl hs9) hs44) ?_
          refine l_skip rfl rfl rfl rfl rfl rfl ?_
          refine l_nil ?_
          exact f_owes_d (up_cons (up_cons rfl hs9) hs44) rfl (List.Perm.refl _)
        · rintro f M ⟨k0, -⟩ ⟨i0, -⟩
          have hs5 : f 5 = .slice ap (al.length) (ac) := i0
          have hs44 : f 44 = .bool true := k0
          refine ob_start (L' := M) (by rfl) (up_cons (up_cons rfl hs5) hs44) ?_
          refine l_skip rfl rfl rfl rfl rfl rfl ?_
          refine l_nil ?_
          exact f_owes_d (up_cons (up_cons rfl hs5) hs44) rfl (List.Perm.refl _)
        · rintro f M ⟨k0, -⟩ ⟨i0, -⟩
          have hs7 : f 7 = .int .i64 (-1) := i0
          have hs44 : f 44 = .bool true := k0
          refine ob_start (L' := M) (by rfl) (up_cons (up_cons rfl hs7) hs44) ?_
          refine l_skip rfl rfl rfl rfl rfl rfl ?_
          refine l_nil ?_
          exact f_owes_d (up_cons (up_cons rfl hs7) hs44) rfl (List.Perm.refl _)
        · rintro f M ⟨k0, k1, k2, -⟩ -
          have hs46 : f 46 = undef := k0
          have hs47 : f 47 = undef := k1
          have hs44 : f 44 = .bool true := k2
          refine ob_start (L' := M) (by rfl) (up_cons (up_cons (up_cons rfl hs46) hs47) hs44) ?_
          refine l_skip rfl rfl rfl rfl rfl rfl ?_
          refine l_nil ?_
          exact f_owes_d (up_cons (up_cons (up_cons rfl hs46) hs47) hs44) rfl (List.Perm.refl _)
        · rintro f M ⟨k0, k1, -⟩ -
          have hs48 : f 48 = undef := k0
          have hs44 : f 44 = .bool true := k1
          refine ob_start (L' := M) (by rfl) (up_cons (up_cons rfl hs48) hs44) ?_
          refine l_skip rfl rfl rfl rfl rfl rfl ?_
          refine l_nil ?_
          exact f_owes_d (up_cons (up_cons rfl hs48) hs44) rfl (List.Perm.refl _)
        · rintro f M ⟨k0, k1, -⟩ -
          have hs49 : f 49 = undef := k0
          have hs44 : f 44 = .bool true := k1
          refine ob_start (L' := M) (by rfl) (up_cons (up_cons rfl hs49) hs44) ?_
          refine l_skip rfl rfl rfl rfl rfl rfl ?_
          refine l_nil ?_
          exact f_owes_d (up_cons (up_cons rfl hs49) hs44) rfl (List.Perm.refl _)
        · rintro f M ⟨k0, k1, k2, -⟩ -
          have hs45 : f 45 = undef := k0
          have hs50 : f 50 = undef := k1
          have hs44 : f 44 = .bool true := k2
          refine ob_start (L' := M) (by rfl) (up_cons (up_cons (up_cons rfl hs45) hs50) hs44) ?_
          refine l_skip rfl rfl rfl rfl rfl rfl ?_
          refine l_nil ?_
          exact f_owes_d (up_cons (up_cons (up_cons rfl hs45) hs50) hs44) rfl (List.Perm.refl _)
        · rintro f M ⟨k0, k1, k2, -⟩ -
          have hs44 : f 44 = .bool true := k0
          have hs51 : f 51 = undef := k1
          have hs41 : f 41 = .bool true := k2
          refine ob_start (L' := M) (by rfl) (up_cons (up_cons (up_cons rfl hs44) hs51) hs41) ?_
          refine g_val (v := .bool true) rfl rfl rfl rfl rfl (e_pick_t rfl) ?_
          refine l_nil ?_
          exact f_owes_d (up_cons (up_cons (up_cons rfl hs44) hs51) hs41) rfl (List.Perm.refl _)
        · rintro f M ⟨k0, k1, -⟩ -
          have hs41 : f 41 = .bool true := k0
          have hs52 : f 52 = .bool true := k1
          refine ob_start (L' := M) (by rfl) (up_cons (up_cons rfl hs41) hs52) ?_
          refine l_val (v := .bool true) rfl rfl rfl (e_pick_t rfl) ?_
          refine l_nil ?_
          exact f_owes_d (up_cons (up_cons rfl hs41) hs52) rfl (List.Perm.refl _)
        · rintro f M ⟨k0, -⟩ -
          have hs53 : f 53 = .bool true := k0
          refine ob_start (L' := M) (by rfl) (up_cons rfl hs53) ?_
          refine l_val (v := .bool true) rfl rfl rfl (e_move) ?_
          refine l_nil ?_
          exact f_owes_d (up_cons rfl hs53) rfl (List.Perm.refl _)
        · rintro f M ⟨k0, -⟩ ⟨i0, -⟩
          have hs2 : f 2 = .pointer (some ⟨b1, 0, none⟩) := i0
          have hs54 : f 54 = .bool true := k0
          refine ob_start (L' := pt b1 (.cells #[Ix (x.tick), .slice va (x.ents.length) (vc)] 24) :: M) (by rfl) (up_cons (up_cons rfl hs2) hs54) ?_
          refine g_val (v := .agg #[Ix (x.tick), .slice va (x.ents.length) (vc)]) rfl rfl rfl rfl rfl (e_load tf46 (cs := [Ix (x.tick), .slice va (x.ents.length) (vc)]) rfl (k_pt 0 (cs := #[Ix (x.tick), .slice va (x.ents.length) (vc)]) (vs := [Ix (x.tick), .slice va (x.ents.length) (vc)]) rfl rfl) rfl) ?_
          refine l_nil ?_
          exact f_owes_d (up_cons (up_cons rfl hs2) hs54) rfl (perm_front 0 rfl)
        · rintro f M ⟨k0, -⟩ ⟨i0, -⟩
          have hs9 : f 9 = Ix (x21.id) := i0
          have hs54 : f 54 = .bool true := k0
          refine ob_start (L' := M) (by rfl) (up_cons (up_cons rfl hs9) hs54) ?_
          refine g_val (v := Ix (x21.id)) rfl rfl rfl rfl rfl (e_move) ?_
          refine l_nil ?_
          exact f_owes_d (up_cons (up_cons rfl hs9) hs54) rfl (List.Perm.refl _)
        · rintro f M ⟨k0, k1, k2, -⟩ -
          have hs55 : f 55 = .agg #[Ix (x.tick), .slice va (x.ents.length) (vc)] := k0
          have hs56 : f 56 = Ix (x21.id) := k1
          have hs54 : f 54 = .bool true := k2
          refine ob_start (L' := M) (by rfl) (up_cons (up_cons (up_cons rfl hs55) hs56) hs54) ?_
          refine g_call rfl rfl rfl rfl rfl (cl_value (fst := []) (cap := []) (vs := [.agg #[Ix (x.tick), .slice va (x.ents.length) (vc)], Ix (x21.id)]) (all := [.agg #[Ix (x.tick), .slice va (x.ents.length) (vc)], Ix (x21.id)]) tf104 rfl rfl rfl) ?_
          intro w hw
          obtain ⟨β1, sb, kn, hw1, back⟩ := St.frame_all hw
          refine (rof_ok β1 w hw1 x _ (Sl.mono _ _ _ _ _ sb (⟨⟨_, _, rfl, vl, vm, ve⟩⟩ : Sl EntR _ _ x.ents)) hxn hxbig x21.id).mono ?_
          rintro e w' ⟨v31, rfl, hw'⟩
          refine ⟨_, rfl, _, back _ _ hw', ?_⟩
          clear hw hw1 hw' back kn sb
          refine l_nil ?_
          exact f_owes_d (up_cons (up_cons (up_cons rfl hs55) hs56) hs54) rfl (perm_front 0 rfl)
        · rintro f M ⟨k0, -⟩ ⟨i0, -⟩
          have hs3 : f 3 = .pointer (some ⟨b2, 0, none⟩) := i0
          have hs54 : f 54 = .bool true := k0
          refine ob_start (L' := pt b2 (.cells #[Ix (y.tick), .slice v'a (y.ents.length) (v'c)] 24) :: M) (by rfl) (up_cons (up_cons rfl hs3) hs54) ?_
          refine g_val (v := .agg #[Ix (y.tick), .slice v'a (y.ents.length) (v'c)]) rfl rfl rfl rfl rfl (e_load tf46 (cs := [Ix (y.tick), .slice v'a (y.ents.length) (v'c)]) rfl (k_pt 0 (cs := #[Ix (y.tick), .slice v'a (y.ents.length) (v'c)]) (vs := [Ix (y.tick), .slice v'a (y.ents.length) (v'c)]) rfl rfl) rfl) ?_
          refine l_nil ?_
          exact f_owes_d (up_cons (up_cons rfl hs3) hs54) rfl (perm_front 0 rfl)
        · rintro f M ⟨k0, -⟩ ⟨i0, -⟩
          have hs9 : f 9 = Ix (x21.id) := i0
          have hs54 : f 54 = .bool true := k0
          refine ob_start (L' := M) (by rfl) (up_cons (up_cons rfl hs9) hs54) ?_
          refine g_val (v := Ix (x21.id)) rfl rfl rfl rfl rfl (e_move) ?_
          refine l_nil ?_
          exact f_owes_d (up_cons (up_cons rfl hs9) hs54) rfl (List.Perm.refl _)
        · rintro f M ⟨k0, k1, k2, -⟩ -
          have hs58 : f 58 = .agg #[Ix (y.tick), .slice v'a (y.ents.length) (v'c)] := k0
          have hs59 : f 59 = Ix (x21.id) := k1
          have hs54 : f 54 = .bool true := k2
          refine ob_start (L' := M) (by rfl) (up_cons (up_cons (up_cons rfl hs58) hs59) hs54) ?_
          refine g_call rfl rfl rfl rfl rfl (cl_value (fst := []) (cap := []) (vs := [.agg #[Ix (y.tick), .slice v'a (y.ents.length) (v'c)], Ix (x21.id)]) (all := [.agg #[Ix (y.tick), .slice v'a (y.ents.length) (v'c)], Ix (x21.id)]) tf104 rfl rfl rfl) ?_
          intro w hw
          obtain ⟨β1, sb, kn, hw1, back⟩ := St.frame_all hw
          refine (rof_ok β1 w hw1 y _ (Sl.mono _ _ _ _ _ sb (⟨⟨_, _, rfl, v'l, v'm, v'e⟩⟩ : Sl EntR _ _ y.ents)) hyn hybig x21.id).mono ?_
          rintro e w' ⟨v33, rfl, hw'⟩
          refine ⟨_, rfl, _, back _ _ hw', ?_⟩
          clear hw hw1 hw' back kn sb
          refine l_nil ?_
          exact f_owes_d (up_cons (up_cons (up_cons rfl hs58) hs59) hs54) rfl (perm_front 0 rfl)
        · rintro f M ⟨k0, k1, k2, -⟩ -
          have hs57 : f 57 = ((f 57)) := k0
          have hs60 : f 60 = ((f 60)) := k1
          have hs54 : f 54 = .bool true := k2
          refine ob_start (L' := row ((f 57)) 41 1 ((dg x.ents x21.id).length) (((dg x.ents x21.id).map fun z => Ux z)) :: row ((f 60)) 41 1 ((dg y.ents x21.id).length) (((dg y.ents x21.id).map fun z => Ux z)) :: M) (by rfl) (up_cons (up_cons (up_cons rfl hs57) hs60) hs54) ?_
          refine g_call rfl rfl rfl rfl rfl (cl_value (fst := []) (cap := []) (vs := [((f 57)), ((f 60))]) (all := [((f 57)), ((f 60))]) tf105 rfl rfl rfl) ?_
          intro w hw
          obtain ⟨β1, sb, kn, hw1, back⟩ := St.frame_all hw
          refine (rsame_ok β1 w hw1 _ _ (dg x.ents x21.id) (dg y.ents x21.id) (kn (fun h => Sl U64R h _ (dg x.ents x21.id)) (Knows.of_res 0 rfl (fun _ _ hs h => Sl.mono U64R _ _ _ _ hs h) fun _ h => row_sl64 h)) (kn (fun h => Sl U64R h _ (dg y.ents x21.id)) (Knows.of_res 1 rfl (fun _ _ hs h => Sl.mono U64R _ _ _ _ hs h) fun _ h => row_sl64 h))).mono ?_
          rintro e w' ⟨rfl, hw'⟩
          refine ⟨_, rfl, _, back _ _ hw', ?_⟩
          clear hw hw1 hw' back kn sb
          refine l_nil ?_
          exact f_owes_d (up_cons (up_cons (up_cons rfl hs57) hs60) hs54) rfl ((perm_front 1 rfl).trans (perm_front 1 rfl))
        · rintro f M ⟨k0, k1, -⟩ -
          have hs61 : f 61 = .bool (decide ((dg x.ents x21.id) = (dg y.ents x21.id))) := k0
          have hs54 : f 54 = .bool true := k1
          refine ob_start (L' := M) (by rfl) (up_cons (up_cons rfl hs61) hs54) ?_
          refine g_val (v := .bool (decide (¬ ((dg x.ents x21.id) = (dg y.ents x21.id))))) rfl rfl rfl rfl rfl (e_not_p (p := (dg x.ents x21.id) = (dg y.ents x21.id)) rfl) ?_
          refine l_nil ?_
          exact f_owes_d (up_cons (up_cons rfl hs61) hs54) rfl (List.Perm.refl _)
        · rintro f M ⟨k0, k1, -⟩ -
          have hs54 : f 54 = .bool true := k0
          have hs62 : f 62 = .bool (decide (¬ ((dg x.ents x21.id) = (dg y.ents x21.id)))) := k1
          refine ob_start (L' := M) (by rfl) (up_cons (up_cons rfl hs54) hs62) ?_
          refine l_val (v := .bool (decide (¬ ((dg x.ents x21.id) = (dg y.ents x21.id))))) rfl rfl rfl (e_pick_t rfl) ?_
          refine l_nil ?_
          exact f_owes_d (up_cons (up_cons rfl hs54) hs62) rfl (List.Perm.refl _)
        rintro fa34 ⟨-, -, -, -, -, -, -, -, -, -, -, -, -, -, -, -, -, -, -, -, -, -, -, -, -, -, -, -, -, -, -, -, -, -, -, k35, -⟩ ⟨j0, j1, j2, j3, j4, j5, -⟩
        refine f_re (L' := [row (.slice op (out.length) oc) 3 1 (out.length) ((out.map fun z => Ix z)), pt b2 (.cells #[Ix (y.tick), .slice v'a (y.ents.length) (v'c)] 24), pt b1 (.cells #[Ix (x.tick), .slice va (x.ents.length) (vc)] 24), row ((fa34 57)) 41 1 ((dg x.ents x21.id).length) (((dg x.ents x21.id).map fun z => Ux z)), row ((fa34 60)) 41 1 ((dg y.ents x21.id).length) (((dg y.ents x21.id).map fun z => Ux z))]) (by rfl) ?_
        refine f_rebase (d := 2) (v := .pointer (some ⟨b1, 0, none⟩)) j0 ?_
        refine f_rebase (d := 3) (v := .pointer (some ⟨b2, 0, none⟩)) j1 ?_
        refine f_rebase (d := 5) (v := .slice ap (al.length) (ac)) j2 ?_
        refine f_rebase (d := 6) (v := .slice op (out.length) oc) j3 ?_
        refine f_rebase (d := 7) (v := .int .i64 (-1)) j4 ?_
        refine f_rebase (d := 8) (v := Nx (j)) j5 ?_
        refine f_rebase (d := 63) (v := .bool (decide (¬ ((dg x.ents x21.id) = (dg y.ents x21.id))))) k35 ?_
        refine f_then ?_
        refine c_if (¬ ((dg x.ents x21.id) = (dg y.ents x21.id))) rfl (fun hc35 => ?_) (fun hc35 => ?_)
        ·
          refine c_region ?_
          refine l_val (v := Nx (j)) rfl rfl rfl (e_move) ?_
          refine l_val (v := Nx (j)) rfl rfl rfl (e_assign) ?_
          refine l_nil ?_
          refine f_block ?_
          refine f_then ?_
          refine c_region ?_
          refine l_val (v := Nx (j)) rfl rfl rfl (e_move) ?_
          refine l_val (v := Nx (j + 1)) rfl rfl rfl (e_add (a := ((j : Nat) : Int)) (b := (1 : Int)) rfl rfl (i64n (by omega) (by omega))) ?_
          refine l_val (v := Nx (j + 1)) rfl rfl rfl (e_assign) ?_
          refine l_nil ?_
          refine f_mask (L' := [row (.slice op (out.length) oc) 3 1 (out.length) ((out.map fun z => Ix z)), pt b2 (.cells #[Ix (y.tick), .slice v'a (y.ents.length) (v'c)] 24), pt b1 (.cells #[Ix (x.tick), .slice va (x.ents.length) (vc)] 24)]) [true, true, true, false, false] rfl ?_
          exact f_cut ⟨(j + 1, (some j)), ⟨⟨rfl, rfl, rfl, rfl, rfl, rfl⟩, rfl, ⟨by omega, hbest.take hx22 ⟨(fun o ho => by rw [List.eq_nil_of_length_eq_zero (show out.length = 0 by omega)] at ho; cases ho), hc35⟩ (fun b f hb hf => by cases hb)⟩⟩, (show al.length - (j + 1) < al.length - j from by omega)⟩
        ·
          refine c_skip ?_
          refine f_block ?_
          refine f_then ?_
          refine c_region ?_
          refine l_val (v := Nx (j)) rfl rfl rfl (e_move) ?_
          refine l_val (v := Nx (j + 1)) rfl rfl rfl (e_add (a := ((j : Nat) : Int)) (b := (1 : Int)) rfl rfl (i64n (by omega) (by omega))) ?_
          refine l_val (v := Nx (j + 1)) rfl rfl rfl (e_assign) ?_
          refine l_nil ?_
          refine f_mask (L' := [row (.slice op (out.length) oc) 3 1 (out.length) ((out.map fun z => Ix z)), pt b2 (.cells #[Ix (y.tick), .slice v'a (y.ents.length) (v'c)] 24), pt b1 (.cells #[Ix (x.tick), .slice va (x.ents.length) (vc)] 24)]) [true, true, true, false, false] rfl ?_
          exact f_cut ⟨(j + 1, none), ⟨⟨rfl, rfl, rfl, rfl, rfl, rfl⟩, rfl, ⟨by omega, hbest.skip hx22 (fun hn => absurd (Decidable.not_not.1 hc35) hn.2)⟩⟩, (show al.length - (j + 1) < al.length - j from by omega)⟩
      ·
        obtain ⟨lst36, hl37⟩ : ∃ z, out[out.length - 1]? = some z := ⟨_, List.getElem?_eq_getElem (by omega)⟩
        by_cases hg36 : (lst36) < (x21.id)
        ·
          refine c_any [⟨[], [], [0], [28], fun f => f 28 = .slice op (out.length) oc⟩, ⟨[0], [0], [], [29], fun f => f 29 = Nx (out.length)⟩, ⟨[0, 1], [1], [], [30], fun f => f 30 = .bool false⟩, ⟨[0, 1, 2], [2], [], [31], fun f => f 31 = .bool false⟩, ⟨[0, 1, 2, 3], [3], [1], [32], fun f => f 32 = Ix (x21.id)⟩, ⟨[0, 1, 2, 3], [3], [0], [33], fun f => f 33 = .slice op (out.length) oc⟩, ⟨[0, 1, 2, 3], [3], [0], [34], fun f => f 34 = .slice op (out.length) oc⟩, ⟨[0, 1, 2, 3, 6], [6, 3], [], [35], fun f => f 35 = Nx (out.length)⟩, ⟨[0, 1, 2, 3, 6, 7], [7, 3], [], [36], fun f => f 36 = Nx (out.length - 1)⟩, ⟨[0, 1, 2, 3, 5, 6, 7, 8], [5, 8, 3], [], [37], fun f => f 37 = .pointer (some ((ba op).add ((out.length - 1) * 1)))⟩, ⟨[0, 1, 2, 3, 5, 6, 7, 8, 9], [9, 3], [], [38], fun f => f 38 = Ix (lst36)⟩, ⟨[0, 1, 2, 3, 4, 5, 6, 7, 8, 9, 10], [4, 10, 3], [], [39], fun f => f 39 = .bool true⟩, ⟨[0, 1, 2, 3, 4, 5, 6, 7, 8, 9, 10, 11], [3, 11], [], [40], fun f => f 40 = .bool true⟩, ⟨[0, 1, 2, 3, 4, 5, 6, 7, 8, 9, 10, 11, 12], [12], [], [41], fun f => f 41 = .bool true⟩, ⟨[0, 1, 2, 3, 4, 5, 6, 7, 8, 9, 10, 11, 12, 13], [13], [2], [42], fun f => f 42 = .int .i64 (-1)⟩, ⟨[0, 1, 2, 3, 4, 5, 6, 7, 8, 9, 10, 11, 12, 13, 14], [14, 13], [], [43], fun f => f 43 = .bool true⟩, ⟨[0, 1, 2, 3, 4, 5, 6, 7, 8, 9, 10, 11, 12, 13, 14, 15], [15, 13], [], [44], fun f => f 44 = .bool true⟩, ⟨[0, 1, 2, 3, 4, 5, 6, 7, 8, 9, 10, 11, 12, 13, 14, 15, 16], [16], [1], [45], fun f => f 45 = undef⟩, ⟨[0, 1, 2, 3, 4, 5, 6, 7, 8, 9, 10, 11, 12, 13, 14, 15, 16], [16], [3], [46], fun f => f 46 = undef⟩, ⟨[0, 1, 2, 3, 4, 5, 6, 7, 8, 9, 10, 11, 12, 13, 14, 15, 16], [16], [2], [47], fun f => f 47 = undef⟩, ⟨[0, 1, 2, 3, 4, 5, 6, 7, 8, 9, 10, 11, 12, 13, 14, 15, 16, 18, 19], [18, 19, 16], [], [48], fun f => f 48 = undef⟩, ⟨[0, 1, 2, 3, 4, 5, 6, 7, 8, 9, 10, 11, 12, 13, 14, 15, 16, 18, 19, 20], [20, 16], [], [49], fun f => f 49 = undef⟩, ⟨[0, 1, 2, 3, 4, 5, 6, 7, 8, 9, 10, 11, 12, 13, 14, 15, 16, 18, 19, 20, 21], [21, 16], [], [50], fun f => f 50 = undef⟩, ⟨[0, 1, 2, 3, 4, 5, 6, 7, 8, 9, 10, 11, 12, 13, 14, 15, 16, 17, 18, 19, 20, 21, 22], [17, 22, 16], [], [51], fun f => f 51 = undef⟩, ⟨[0, 1, 2, 3, 4, 5, 6, 7, 8, 9, 10, 11, 12, 13, 14, 15, 16, 17, 18, 19, 20, 21, 22, 23], [16, 23, 13], [], [52], fun f => f 52 = .bool true⟩, ⟨[0, 1, 2, 3, 4, 5, 6, 7, 8, 9, 10, 11, 12, 13, 14, 15, 16, 17, 18, 19, 20, 21, 22, 23, 24], [13, 24], [], [53], fun f => f 53 = .bool true⟩, ⟨[0, 1, 2, 3, 4, 5, 6, 7, 8, 9, 10, 11, 12, 13, 14, 15, 16, 17, 18, 19, 20, 21, 22, 23, 24, 25], [25], [], [54], fun f => f 54 = .bool true⟩, ⟨[0, 1, 2, 3, 4, 5, 6, 7, 8, 9, 10, 11, 12, 13, 14, 15, 16, 17, 18, 19, 20, 21, 22, 23, 24, 25, 26], [26], [4], [55], fun f => f 55 = .agg #[Ix (x.tick), .slice va (x.ents.length) (vc)]⟩, ⟨[0, 1, 2, 3, 4, 5, 6, 7, 8, 9, 10, 11, 12, 13, 14, 15, 16, 17, 18, 19, 20, 21, 22, 23, 24, 25, 26], [26], [1], [56], fun f => f 56 = Ix (x21.id)⟩, ⟨[0, 1, 2, 3, 4, 5, 6, 7, 8, 9, 10, 11, 12, 13, 14, 15, 16, 17, 18, 19, 20, 21, 22, 23, 24, 25, 26, 27, 28], [27, 28, 26], [], [57], fun f => f 57 = ((f 57))⟩, ⟨[0, 1, 2, 3, 4, 5, 6, 7, 8, 9, 10, 11, 12, 13, 14, 15, 16, 17, 18, 19, 20, 21, 22, 23, 24, 25, 26], [26], [5], [58], fun f => f 58 = .agg #[Ix (y.tick), .slice v'a (y.ents.length) (v'c)]⟩, ⟨[0, 1, 2, 3, 4, 5, 6, 7, 8, 9, 10, 11, 12, 13, 14, 15, 16, 17, 18, 19, 20, 21, 22, 23, 24, 25, 26], [26], [1], [59], fun f => f 59 = Ix (x21.id)⟩, ⟨[0, 1, 2, 3, 4, 5, 6, 7, 8, 9, 10, 11, 12, 13, 14, 15, 16, 17, 18, 19, 20, 21, 22, 23, 24, 25, 26, 27, 28, 29, 30, 31], [30, 31, 26], [], [60], fun f => f 60 = ((f 60))⟩, ⟨[0, 1, 2, 3, 4, 5, 6, 7, 8, 9, 10, 11, 12, 13, 14, 15, 16, 17, 18, 19, 20, 21, 22, 23, 24, 25, 26, 27, 28, 29, 30, 31, 32], [29, 32, 26], [], [61], fun f => f 61 = .bool (decide ((dg x.ents x21.id) = (dg y.ents x21.id)))⟩, ⟨[0, 1, 2, 3, 4, 5, 6, 7, 8, 9, 10, 11, 12, 13, 14, 15, 16, 17, 18, 19, 20, 21, 22, 23, 24, 25, 26, 27, 28, 29, 30, 31, 32, 33], [33, 26], [], [62], fun f => f 62 = .bool (decide (¬ ((dg x.ents x21.id) = (dg y.ents x21.id))))⟩, ⟨[0, 1, 2, 3, 4, 5, 6, 7, 8, 9, 10, 11, 12, 13, 14, 15, 16, 17, 18, 19, 20, 21, 22, 23, 24, 25, 26, 27, 28, 29, 30, 31, 32, 33, 34], [26, 34], [], [63], fun f => f 63 = .bool (decide (¬ ((dg x.ents x21.id) = (dg y.ents x21.id))))⟩] [⟨none, none, [9, 10], [], fun _ => row (.slice op (out.length) oc) 3 1 (out.length) ((out.map fun z => Ix z))⟩, ⟨none, none, [30], [], fun _ => pt b2 (.cells #[Ix (y.tick), .slice v'a (y.ents.length) (v'c)] 24)⟩, ⟨none, none, [27], [], fun _ => pt b1 (.cells #[Ix (x.tick), .slice va (x.ents.length) (vc)] 24)⟩, ⟨(some 29), none, [33], [57], fun f => row ((f 57)) 41 1 ((dg x.ents x21.id).length) (((dg x.ents x21.id).map fun z => Ux z))⟩, ⟨(some 32), none, [33], [60], fun f => row ((f 60)) 41 1 ((dg y.ents x21.id).length) (((dg y.ents x21.id).map fun z => Ux z))⟩] [(6, .slice op (out.length) oc), (9, Ix (x21.id)), (7, .int .i64 (-1)), (5, .slice ap (al.length) (ac)), (2, .pointer (some ⟨b1, 0, none⟩)), (3, .pointer (some ⟨b2, 0, none⟩)), (8, Nx (j))] [4, 5, 3, 0, 2, 6] [] (by kernel_rfl) (by kernel_rfl) (by kernel_rfl) (by kernel_rfl) rfl ⟨rfl, rfl, rfl, rfl, rfl, rfl, rfl, trivial⟩ ⟨?_, ?_, ?_, ?_, ?_, ?_, ?_, ?_, ?_, ?_, ?_, ?_, ?_, ?_, ?_, ?_, ?_, ?_, ?_, ?_, ?_, ?_, ?_, ?_, ?_, ?_, ?_, ?_, ?_, ?_, ?_, ?_, ?_, ?_, ?_, ?_, trivial⟩ ?_
          · rintro f M - ⟨i0, -⟩
            have hs6 : f 6 = .slice op (out.length) oc := i0
            refine ob_start (L' := M) (by rfl) (up_cons rfl hs6) ?_
            refine l_val (v := .slice op (out.length) oc) rfl rfl rfl (e_move) ?_
            refine l_nil ?_
            exact f_owes_d (up_cons rfl hs6) rfl (List.Perm.refl _)
          · rintro f M ⟨k0, -⟩ -
            have hs28 : f 28 = .slice op (out.length) oc := k0
            refine ob_start (L' := M) (by rfl) (up_cons rfl hs28) ?_
            refine l_val (v := Nx (out.length)) rfl rfl rfl (e_len (a := op) (n := out.length) (c := oc) rfl tf38) ?_
            refine l_nil ?_
            exact f_owes_d (up_cons rfl hs28) rfl (List.Perm.refl _)
          · rintro f M ⟨k0, -⟩ -
            have hs29 : f 29 = Nx (out.length) := k0
            refine ob_start (L' := M) (by rfl) (up_cons rfl hs29) ?_
            refine l_val (v := .bool false) rfl rfl rfl ((ev_f hg29 (e_eql (a := ((out.length : Nat) : Int)) (b := (0 : Int)) rfl rfl))) ?_
            refine l_nil ?_
            exact f_owes_d (up_cons rfl hs29) rfl (List.Perm.refl _)
          · rintro f M ⟨k0, -⟩ -
            have hs30 : f 30 = .bool false := k0
            refine ob_start (L' := M) (by rfl) (up_cons rfl hs30) ?_
            refine l_val (v := .bool false) rfl rfl rfl (e_move) ?_
            refine l_nil ?_
            exact f_owes_d (up_cons rfl hs30) rfl (List.Perm.refl _)
          · rintro f M ⟨k0, -⟩ ⟨i0, -⟩
            have hs9 : f 9 = Ix (x21.id) := i0
            have hs31 : f 31 = .bool false := k0
            refine ob_start (L' := M) (by rfl) (up_cons (up_cons rfl hs9) hs31) ?_
            refine g_val (v := Ix (x21.id)) rfl rfl rfl rfl rfl (e_move) ?_
            refine l_nil ?_
            exact f_owes_d (up_cons (up_cons rfl hs9) hs31) rfl (List.Perm.refl _)
          · rintro f M ⟨k0, -⟩ ⟨i0, -⟩
            have hs6 : f 6 = .slice op (out.length) oc := i0
            have hs31 : f 31 = .bool false := k0
            refine ob_start (L' := M) (by rfl) (up_cons (up_cons rfl hs6) hs31) ?_
            refine g_val (v := .slice op (out.length) oc) rfl rfl rfl rfl rfl (e_move) ?_
            refine l_nil ?_
            exact f_owes_d (up_cons (up_cons rfl hs6) hs31) rfl (List.Perm.refl _)
          · rintro f M ⟨k0, -⟩ ⟨i0, -⟩
            have hs6 : f 6 = .slice op (out.length) oc := i0
            have hs31 : f 31 = .bool false := k0
            refine ob_start (L' := M) (by rfl) (up_cons (up_cons rfl hs6) hs31) ?_
            refine g_val (v := .slice op (out.length) oc) rfl rfl rfl rfl rfl (e_move) ?_
            refine l_nil ?_
            exact f_owes_d (up_cons (up_cons rfl hs6) hs31) rfl (List.Perm.refl _)
          · rintro f M ⟨k0, k1, -⟩ -
            have hs34 : f 34 = .slice op (out.length) oc := k0
            have hs31 : f 31 = .bool false := k1
            refine ob_start (L' := M) (by rfl) (up_cons (up_cons rfl hs34) hs31) ?_
            refine g_val (v := Nx (out.length)) rfl rfl rfl rfl rfl (e_len (a := op) (n := out.length) (c := oc) rfl tf38) ?_
            refine l_nil ?_
            exact f_owes_d (up_cons (up_cons rfl hs34) hs31) rfl (List.Perm.refl _)
          · rintro f M ⟨k0, k1, -⟩ -
            have hs35 : f 35 = Nx (out.length) := k0
            have hs31 : f 31 = .bool false := k1
            refine ob_start (L' := M) (by rfl) (up_cons (up_cons rfl hs35) hs31) ?_
            refine g_val (v := Nx (out.length - 1)) rfl rfl rfl rfl rfl (ev_eq (congrArg (Value.int .i64) (by omega)) (e_sub (a := ((out.length : Nat) : Int)) (b := (1 : Int)) rfl rfl (i64w (by omega)))) ?_
            refine l_nil ?_
            exact f_owes_d (up_cons (up_cons rfl hs35) hs31) rfl (List.Perm.refl _)
          · rintro f M ⟨k0, k1, k2, -⟩ -
            have hs33 : f 33 = .slice op (out.length) oc := k0
            have hs36 : f 36 = Nx (out.length - 1) := k1
            have hs31 : f 31 = .bool false := k2
            refine ob_start (L' := row (.slice op (out.length) oc) 3 1 (out.length) ((out.map fun z => Ix z)) :: M) (by rfl) (up_cons (up_cons (up_cons rfl hs33) hs36) hs31) ?_
            refine g_val (v := .pointer (some ((ba op).add ((out.length - 1) * 1)))) rfl rfl rfl rfl rfl (e_indexRow 0 (j := out.length - 1) (len := out.length) (cap := oc) (p := op) rfl rfl tf39 (by omega) (by omega) rfl) ?_
            refine l_nil ?_
            exact f_owes_d (up_cons (up_cons (up_cons rfl hs33) hs36) hs31) rfl (perm_front 0 rfl)
          · rintro f M ⟨k0, k1, -⟩ -
            have hs37 : f 37 = .pointer (some ((ba op).add ((out.length - 1) * 1))) := k0
            have hs31 : f 31 = .bool false := k1
            refine ob_start (L' := row (.slice op (out.length) oc) 3 1 (out.length) ((out.map fun z => Ix z)) :: M) (by rfl) (up_cons (up_cons rfl hs37) hs31) ?_
            refine g_val (v := Ix (lst36)) rfl rfl rfl rfl rfl (e_load1 tf10 (v := Ix (lst36)) rfl (k_row 0 (o := (out.length - 1) * 1) (us := [Ix (lst36)]) rfl (ints_at hl37) (Nat.succ_pos _))) ?_
            refine l_nil ?_
            exact f_owes_d (up_cons (up_cons rfl hs37) hs31) rfl (perm_front 0 rfl)
          · rintro f M ⟨k0, k1, k2, -⟩ -
            have hs32 : f 32 = Ix (x21.id) := k0
            have hs38 : f 38 = Ix (lst36) := k1
            have hs31 : f 31 = .bool false := k2
            refine ob_start (L' := M) (by rfl) (up_cons (up_cons (up_cons rfl hs32) hs38) hs31) ?_
            refine g_val (v := .bool true) rfl rfl rfl rfl rfl ((ev_t hg36 (e_gtr (a := (x21.id)) (b := (lst36)) rfl rfl))) ?_
            refine l_nil ?_
            exact f_owes_d (up_cons (up_cons (up_cons rfl hs32) hs38) hs31) rfl (List.Perm.refl _)
          · rintro f M ⟨k0, k1, -⟩ -
            have hs31 : f 31 = .bool false := k0
            have hs39 : f 39 = .bool true := k1
            refine ob_start (L' := M) (by rfl) (up_cons (up_cons rfl hs31) hs39) ?_
            refine l_val (v := .bool true) rfl rfl rfl (e_pick_f rfl) ?_
            refine l_nil ?_
            exact f_owes_d (up_cons (up_cons rfl hs31) hs39) rfl (List.Perm.refl _)
          · rintro f M ⟨k0, -⟩ -
            have hs40 : f 40 = .bool true := k0
            refine ob_start (L' := M) (by rfl) (up_cons rfl hs40) ?_
            refine l_val (v := .bool true) rfl rfl rfl (e_move) ?_
            refine l_nil ?_
            exact f_owes_d (up_cons rfl hs40) rfl (List.Perm.refl _)
          · rintro f M ⟨k0, -⟩ ⟨i0, -⟩
            have hs7 : f 7 = .int .i64 (-1) := i0
            have hs41 : f 41 = .bool true := k0
            refine ob_start (L' := M) (by rfl) (up_cons (up_cons rfl hs7) hs41) ?_
            refine g_val (v := .int .i64 (-1)) rfl rfl rfl rfl rfl (e_move) ?_
            refine l_nil ?_
            exact f_owes_d (up_cons (up_cons rfl hs7) hs41) rfl (List.Perm.refl _)
          · rintro f M ⟨k0, k1, -⟩ -
            have hs42 : f 42 = .int .i64 (-1) := k0
            have hs41 : f 41 = .bool true := k1
            refine ob_start (L' := M) (by rfl) (up_cons (up_cons rfl hs42) hs41) ?_
            refine g_val (v := .bool true) rfl rfl rfl rfl rfl (e_lss (a := (-1 : Int)) (b := (0 : Int)) rfl rfl) ?_
            refine l_nil ?_
            exact f_owes_d (up_cons (up_cons rfl hs42) hs41) rfl (List.Perm.refl _)
          · rintro f M ⟨k0, k1, -⟩ -
            have hs43 : f 43 = .bool true := k0
            have hs41 : f 41 = .bool true := k1
            refine ob_start (L' := M) (by rfl) (up_cons (up_cons rfl hs43) hs41) ?_
            refine g_val (v := .bool true) rfl rfl rfl rfl rfl (e_move) ?_
            refine l_nil ?_
            exact f_owes_d (up_cons (up_cons rfl hs43) hs41) rfl (List.Perm.refl _)
          · rintro f M ⟨k0, -⟩ ⟨i0, -⟩
            have hs9 : f 9 = Ix (x21.id) := i0
            have hs44 : f 44 = .bool true := k0
            refine ob_start (L' := M) (by rfl) (up_cons (up_cons rfl hs9) hs44) ?_
            refine l_skip rfl rfl rfl rfl rfl rfl ?_
            refine l_nil ?_
            exact f_owes_d (up_cons (up_cons rfl hs9) hs44) rfl (List.Perm.refl _)
          · rintro f M ⟨k0, -⟩ ⟨i0, -⟩
            have hs5 : f 5 = .slice ap (al.length) (ac) := i0
            have hs44 : f 44 = .bool true := k0
            refine ob_start (L' := M) (by rfl) (up_cons (up_cons rfl hs5) hs44) ?_
            refine l_skip rfl rfl rfl rfl rfl rfl ?_
            refine l_nil ?_
            exact f_owes_d (up_cons (up_cons rfl hs5) hs44) rfl (List.Perm.refl _)
          · rintro f M ⟨k0, -⟩ ⟨i0, -⟩
            have hs7 : f 7 = .int .i64 (-1) := i0
            have hs44 : f 44 = .bool true := k0
            refine ob_start (L' := M) (by rfl) (up_cons (up_cons rfl hs7) hs44) ?_
            refine l_skip rfl rfl rfl rfl rfl rfl ?_
            refine l_nil ?_
            exact f_owes_d (up_cons (up_cons rfl hs7) hs44) rfl (List.Perm.refl _)
          · rintro f M ⟨k0, k1, k2, -⟩ -
            have hs46 : f 46 = undef := k0
            have hs47 : f 47 = undef := k1
            have hs44 : f 44 = .bool true := k2
            refine ob_start (L' := M) (by rfl) (up_cons (up_cons (up_cons rfl hs46) hs47) hs44) ?_
            refine l_skip rfl rfl rfl rfl rfl rfl ?_
            refine l_nil ?_
            exact f_owes_d (up_cons (up_cons (up_cons rfl hs46) hs47) hs44) rfl (List.Perm.refl _)
          · rintro f M ⟨k0, k1, -⟩ -
            have hs48 : f 48 = undef := k0
            have hs44 : f 44 = .bool true := k1
            refine ob_start (L' := M) (by rfl) (up_cons (up_cons rfl hs48) hs44) ?_
            refine l_skip rfl rfl rfl rfl rfl rfl ?_
            refine l_nil ?_
            exact f_owes_d (up_cons (up_cons rfl hs48) hs44) rfl (List.Perm.refl _)
          · rintro f M ⟨k0, k1, -⟩ -
            have hs49 : f 49 = undef := k0
            have hs44 : f 44 = .bool true := k1
            refine ob_start (L' := M) (by rfl) (up_cons (up_cons rfl hs49) hs44) ?_
            refine l_skip rfl rfl rfl rfl rfl rfl ?_
            refine l_nil ?_
            exact f_owes_d (up_cons (up_cons rfl hs49) hs44) rfl (List.Perm.refl _)
          · rintro f M ⟨k0, k1, k2, -⟩ -
            have hs45 : f 45 = undef := k0
            have hs50 : f 50 = undef := k1
            have hs44 : f 44 = .bool true := k2
            refine ob_start (L' := M) (by rfl) (up_cons (up_cons (up_cons rfl hs45) hs50) hs44) ?_
            refine l_skip rfl rfl rfl rfl rfl rfl ?_
            refine l_nil ?_
            exact f_owes_d (up_cons (up_cons (up_cons rfl hs45) hs50) hs44) rfl (List.Perm.refl _)
          · rintro f M ⟨k0, k1, k2, -⟩ -
            have hs44 : f 44 = .bool true := k0
            have hs51 : f 51 = undef := k1
            have hs41 : f 41 = .bool true := k2
            refine ob_start (L' := M) (by rfl) (up_cons (up_cons (up_cons rfl hs44) hs51) hs41) ?_
            refine g_val (v := .bool true) rfl rfl rfl rfl rfl (e_pick_t rfl) ?_
            refine l_nil ?_
            exact f_owes_d (up_cons (up_cons (up_cons rfl hs44) hs51) hs41) rfl (List.Perm.refl _)
          · rintro f M ⟨k0, k1, -⟩ -
            have hs41 : f 41 = .bool true := k0
            have hs52 : f 52 = .bool true := k1
            refine ob_start (L' := M) (by rfl) (up_cons (up_cons rfl hs41) hs52) ?_
            refine l_val (v := .bool true) rfl rfl rfl (e_pick_t rfl) ?_
            refine l_nil ?_
            exact f_owes_d (up_cons (up_cons rfl hs41) hs52) rfl (List.Perm.refl _)
          · rintro f M ⟨k0, -⟩ -
            have hs53 : f 53 = .bool true := k0
            refine ob_start (L' := M) (by rfl) (up_cons rfl hs53) ?_
            refine l_val (v := .bool true) rfl rfl rfl (e_move) ?_
            refine l_nil ?_
            exact f_owes_d (up_cons rfl hs53) rfl (List.Perm.refl _)
          · rintro f M ⟨k0, -⟩ ⟨i0, -⟩
            have hs2 : f 2 = .pointer (some ⟨b1, 0, none⟩) := i0
            have hs54 : f 54 = .bool true := k0
            refine ob_start (L' := pt b1 (.cells #[Ix (x.tick), .slice va (x.ents.length) (vc)] 24) :: M) (by rfl) (up_cons (up_cons rfl hs2) hs54) ?_
            refine g_val (v := .agg #[Ix (x.tick), .slice va (x.ents.length) (vc)]) rfl rfl rfl rfl rfl (e_load tf46 (cs := [Ix (x.tick), .slice va (x.ents.length) (vc)]) rfl (k_pt 0 (cs := #[Ix (x.tick), .slice va (x.ents.length) (vc)]) (vs := [Ix (x.tick), .slice va (x.ents.length) (vc)]) rfl rfl) rfl) ?_
            refine l_nil ?_
            exact f_owes_d (up_cons (up_cons rfl hs2) hs54) rfl (perm_front 0 rfl)
          · rintro f M ⟨k0, -⟩ ⟨i0, -⟩
            have hs9 : f 9 = Ix (x21.id) := i0
            have hs54 : f 54 = .bool true := k0
            refine ob_start (L' := M) (by rfl) (up_cons (up_cons rfl hs9) hs54) ?_
            refine g_val (v := Ix (x21.id)) rfl rfl rfl rfl rfl (e_move) ?_
            refine l_nil ?_
            exact f_owes_d (up_cons (up_cons rfl hs9) hs54) rfl (List.Perm.refl _)
          · rintro f M ⟨k0, k1, k2, -⟩ -
            have hs55 : f 55 = .agg #[Ix (x.tick), .slice va (x.ents.length) (vc)] := k0
            have hs56 : f 56 = Ix (x21.id) := k1
            have hs54 : f 54 = .bool true := k2
            refine ob_start (L' := M) (by rfl) (up_cons (up_cons (up_cons rfl hs55) hs56) hs54) ?_
            refine g_call rfl rfl rfl rfl rfl (cl_value (fst := []) (cap := []) (vs := [.agg #[Ix (x.tick), .slice va (x.ents.length) (vc)], Ix (x21.id)]) (all := [.agg #[Ix (x.tick), .slice va (x.ents.length) (vc)], Ix (x21.id)]) tf104 rfl rfl rfl) ?_
            intro w hw
            obtain ⟨β1, sb, kn, hw1, back⟩ := St.frame_all hw
            refine (rof_ok β1 w hw1 x _ (Sl.mono _ _ _ _ _ sb (⟨⟨_, _, rfl, vl, vm, ve⟩⟩ : Sl EntR _ _ x.ents)) hxn hxbig x21.id).mono ?_
            rintro e w' ⟨v38, rfl, hw'⟩
            refine ⟨_, rfl, _, back _ _ hw', ?_⟩
            clear hw hw1 hw' back kn sb
            refine l_nil ?_
            exact f_owes_d (up_cons (up_cons (up_cons rfl hs55) hs56) hs54) rfl (perm_front 0 rfl)
          · rintro f M ⟨k0, -⟩ ⟨i0, -⟩
            have hs3 : f 3 = .pointer (some ⟨b2, 0, none⟩) := i0
            have hs54 : f 54 = .bool true := k0
            refine ob_start (L' := pt b2 (.cells #[Ix (y.tick), .slice v'a (y.ents.length) (v'c)] 24) :: M) (by rfl) (up_cons (up_cons rfl hs3) hs54) ?_
            refine g_val (v := .agg #[Ix (y.tick), .slice v'a (y.ents.length) (v'c)]) rfl rfl rfl rfl rfl (e_load tf46 (cs := [Ix (y.tick), .slice v'a (y.ents.length) (v'c)]) rfl (k_pt 0 (cs := #[Ix (y.tick), .slice v'a (y.ents.length) (v'c)]) (vs := [Ix (y.tick), .slice v'a (y.ents.length) (v'c)]) rfl rfl) rfl) ?_
            refine l_nil ?_
            exact f_owes_d (up_cons (up_cons rfl hs3) hs54) rfl (perm_front 0 rfl)
          · rintro f M ⟨k0, -⟩ ⟨i0, -⟩
            have hs9 : f 9 = Ix (x21.id) := i0
            have hs54 : f 54 = .bool true := k0
            refine ob_start (L' := M) (by rfl) (up_cons (up_cons rfl hs9) hs54) ?_
            refine g_val (v := Ix (x21.id)) rfl rfl rfl rfl rfl (e_move) ?_
            refine l_nil ?_
            exact f_owes_d (up_cons (up_cons rfl hs9) hs54) rfl (List.Perm.refl _)
          · rintro f M ⟨k0, k1, k2, -⟩ -
            have hs58 : f 58 = .agg #[Ix (y.tick), .slice v'a (y.ents.length) (v'c)] := k0
            have hs59 : f 59 = Ix (x21.id) := k1
            have hs54 : f 54 = .bool true := k2
            refine ob_start (L' := M) (by rfl) (up_cons (up_cons (up_cons rfl hs58) hs59) hs54) ?_
            refine g_call rfl rfl rfl rfl rfl (cl_value (fst := []) (cap := []) (vs := [.agg #[Ix (y.tick), .slice v'a (y.ents.length) (v'c)], Ix (x21.id)]) (all := [.agg #[Ix (y.tick), .slice v'a (y.ents.length) (v'c)], Ix (x21.id)]) tf104 rfl rfl rfl) ?_
            intro w hw
            obtain ⟨β1, sb, kn, hw1, back⟩ := St.frame_all hw
            refine (rof_ok β1 w hw1 y _ (Sl.mono _ _ _ _ _ sb (⟨⟨_, _, rfl, v'l, v'm, v'e⟩⟩ : Sl EntR _ _ y.ents)) hyn hybig x21.id).mono ?_
            rintro e w' ⟨v40, rfl, hw'⟩
            refine ⟨_, rfl, _, back _ _ hw', ?_⟩
            clear hw hw1 hw' back kn sb
            refine l_nil ?_
            exact f_owes_d (up_cons (up_cons (up_cons rfl hs58) hs59) hs54) rfl (perm_front 0 rfl)
          · rintro f M ⟨k0, k1, k2, -⟩ -
            have hs57 : f 57 = ((f 57)) := k0
            have hs60 : f 60 = ((f 60)) := k1
            have hs54 : f 54 = .bool true := k2
            refine ob_start (L' := row ((f 57)) 41 1 ((dg x.ents x21.id).length) (((dg x.ents x21.id).map fun z => Ux z)) :: row ((f 60)) 41 1 ((dg y.ents x21.id).length) (((dg y.ents x21.id).map fun z => Ux z)) :: M) (by rfl) (up_cons (up_cons (up_cons rfl hs57) hs60) hs54) ?_
            refine g_call rfl rfl rfl rfl rfl (cl_value (fst := []) (cap := []) (vs := [((f 57)), ((f 60))]) (all := [((f 57)), ((f 60))]) tf105 rfl rfl rfl) ?_
            intro w hw
            obtain ⟨β1, sb, kn, hw1, back⟩ := St.frame_all hw
            refine (rsame_ok β1 w hw1 _ _ (dg x.ents x21.id) (dg y.ents x21.id) (kn (fun h => Sl U64R h _ (dg x.ents x21.id)) (Knows.of_res 0 rfl (fun _ _ hs h => Sl.mono U64R _ _ _ _ hs h) fun _ h => row_sl64 h)) (kn (fun h => Sl U64R h _ (dg y.ents x21.id)) (Knows.of_res 1 rfl (fun _ _ hs h => Sl.mono U64R _ _ _ _ hs h) fun _ h => row_sl64 h))).mono ?_
            rintro e w' ⟨rfl, hw'⟩
            refine ⟨_, rfl, _, back _ _ hw', ?_⟩
            clear hw hw1 hw' back kn sb
            refine l_nil ?_
            exact f_owes_d (up_cons (up_cons (up_cons rfl hs57) hs60) hs54) rfl ((perm_front 1 rfl).trans (perm_front 1 rfl))
          · rintro f M ⟨k0, k1, -⟩ -
            have hs61 : f 61 = .bool (decide ((dg x.ents x21.id) = (dg y.ents x21.id))) := k0
            have hs54 : f 54 = .bool true := k1
            refine ob_start (L' := M) (by rfl) (up_cons (up_cons rfl hs61) hs54) ?_
            refine g_val (v := .bool (decide (¬ ((dg x.ents x21.id) = (dg y.ents x21.id))))) rfl rfl rfl rfl rfl (e_not_p (p := (dg x.ents x21.id) = (dg y.ents x21.id)) rfl) ?_
            refine l_nil ?_
            exact f_owes_d (up_cons (up_cons rfl hs61) hs54) rfl (List.Perm.refl _)
          · rintro f M ⟨k0, k1, -⟩ -
            have hs54 : f 54 = .bool true := k0
            have hs62 : f 62 = .bool (decide (¬ ((dg x.ents x21.id) = (dg y.ents x21.id)))) := k1
            refine ob_start (L' := M) (by rfl) (up_cons (up_cons rfl hs54) hs62) ?_
            refine l_val (v := .bool (decide (¬ ((dg x.ents x21.id) = (dg y.ents x21.id))))) rfl rfl rfl (e_pick_t rfl) ?_
            refine l_nil ?_
            exact f_owes_d (up_cons (up_cons rfl hs54) hs62) rfl (List.Perm.refl _)
          rintro fa41 ⟨-, -, -, -, -, -, -, -, -, -, -, -, -, -, -, -, -, -, -, -, -, -, -, -, -, -, -, -, -, -, -, -, -, -, -, k35, -⟩ ⟨j0, j1, j2, j3, j4, j5, -⟩
          refine f_re (L' := [row (.slice op (out.length) oc) 3 1 (out.length) ((out.map fun z => Ix z)), pt b2 (.cells #[Ix (y.tick), .slice v'a (y.ents.length) (v'c)] 24), pt b1 (.cells #[Ix (x.tick), .slice va (x.ents.length) (vc)] 24), row ((fa41 57)) 41 1 ((dg x.ents x21.id).length) (((dg x.ents x21.id).map fun z => Ux z)), row ((fa41 60)) 41 1 ((dg y.ents x21.id).length) (((dg y.ents x21.id).map fun z => Ux z))]) (by rfl) ?_
          refine f_rebase (d := 2) (v := .pointer (some ⟨b1, 0, none⟩)) j0 ?_
          refine f_rebase (d := 3) (v := .pointer (some ⟨b2, 0, none⟩)) j1 ?_
          refine f_rebase (d := 5) (v := .slice ap (al.length) (ac)) j2 ?_
          refine f_rebase (d := 6) (v := .slice op (out.length) oc) j3 ?_
          refine f_rebase (d := 7) (v := .int .i64 (-1)) j4 ?_
          refine f_rebase (d := 8) (v := Nx (j)) j5 ?_
          refine f_rebase (d := 63) (v := .bool (decide (¬ ((dg x.ents x21.id) = (dg y.ents x21.id))))) k35 ?_
          refine f_then ?_
          refine c_if (¬ ((dg x.ents x21.id) = (dg y.ents x21.id))) rfl (fun hc42 => ?_) (fun hc42 => ?_)
          ·
            refine c_region ?_
            refine l_val (v := Nx (j)) rfl rfl rfl (e_move) ?_
            refine l_val (v := Nx (j)) rfl rfl rfl (e_assign) ?_
            refine l_nil ?_
            refine f_block ?_
            refine f_then ?_
            refine c_region ?_
            refine l_val (v := Nx (j)) rfl rfl rfl (e_move) ?_
            refine l_val (v := Nx (j + 1)) rfl rfl rfl (e_add (a := ((j : Nat) : Int)) (b := (1 : Int)) rfl rfl (i64n (by omega) (by omega))) ?_
            refine l_val (v := Nx (j + 1)) rfl rfl rfl (e_assign) ?_
            refine l_nil ?_
            refine f_mask (L' := [row (.slice op (out.length) oc) 3 1 (out.length) ((out.map fun z => Ix z)), pt b2 (.cells #[Ix (y.tick), .slice v'a (y.ents.length) (v'c)] 24), pt b1 (.cells #[Ix (x.tick), .slice va (x.ents.length) (vc)] 24)]) [true, true, true, false, false] rfl ?_
            exact f_cut ⟨(j + 1, (some j)), ⟨⟨rfl, rfl, rfl, rfl, rfl, rfl⟩, rfl, ⟨by omega, hbest.take hx22 ⟨(last_lt hfd hl37 hg36), hc42⟩ (fun b f hb hf => by cases hb)⟩⟩, (show al.length - (j + 1) < al.length - j from by omega)⟩
          ·
            refine c_skip ?_
            refine f_block ?_
            refine f_then ?_
            refine c_region ?_
            refine l_val (v := Nx (j)) rfl rfl rfl (e_move) ?_
            refine l_val (v := Nx (j + 1)) rfl rfl rfl (e_add (a := ((j : Nat) : Int)) (b := (1 : Int)) rfl rfl (i64n (by omega) (by omega))) ?_
            refine l_val (v := Nx (j + 1)) rfl rfl rfl (e_assign) ?_
            refine l_nil ?_
            refine f_mask (L' := [row (.slice op (out.length) oc) 3 1 (out.length) ((out.map fun z => Ix z)), pt b2 (.cells #[Ix (y.tick), .slice v'a (y.ents.length) (v'c)] 24), pt b1 (.cells #[Ix (x.tick), .slice va (x.ents.length) (vc)] 24)]) [true, true, true, false, false] rfl ?_
            exact f_cut ⟨(j + 1, none), ⟨⟨rfl, rfl, rfl, rfl, rfl, rfl⟩, rfl, ⟨by omega, hbest.skip hx22 (fun hn => absurd (Decidable.not_not.1 hc42) hn.2)⟩⟩, (show al.length - (j + 1) < al.length - j from by omega)⟩
        ·
          refine c_any [⟨[], [], [0], [28], fun f => f 28 = .slice op (out.length) oc⟩, ⟨[0], [0], [], [29], fun f => f 29 = Nx (out.length)⟩, ⟨[0, 1], [1], [], [30], fun f => f 30 = .bool false⟩, ⟨[0, 1, 2], [2], [], [31], fun f => f 31 = .bool false⟩, ⟨[0, 1, 2, 3], [3], [1], [32], fun f => f 32 = Ix (x21.id)⟩, ⟨[0, 1, 2, 3], [3], [0], [33], fun f => f 33 = .slice op (out.length) oc⟩, ⟨[0, 1, 2, 3], [3], [0], [34], fun f => f 34 = .slice op (out.length) oc⟩, ⟨[0, 1, 2, 3, 6], [6, 3], [], [35], fun f => f 35 = Nx (out.length)⟩, ⟨[0, 1, 2, 3, 6, 7], [7, 3], [], [36], fun f => f 36 = Nx (out.length - 1)⟩, ⟨[0, 1, 2, 3, 5, 6, 7, 8], [5, 8, 3], [], [37], fun f => f 37 = .pointer (some ((ba op).add ((out.length - 1) * 1)))⟩, ⟨[0, 1, 2, 3, 5, 6, 7, 8, 9], [9, 3], [], [38], fun f => f 38 = Ix (lst36)⟩, ⟨[0, 1, 2, 3, 4, 5, 6, 7, 8, 9, 10], [4, 10, 3], [], [39], fun f => f 39 = .bool false⟩, ⟨[0, 1, 2, 3, 4, 5, 6, 7, 8, 9, 10, 11], [3, 11], [], [40], fun f => f 40 = .bool false⟩, ⟨[0, 1, 2, 3, 4, 5, 6, 7, 8, 9, 10, 11, 12], [12], [], [41], fun f => f 41 = .bool false⟩, ⟨[0, 1, 2, 3, 4, 5, 6, 7, 8, 9, 10, 11, 12, 13], [13], [2], [42], fun f => f 42 = undef⟩, ⟨[0, 1, 2, 3, 4, 5, 6, 7, 8, 9, 10, 11, 12, 13, 14], [14, 13], [], [43], fun f => f 43 = undef⟩, ⟨[0, 1, 2, 3, 4, 5, 6, 7, 8, 9, 10, 11, 12, 13, 14, 15], [15, 13], [], [44], fun f => f 44 = undef⟩, ⟨[0, 1, 2, 3, 4, 5, 6, 7, 8, 9, 10, 11, 12, 13, 14, 15, 16], [16], [1], [45], fun f => f 45 = undef⟩, ⟨[0, 1, 2, 3, 4, 5, 6, 7, 8, 9, 10, 11, 12, 13, 14, 15, 16], [16], [3], [46], fun f => f 46 = undef⟩, ⟨[0, 1, 2, 3, 4, 5, 6, 7, 8, 9, 10, 11, 12, 13, 14, 15, 16], [16], [2], [47], fun f => f 47 = undef⟩, ⟨[0, 1, 2, 3, 4, 5, 6, 7, 8, 9, 10, 11, 12, 13, 14, 15, 16, 18, 19], [18, 19, 16], [], [48], fun f => f 48 = undef⟩, ⟨[0, 1, 2, 3, 4, 5, 6, 7, 8, 9, 10, 11, 12, 13, 14, 15, 16, 18, 19, 20], [20, 16], [], [49], fun f => f 49 = undef⟩, ⟨[0, 1, 2, 3, 4, 5, 6, 7, 8, 9, 10, 11, 12, 13, 14, 15, 16, 18, 19, 20, 21], [21, 16], [], [50], fun f => f 50 = undef⟩, ⟨[0, 1, 2, 3, 4, 5, 6, 7, 8, 9, 10, 11, 12, 13, 14, 15, 16, 17, 18, 19, 20, 21, 22], [17, 22, 16], [], [51], fun f => f 51 = undef⟩, ⟨[0, 1, 2, 3, 4, 5, 6, 7, 8, 9, 10, 11, 12, 13, 14, 15, 16, 17, 18, 19, 20, 21, 22, 23], [16, 23, 13], [], [52], fun f => f 52 = undef⟩, ⟨[0, 1, 2, 3, 4, 5, 6, 7, 8, 9, 10, 11, 12, 13, 14, 15, 16, 17, 18, 19, 20, 21, 22, 23, 24], [13, 24], [], [53], fun f => f 53 = .bool false⟩, ⟨[0, 1, 2, 3, 4, 5, 6, 7, 8, 9, 10, 11, 12, 13, 14, 15, 16, 17, 18, 19, 20, 21, 22, 23, 24, 25], [25], [], [54], fun f => f 54 = .bool false⟩, ⟨[0, 1, 2, 3, 4, 5, 6, 7, 8, 9, 10, 11, 12, 13, 14, 15, 16, 17, 18, 19, 20, 21, 22, 23, 24, 25, 26], [26], [4], [55], fun f => f 55 = undef⟩, ⟨[0, 1, 2, 3, 4, 5, 6, 7, 8, 9, 10, 11, 12, 13, 14, 15, 16, 17, 18, 19, 20, 21, 22, 23, 24, 25, 26], [26], [1], [56], fun f => f 56 = undef⟩, ⟨[0, 1, 2, 3, 4, 5, 6, 7, 8, 9, 10, 11, 12, 13, 14, 15, 16, 17, 18, 19, 20, 21, 22, 23, 24, 25, 26, 27, 28], [27, 28, 26], [], [57], fun f => f 57 = undef⟩, ⟨[0, 1, 2, 3, 4, 5, 6, 7, 8, 9, 10, 11, 12, 13, 14, 15, 16, 17, 18, 19, 20, 21, 22, 23, 24, 25, 26], [26], [5], [58], fun f => f 58 = undef⟩, ⟨[0, 1, 2, 3, 4, 5, 6, 7, 8, 9, 10, 11, 12, 13, 14, 15, 16, 17, 18, 19, 20, 21, 22, 23, 24, 25, 26], [26], [1], [59], fun f => f 59 = undef⟩, ⟨[0, 1, 2, 3, 4, 5, 6, 7, 8, 9, 10, 11, 12, 13, 14, 15, 16, 17, 18, 19, 20, 21, 22, 23, 24, 25, 26, 27, 28, 29, 30, 31], [30, 31, 26], [], [60], fun f => f 60 = undef⟩, ⟨[0, 1, 2, 3, 4, 5, 6, 7, 8, 9, 10, 11, 12, 13, 14, 15, 16, 17, 18, 19, 20, 21, 22, 23, 24, 25, 26, 27, 28, 29, 30, 31, 32], [29, 32, 26], [], [61], fun f => f 61 = undef⟩, ⟨[0, 1, 2, 3, 4, 5, 6, 7, 8, 9, 10, 11, 12, 13, 14, 15, 16, 17, 18, 19, 20, 21, 22, 23, 24, 25, 26, 27, 28, 29, 30, 31, 32, 33], [33, 26], [], [62], fun f => f 62 = undef⟩, ⟨[0, 1, 2, 3, 4, 5, 6, 7, 8, 9, 10, 11, 12, 13, 14, 15, 16, 17, 18, 19, 20, 21, 22, 23, 24, 25, 26, 27, 28, 29, 30, 31, 32, 33, 34], [26, 34], [], [63], fun f => f 63 = .bool false⟩] [⟨none, none, [9, 10], [], fun _ => row (.slice op (out.length) oc) 3 1 (out.length) ((out.map fun z => Ix z))⟩, ⟨none, none, [], [], fun _ => pt b2 (.cells #[Ix (y.tick), .slice v'a (y.ents.length) (v'c)] 24)⟩, ⟨none, none, [], [], fun _ => pt b1 (.cells #[Ix (x.tick), .slice va (x.ents.length) (vc)] 24)⟩] [(6, .slice op (out.length) oc), (9, Ix (x21.id)), (7, .int .i64 (-1)), (5, .slice ap (al.length) (ac)), (2, .pointer (some ⟨b1, 0, none⟩)), (3, .pointer (some ⟨b2, 0, none⟩)), (8, Nx (j))] [4, 5, 3, 0, 2, 6] [] (by kernel_rfl) (by kernel_rfl) (by kernel_rfl) (by kernel_rfl) rfl ⟨rfl, rfl, rfl, rfl, rfl, rfl, rfl, trivial⟩ ⟨?_, ?_, ?_, ?_, ?_, ?_, ?_, ?_, ?_, ?_, ?_, ?_, ?_, ?_, ?_, ?_, ?_, ?_, ?_, ?_, ?_, ?_, ?_, ?_, ?_, ?_, ?_, ?_, ?_, ?_, ?_, ?_, ?_, ?_, ?_, ?_, trivial⟩ ?_
          · rintro f M - ⟨i0, -⟩
            have hs6 : f 6 = .slice op (out.length) oc := i0
            refine ob_start (L' := M) (by rfl) (up_cons rfl hs6) ?_
            refine l_val (v := .slice op (out.length) oc) rfl rfl rfl (e_move) ?_
            refine l_nil ?_
            exact f_owes_d (up_cons rfl hs6) rfl (List.Perm.refl _)
          · rintro f M ⟨k0, -⟩ -
            have hs28 : f 28 = .slice op (out.length) oc := k0
            refine ob_start (L' := M) (by rfl) (up_cons rfl hs28) ?_
            refine l_val (v := Nx (out.length)) rfl rfl rfl (e_len (a := op) (n := out.length) (c := oc) rfl tf38) ?_
            refine l_nil ?_
            exact f_owes_d (up_cons rfl hs28) rfl (List.Perm.refl _)
          · rintro f M ⟨k0, -⟩ -
            have hs29 : f 29 = Nx (out.length) := k0
            refine ob_start (L' := M) (by rfl) (up_cons rfl hs29) ?_
            refine l_val (v := .bool false) rfl rfl rfl ((ev_f hg29 (e_eql (a := ((out.length : Nat) : Int)) (b := (0 : Int)) rfl rfl))) ?_
            refine l_nil ?_
            exact f_owes_d (up_cons rfl hs29) rfl (List.Perm.refl _)
          · rintro f M ⟨k0, -⟩ -
            have hs30 : f 30 = .bool false := k0
            refine ob_start (L' := M) (by rfl) (up_cons rfl hs30) ?_
            refine l_val (v := .bool false) rfl rfl rfl (e_move) ?_
            refine l_nil ?_
            exact f_owes_d (up_cons rfl hs30) rfl (List.Perm.refl _)
          · rintro f M ⟨k0, -⟩ ⟨i0, -⟩
            have hs9 : f 9 = Ix (x21.id) := i0
            have hs31 : f 31 = .bool false := k0
            refine ob_start (L' := M) (by rfl) (up_cons (up_cons rfl hs9) hs31) ?_
            refine g_val (v := Ix (x21.id)) rfl rfl rfl rfl rfl (e_move) ?_
            refine l_nil ?_
            exact f_owes_d (up_cons (up_cons rfl hs9) hs31) rfl (List.Perm.refl _)
          · rintro f M ⟨k0, -⟩ ⟨i0, -⟩
            have hs6 : f 6 = .slice op (out.length) oc := i0
            have hs31 : f 31 = .bool false := k0
            refine ob_start (L' := M) (by rfl) (up_cons (up_cons rfl hs6) hs31) ?_
            refine g_val (v := .slice op (out.length) oc) rfl rfl rfl rfl rfl (e_move) ?_
            refine l_nil ?_
            exact f_owes_d (up_cons (up_cons rfl hs6) hs31) rfl (List.Perm.refl _)
          · rintro f M ⟨k0, -⟩ ⟨i0, -⟩
            have hs6 : f 6 = .slice op (out.length) oc := i0
            have hs31 : f 31 = .bool false := k0
            refine ob_start (L' := M) (by rfl) (up_cons (up_cons rfl hs6) hs31) ?_
            refine g_val (v := .slice op (out.length) oc) rfl rfl rfl rfl rfl (e_move) ?_
            refine l_nil ?_
            exact f_owes_d (up_cons (up_cons rfl hs6) hs31) rfl (List.Perm.refl _)
          · rintro f M ⟨k0, k1, -⟩ -
            have hs34 : f 34 = .slice op (out.length) oc := k0
            have hs31 : f 31 = .bool false := k1
            refine ob_start (L' := M) (by rfl) (up_cons (up_cons rfl hs34) hs31) ?_
            refine g_val (v := Nx (out.length)) rfl rfl rfl rfl rfl (e_len (a := op) (n := out.length) (c := oc) rfl tf38) ?_
            refine l_nil ?_
            exact f_owes_d (up_cons (up_cons rfl hs34) hs31) rfl (List.Perm.refl _)
          · rintro f M ⟨k0, k1, -⟩ -
            have hs35 : f 35 = Nx (out.length) := k0
            have hs31 : f 31 = .bool false := k1
            refine ob_start (L' := M) (by rfl) (up_cons (up_cons rfl hs35) hs31) ?_
            refine g_val (v := Nx (out.length - 1)) rfl rfl rfl rfl rfl (ev_eq (congrArg (Value.int .i64) (by omega)) (e_sub (a := ((out.length : Nat) : Int)) (b := (1 : Int)) rfl rfl (i64w (by omega)))) ?_
            refine l_nil ?_
            exact f_owes_d (up_cons (up_cons rfl hs35) hs31) rfl (List.Perm.refl _)
          · rintro f M ⟨k0, k1, k2, -⟩ -
            have hs33 : f 33 = .slice op (out.length) oc := k0
            have hs36 : f 36 = Nx (out.length - 1) := k1
            have hs31 : f 31 = .bool false := k2
            refine ob_start (L' := row (.slice op (out.length) oc) 3 1 (out.length) ((out.map fun z => Ix z)) :: M) (by rfl) (up_cons (up_cons (up_cons rfl hs33) hs36) hs31) ?_
            refine g_val (v := .pointer (some ((ba op).add ((out.length - 1) * 1)))) rfl rfl rfl rfl rfl (e_indexRow 0 (j := out.length - 1) (len := out.length) (cap := oc) (p := op) rfl rfl tf39 (by omega) (by omega) rfl) ?_
            refine l_nil ?_
            exact f_owes_d (up_cons (up_cons (up_cons rfl hs33) hs36) hs31) rfl (perm_front 0 rfl)
          · rintro f M ⟨k0, k1, -⟩ -
            have hs37 : f 37 = .pointer (some ((ba op).add ((out.length - 1) * 1))) := k0
            have hs31 : f 31 = .bool false := k1
            refine ob_start (L' := row (.slice op (out.length) oc) 3 1 (out.length) ((out.map fun z => Ix z)) :: M) (by rfl) (up_cons (up_cons rfl hs37) hs31) ?_
            refine g_val (v := Ix (lst36)) rfl rfl rfl rfl rfl (e_load1 tf10 (v := Ix (lst36)) rfl (k_row 0 (o := (out.length - 1) * 1) (us := [Ix (lst36)]) rfl (ints_at hl37) (Nat.succ_pos _))) ?_
            refine l_nil ?_
            exact f_owes_d (up_cons (up_cons rfl hs37) hs31) rfl (perm_front 0 rfl)
          · rintro f M ⟨k0, k1, k2, -⟩ -
            have hs32 : f 32 = Ix (x21.id) := k0
            have hs38 : f 38 = Ix (lst36) := k1
            have hs31 : f 31 = .bool false := k2
            refine ob_start (L' := M) (by rfl) (up_cons (up_cons (up_cons rfl hs32) hs38) hs31) ?_
            refine g_val (v := .bool false) rfl rfl rfl rfl rfl ((ev_f hg36 (e_gtr (a := (x21.id)) (b := (lst36)) rfl rfl))) ?_
            refine l_nil ?_
            exact f_owes_d (up_cons (up_cons (up_cons rfl hs32) hs38) hs31) rfl (List.Perm.refl _)
          · rintro f M ⟨k0, k1, -⟩ -
            have hs31 : f 31 = .bool false := k0
            have hs39 : f 39 = .bool false := k1
            refine ob_start (L' := M) (by rfl) (up_cons (up_cons rfl hs31) hs39) ?_
            refine l_val (v := .bool false) rfl rfl rfl (e_pick_f rfl) ?_
            refine l_nil ?_
            exact f_owes_d (up_cons (up_cons rfl hs31) hs39) rfl (List.Perm.refl _)
          · rintro f M ⟨k0, -⟩ -
            have hs40 : f 40 = .bool false := k0
            refine ob_start (L' := M) (by rfl) (up_cons rfl hs40) ?_
            refine l_val (v := .bool false) rfl rfl rfl (e_move) ?_
            refine l_nil ?_
            exact f_owes_d (up_cons rfl hs40) rfl (List.Perm.refl _)
          · rintro f M ⟨k0, -⟩ ⟨i0, -⟩
            have hs7 : f 7 = .int .i64 (-1) := i0
            have hs41 : f 41 = .bool false := k0
            refine ob_start (L' := M) (by rfl) (up_cons (up_cons rfl hs7) hs41) ?_
            refine l_skip rfl rfl rfl rfl rfl rfl ?_
            refine l_nil ?_
            exact f_owes_d (up_cons (up_cons rfl hs7) hs41) rfl (List.Perm.refl _)
          · rintro f M ⟨k0, k1, -⟩ -
            have hs42 : f 42 = undef := k0
            have hs41 : f 41 = .bool false := k1
            refine ob_start (L' := M) (by rfl) (up_cons (up_cons rfl hs42) hs41) ?_
            refine l_skip rfl rfl rfl rfl rfl rfl ?_
            refine l_nil ?_
            exact f_owes_d (up_cons (up_cons rfl hs42) hs41) rfl (List.Perm.refl _)
          · rintro f M ⟨k0, k1, -⟩ -
            have hs43 : f 43 = undef := k0
            have hs41 : f 41 = .bool false := k1
            refine ob_start (L' := M) (by rfl) (up_cons (up_cons rfl hs43) hs41) ?_
            refine l_skip rfl rfl rfl rfl rfl rfl ?_
            refine l_nil ?_
            exact f_owes_d (up_cons (up_cons rfl hs43) hs41) rfl (List.Perm.refl _)
          · rintro f M ⟨k0, -⟩ ⟨i0, -⟩
            have hs9 : f 9 = Ix (x21.id) := i0
            have hs44 : f 44 = undef := k0
            refine ob_start (L' := M) (by rfl) (up_cons (up_cons rfl hs9) hs44) ?_
            refine l_skip_u rfl rfl rfl rfl rfl ?_
            refine l_nil ?_
            exact f_owes_d (up_cons (up_cons rfl hs9) hs44) rfl (List.Perm.refl _)
          · rintro f M ⟨k0, -⟩ ⟨i0, -⟩
            have hs5 : f 5 = .slice ap (al.length) (ac) := i0
            have hs44 : f 44 = undef := k0
            refine ob_start (L' := M) (by rfl) (up_cons (up_cons rfl hs5) hs44) ?_
            refine l_skip_u rfl rfl rfl rfl rfl ?_
            refine l_nil ?_
            exact f_owes_d (up_cons (up_cons rfl hs5) hs44) rfl (List.Perm.refl _)
          · rintro f M ⟨k0, -⟩ ⟨i0, -⟩
            have hs7 : f 7 = .int .i64 (-1) := i0
            have hs44 : f 44 = undef := k0
            refine ob_start (L' := M) (by rfl) (up_cons (up_cons rfl hs7) hs44) ?_
            refine l_skip_u rfl rfl rfl rfl rfl ?_
            refine l_nil ?_
            exact f_owes_d (up_cons (up_cons rfl hs7) hs44) rfl (List.Perm.refl _)
          · rintro f M ⟨k0, k1, k2, -⟩ -
            have hs46 : f 46 = undef := k0
            have hs47 : f 47 = undef := k1
            have hs44 : f 44 = undef := k2
            refine ob_start (L' := M) (by rfl) (up_cons (up_cons (up_cons rfl hs46) hs47) hs44) ?_
            refine l_skip_u rfl rfl rfl rfl rfl ?_
            refine l_nil ?_
            exact f_owes_d (up_cons (up_cons (up_cons rfl hs46) hs47) hs44) rfl (List.Perm.refl _)
          · rintro f M ⟨k0, k1, -⟩ -
            have hs48 : f 48 = undef := k0
            have hs44 : f 44 = undef := k1
            refine ob_start (L' := M) (by rfl) (up_cons (up_cons rfl hs48) hs44) ?_
            refine l_skip_u rfl rfl rfl rfl rfl ?_
            refine l_nil ?_
            exact f_owes_d (up_cons (up_cons rfl hs48) hs44) rfl (List.Perm.refl _)
          · rintro f M ⟨k0, k1, -⟩ -
            have hs49 : f 49 = undef := k0
            have hs44 : f 44 = undef := k1
            refine ob_start (L' := M) (by rfl) (up_cons (up_cons rfl hs49) hs44) ?_
            refine l_skip_u rfl rfl rfl rfl rfl ?_
            refine l_nil ?_
            exact f_owes_d (up_cons (up_cons rfl hs49) hs44) rfl (List.Perm.refl _)
          · rintro f M ⟨k0, k1, k2, -⟩ -
            have hs45 : f 45 = undef := k0
            have hs50 : f 50 = undef := k1
            have hs44 : f 44 = undef := k2
            refine ob_start (L' := M) (by rfl) (up_cons (up_cons (up_cons rfl hs45) hs50) hs44) ?_
            refine l_skip_u rfl rfl rfl rfl rfl ?_
            refine l_nil ?_
            exact f_owes_d (up_cons (up_cons (up_cons rfl hs45) hs50) hs44) rfl (List.Perm.refl _)
          · rintro f M ⟨k0, k1, k2, -⟩ -
            have hs44 : f 44 = undef := k0
            have hs51 : f 51 = undef := k1
            have hs41 : f 41 = .bool false := k2
            refine ob_start (L' := M) (by rfl) (up_cons (up_cons (up_cons rfl hs44) hs51) hs41) ?_
            refine l_skip rfl rfl rfl rfl rfl rfl ?_
            refine l_nil ?_
            exact f_owes_d (up_cons (up_cons (up_cons rfl hs44) hs51) hs41) rfl (List.Perm.refl _)
          · rintro f M ⟨k0, k1, -⟩ -
            have hs41 : f 41 = .bool false := k0
            have hs52 : f 52 = undef := k1
            refine ob_start (L' := M) (by rfl) (up_cons (up_cons rfl hs41) hs52) ?_
            refine l_val (v := .bool false) rfl rfl rfl (e_pick_f rfl) ?_
            refine l_nil ?_
            exact f_owes_d (up_cons (up_cons rfl hs41) hs52) rfl (List.Perm.refl _)
          · rintro f M ⟨k0, -⟩ -
            have hs53 : f 53 = .bool false := k0
            refine ob_start (L' := M) (by rfl) (up_cons rfl hs53) ?_
            refine l_val (v := .bool false) rfl rfl rfl (e_move) ?_
            refine l_nil ?_
            exact f_owes_d (up_cons rfl hs53) rfl (List.Perm.refl _)
          · rintro f M ⟨k0, -⟩ ⟨i0, -⟩
            have hs2 : f 2 = .pointer (some ⟨b1, 0, none⟩) := i0
            have hs54 : f 54 = .bool false := k0
            refine ob_start (L' := M) (by rfl) (up_cons (up_cons rfl hs2) hs54) ?_
            refine l_skip rfl rfl rfl rfl rfl rfl ?_
            refine l_nil ?_
            exact f_owes_d (up_cons (up_cons rfl hs2) hs54) rfl (List.Perm.refl _)
          · rintro f M ⟨k0, -⟩ ⟨i0, -⟩
            have hs9 : f 9 = Ix (x21.id) := i0
            have hs54 : f 54 = .bool false := k0
            refine ob_start (L' := M) (by rfl) (up_cons (up_cons rfl hs9) hs54) ?_
            refine l_skip rfl rfl rfl rfl rfl rfl ?_
            refine l_nil ?_
            exact f_owes_d (up_cons (up_cons rfl hs9) hs54) rfl (List.Perm.refl _)
          · rintro f M ⟨k0, k1, k2, -⟩ -
            have hs55 : f 55 = undef := k0
            have hs56 : f 56 = undef := k1
            have hs54 : f 54 = .bool false := k2
            refine ob_start (L' := M) (by rfl) (up_cons (up_cons (up_cons rfl hs55) hs56) hs54) ?_
            refine l_skip rfl rfl rfl rfl rfl rfl ?_
            refine l_nil ?_
            exact f_owes_d (up_cons (up_cons (up_cons rfl hs55) hs56) hs54) rfl (List.Perm.refl _)
          · rintro f M ⟨k0, -⟩ ⟨i0, -⟩
            have hs3 : f 3 = .pointer (some ⟨b2, 0, none⟩) := i0
            have hs54 : f 54 = .bool false := k0
            refine ob_start (L' := M) (by rfl) (up_cons (up_cons rfl hs3) hs54) ?_
            refine l_skip rfl rfl rfl rfl rfl rfl ?_
            refine l_nil ?_
            exact f_owes_d (up_cons (up_cons rfl hs3) hs54) rfl (List.Perm.refl _)
          · rintro f M ⟨k0, -⟩ ⟨i0, -⟩
            have hs9 : f 9 = Ix (x21.id) := i0
            have hs54 : f 54 = .bool false := k0
            refine ob_start (L' := M) (by rfl) (up_cons (up_cons rfl hs9) hs54) ?_
            refine l_skip rfl rfl rfl rfl rfl rfl ?_
            refine l_nil ?_
            exact f_owes_d (up_cons (up_cons rfl hs9) hs54) rfl (List.Perm.refl _)
          · rintro f M ⟨k0, k1, k2, -⟩ -
            have hs58 : f 58 = undef := k0
            have hs59 : f 59 = undef := k1
            have hs54 : f 54 = .bool false := k2
            refine ob_start (L' := M) (by rfl) (up_cons (up_cons (up_cons rfl hs58) hs59) hs54) ?_
            refine l_skip rfl rfl rfl rfl rfl rfl ?_
            refine l_nil ?_
            exact f_owes_d (up_cons (up_cons (up_cons rfl hs58) hs59) hs54) rfl (List.Perm.refl _)
          · rintro f M ⟨k0, k1, k2, -⟩ -
            have hs57 : f 57 = undef := k0
            have hs60 : f 60 = undef := k1
            have hs54 : f 54 = .bool false := k2
            refine ob_start (L' := M) (by rfl) (up_cons (up_cons (up_cons rfl hs57) hs60) hs54) ?_
            refine l_skip rfl rfl rfl rfl rfl rfl ?_
            refine l_nil ?_
            exact f_owes_d (up_cons (up_cons (up_cons rfl hs57) hs60) hs54) rfl (List.Perm.refl _)
          · rintro f M ⟨k0, k1, -⟩ -
            have hs61 : f 61 = undef := k0
            have hs54 : f 54 = .bool false := k1
            refine ob_start (L' := M) (by rfl) (up_cons (up_cons rfl hs61) hs54) ?_
            refine l_skip rfl rfl rfl rfl rfl rfl ?_
            refine l_nil ?_
            exact f_owes_d (up_cons (up_cons rfl hs61) hs54) rfl (List.Perm.refl _)
          · rintro f M ⟨k0, k1, -⟩ -
            have hs54 : f 54 = .bool false := k0
            have hs62 : f 62 = undef := k1
            refine ob_start (L' := M) (by rfl) (up_cons (up_cons rfl hs54) hs62) ?_
            refine l_val (v := .bool false) rfl rfl rfl (e_pick_f rfl) ?_
            refine l_nil ?_
            exact f_owes_d (up_cons (up_cons rfl hs54) hs62) rfl (List.Perm.refl _)
          rintro fa43 ⟨-, -, -, -, -, -, -, -, -, -, -, -, -, -, -, -, -, -, -, -, -, -, -, -, -, -, -, -, -, -, -, -, -, -, -, k35, -⟩ ⟨j0, j1, j2, j3, j4, j5, -⟩
          refine f_re (L' := [row (.slice op (out.length) oc) 3 1 (out.length) ((out.map fun z => Ix z)), pt b2 (.cells #[Ix (y.tick), .slice v'a (y.ents.length) (v'c)] 24), pt b1 (.cells #[Ix (x.tick), .slice va (x.ents.length) (vc)] 24)]) (by rfl) ?_
          refine f_rebase (d := 2) (v := .pointer (some ⟨b1, 0, none⟩)) j0 ?_
          refine f_rebase (d := 3) (v := .pointer (some ⟨b2, 0, none⟩)) j1 ?_
          refine f_rebase (d := 5) (v := .slice ap (al.length) (ac)) j2 ?_
          refine f_rebase (d := 6) (v := .slice op (out.length) oc) j3 ?_
          refine f_rebase (d := 7) (v := .int .i64 (-1)) j4 ?_
          refine f_rebase (d := 8) (v := Nx (j)) j5 ?_
          refine f_rebase (d := 63) (v := .bool false) k35 ?_
          refine f_then ?_
          refine c_no rfl ?_
          refine c_skip ?_
          refine f_block ?_
          refine f_then ?_
          refine c_region ?_
          refine l_val (v := Nx (j)) rfl rfl rfl (e_move) ?_
          refine l_val (v := Nx (j + 1)) rfl rfl rfl (e_add (a := ((j : Nat) : Int)) (b := (1 : Int)) rfl rfl (i64n (by omega) (by omega))) ?_
          refine l_val (v := Nx (j + 1)) rfl rfl rfl (e_assign) ?_
          refine l_nil ?_
          exact f_cut ⟨(j + 1, none), ⟨⟨rfl, rfl, rfl, rfl, rfl, rfl⟩, rfl, ⟨by omega, hbest.skip hx22 (fun hn => absurd hn.1 (last_ge hl37 hg36))⟩⟩, (show al.length - (j + 1) < al.length - j from by omega)⟩
    | some b =>
      have hbl := (List.getElem?_eq_some_iff.1 hbest.choose_spec.1).1
      refine rebase (d := 7) (v := Nx b) rfl ?_
      refine c_region ?_
      refine l_val (v := .slice ap (al.length) (ac)) rfl rfl rfl (e_move) ?_
      refine l_val (v := Nx (j)) rfl rfl rfl (e_move) ?_
      obtain ⟨x44, hx45⟩ : ∃ x_, (al)[j]? = some x_ := ⟨_, List.getElem?_eq_getElem (by omega)⟩
      obtain ⟨ha46, cs47, hc48, hr49⟩ := Ae _ _ hx45
      obtain ⟨v50, rfl, hv51⟩ := hr49
      obtain ⟨v50a, v50c, rfl, v50l, v50m, v50e⟩ := hv51.get
      refine l_val (v := .pointer (some ((ba ap).add (j * 2)))) rfl rfl rfl (e_indexAddr (k := j) (len := al.length) (cap := ac) (a := ap) rfl rfl tf32 (by omega) ha46) ?_
      refine l_val (v := .pointer (some (((ba ap).add (j * 2) : Addr).add 0))) rfl rfl rfl (e_fieldAddr (a := (ba ap).add (j * 2)) rfl tf9) ?_
      refine l_val (v := Ix (x44.id)) rfl rfl rfl (e_load1 tf10 (v := Ix (x44.id)) rfl (Knows.imp (Knows.of_base (Cs.mono _ _) hc48) (fun _ h => Cs.sub (vs := [Ix (x44.id)]) 0 h rfl))) ?_
      refine l_val (v := Ix (x44.id)) rfl rfl rfl (e_assign) ?_
      refine l_nil ?_
      refine f_then ?_
      refine c_seq ?_
      by_cases hg52 : ((out.length : Nat) : Int) = (0 : Int)
      ·
        obtain ⟨x53, hx54⟩ : ∃ x_, (al)[b]? = some x_ := ⟨_, List.getElem?_eq_getElem (by omega)⟩
        obtain ⟨ha55, cs56, hc57, hr58⟩ := Ae _ _ hx54
        obtain ⟨v59, rfl, hv60⟩ := hr58
        obtain ⟨v59a, v59c, rfl, v59l, v59m, v59e⟩ := hv60.get
        by_cases hg53 : (x44.id) < (x53.id)
        ·
          refine c_any [⟨[], [], [0], [28], fun f => f 28 = .slice op (out.length) oc⟩, ⟨[0], [0], [], [29], fun f => f 29 = Nx (out.length)⟩, ⟨[0, 1], [1], [], [30], fun f => f 30 = .bool true⟩, ⟨[0, 1, 2], [2], [], [31], fun f => f 31 = .bool true⟩, ⟨[0, 1, 2, 3], [3], [1], [32], fun f => f 32 = undef⟩, ⟨[0, 1, 2, 3], [3], [0], [33], fun f => f 33 = undef⟩, ⟨[0, 1, 2, 3], [3], [0], [34], fun f => f 34 = undef⟩, ⟨[0, 1, 2, 3, 6], [6, 3], [], [35], fun f => f 35 = undef⟩, ⟨[0, 1, 2, 3, 6, 7], [7, 3], [], [36], fun f => f 36 = undef⟩, ⟨[0, 1, 2, 3, 5, 6, 7, 8], [5, 8, 3], [], [37], fun f => f 37 = undef⟩, ⟨[0, 1, 2, 3, 5, 6, 7, 8, 9], [9, 3], [], [38], fun f => f 38 = undef⟩, ⟨[0, 1, 2, 3, 4, 5, 6, 7, 8, 9, 10], [4, 10, 3], [], [39], fun f => f 39 = undef⟩, ⟨[0, 1, 2, 3, 4, 5, 6, 7, 8, 9, 10, 11], [3, 11], [], [40], fun f => f 40 = .bool true⟩, ⟨[0, 1, 2, 3, 4, 5, 6, 7, 8, 9, 10, 11, 12], [12], [], [41], fun f => f 41 = .bool true⟩, ⟨[0, 1, 2, 3, 4, 5, 6, 7, 8, 9, 10, 11, 12, 13], [13], [2], [42], fun f => f 42 = Nx (b)⟩, ⟨[0, 1, 2, 3, 4, 5, 6, 7, 8, 9, 10, 11, 12, 13, 14], [14, 13], [], [43], fun f => f 43 = .bool false⟩, ⟨[0, 1, 2, 3, 4, 5, 6, 7, 8, 9, 10, 11, 12, 13, 14, 15], [15, 13], [], [44], fun f => f 44 = .bool false⟩, ⟨[0, 1, 2, 3, 4, 5, 6, 7, 8, 9, 10, 11, 12, 13, 14, 15, 16], [16], [1], [45], fun f => f 45 = Ix (x44.id)⟩, ⟨[0, 1, 2, 3, 4, 5, 6, 7, 8, 9, 10, 11, 12, 13, 14, 15, 16], [16], [3], [46], fun f => f 46 = .slice ap (al.length) (ac)⟩, ⟨[0, 1, 2, 3, 4, 5, 6, 7, 8, 9, 10, 11, 12, 13, 14, 15, 16], [16], [2], [47], fun f => f 47 = Nx (b)⟩, ⟨[0, 1, 2, 3, 4, 5, 6, 7, 8, 9, 10, 11, 12, 13, 14, 15, 16, 18, 19], [18, 19, 16], [], [48], fun f => f 48 = .pointer (some ((ba ap).add (b * 2)))⟩, ⟨[0, 1, 2, 3, 4, 5, 6, 7, 8, 9, 10, 11, 12, 13, 14, 15, 16, 18, 19, 20], [20, 16], [], [49], fun f => f 49 = .pointer (some (((ba ap).add (b * 2) : Addr).add 0))⟩, ⟨[0, 1, 2, 3, 4, 5, 6, 7, 8, 9, 10, 11, 12, 13, 14, 15, 16, 18, 19, 20, 21], [21, 16], [], [50], fun f => f 50 = Ix (x53.id)⟩, ⟨[0, 1, 2, 3, 4, 5, 6, 7, 8, 9, 10, 11, 12, 13, 14, 15, 16, 17, 18, 19, 20, 21, 22], [17, 22, 16], [], [51], fun f => f 51 = .bool true⟩, ⟨[0, 1, 2, 3, 4, 5, 6, 7, 8, 9, 10, 11, 12, 13, 14, 15, 16, 17, 18, 19, 20, 21, 22, 23], [16, 23, 13], [], [52], fun f => f 52 = .bool true⟩, ⟨[0, 1, 2, 3, 4, 5, 6, 7, 8, 9, 10, 11, 12, 13, 14, 15, 16, 17, 18, 19, 20, 21, 22, 23, 24], [13, 24], [], [53], fun f => f 53 = .bool true⟩, ⟨[0, 1, 2, 3, 4, 5, 6, 7, 8, 9, 10, 11, 12, 13, 14, 15, 16, 17, 18, 19, 20, 21, 22, 23, 24, 25], [25], [], [54], fun f => f 54 = .bool true⟩, ⟨[0, 1, 2, 3, 4, 5, 6, 7, 8, 9, 10, 11, 12, 13, 14, 15, 16, 17, 18, 19, 20, 21, 22, 23, 24, 25, 26], [26], [4], [55], fun f => f 55 = .agg #[Ix (x.tick), .slice va (x.ents.length) (vc)]⟩, ⟨[0, 1, 2, 3, 4, 5, 6, 7, 8, 9, 10, 11, 12, 13, 14, 15, 16, 17, 18, 19, 20, 21, 22, 23, 24, 25, 26], [26], [1], [56], fun f => f 56 = Ix (x44.id)⟩, ⟨[0, 1, 2, 3, 4, 5, 6, 7, 8, 9, 10, 11, 12, 13, 14, 15, 16, 17, 18, 19, 20, 21, 22, 23, 24, 25, 26, 27, 28], [27, 28, 26], [], [57], fun f => f 57 = ((f 57))⟩, ⟨[0, 1, 2, 3, 4, 5, 6, 7, 8, 9, 10, 11, 12, 13, 14, 15, 16, 17, 18, 19, 20, 21, 22, 23, 24, 25, 26], [26], [5], [58], fun f => f 58 = .agg #[Ix (y.tick), .slice v'a (y.ents.length) (v'c)]⟩, ⟨[0, 1, 2, 3, 4, 5, 6, 7, 8, 9, 10, 11, 12, 13, 14, 15, 16, 17, 18, 19, 20, 21, 22, 23, 24, 25, 26], [26], [1], [59], fun f => f 59 = Ix (x44.id)⟩, ⟨[0, 1, 2, 3, 4, 5, 6, 7, 8, 9, 10, 11, 12, 13, 14, 15, 16, 17, 18, 19, 20, 21, 22, 23, 24, 25, 26, 27, 28, 29, 30, 31], [30, 31, 26], [], [60], fun f => f 60 = ((f 60))⟩, ⟨[0, 1, 2, 3, 4, 5, 6, 7, 8, 9, 10, 11, 12, 13, 14, 15, 16, 17, 18, 19, 20, 21, 22, 23, 24, 25, 26, 27, 28, 29, 30, 31, 32], [29, 32, 26], [], [61], fun f => f 61 = .bool (decide ((dg x.ents x44.id) = (dg y.ents x44.id)))⟩, ⟨[0, 1, 2, 3, 4, 5, 6, 7, 8, 9, 10, 11, 12, 13, 14, 15, 16, 17, 18, 19, 20, 21, 22, 23, 24, 25, 26, 27, 28, 29, 30, 31, 32, 33], [33, 26], [], [62], fun f => f 62 = .bool (decide (¬ ((dg x.ents x44.id) = (dg y.ents x44.id))))⟩, ⟨[0, 1, 2, 3, 4, 5, 6, 7, 8, 9, 10, 11, 12, 13, 14, 15, 16, 17, 18, 19, 20, 21, 22, 23, 24, 25, 26, 27, 28, 29, 30, 31, 32, 33, 34], [26, 34], [], [63], fun f => f 63 = .bool (decide (¬ ((dg x.ents x44.id) = (dg y.ents x44.id))))⟩] [⟨none, none, [], [], fun _ => row (.slice op (out.length) oc) 3 1 (out.length) ((out.map fun z => Ix z))⟩, ⟨none, none, [30], [], fun _ => pt b2 (.cells #[Ix (y.tick), .slice v'a (y.ents.length) (v'c)] 24)⟩, ⟨none, none, [27], [], fun _ => pt b1 (.cells #[Ix (x.tick), .slice va (x.ents.length) (vc)] 24)⟩, ⟨(some 29), none, [33], [57], fun f => row ((f 57)) 41 1 ((dg x.ents x44.id).length) (((dg x.ents x44.id).map fun z => Ux z))⟩, ⟨(some 32), none, [33], [60], fun f => row ((f 60)) 41 1 ((dg y.ents x44.id).length) (((dg y.ents x44.id).map fun z => Ux z))⟩] [(6, .slice op (out.length) oc), (9, Ix (x44.id)), (7, Nx (b)), (5, .slice ap (al.length) (ac)), (2, .pointer (some ⟨b1, 0, none⟩)), (3, .pointer (some ⟨b2, 0, none⟩)), (8, Nx (j))] [4, 5, 3, 0, 2, 6] [] (by kernel_rfl) (by kernel_rfl) (by kernel_rfl) (by kernel_rfl) rfl ⟨rfl, rfl, rfl, rfl, rfl, rfl, rfl, trivial⟩ ⟨?_, ?_, ?_, ?_, ?_, ?_, ?_, ?_, ?_, ?_, ?_, ?_, ?_, ?_, ?_, ?_, ?_, ?_, ?_, ?_, ?_, ?_, ?_, ?_, ?_, ?_, ?_, ?_, ?_, ?_, ?_, ?_, ?_, ?_, ?_, ?_, trivial⟩ ?_
          · rintro f M - ⟨i0, -⟩
            have hs6 : f 6 = .slice op (out.length) oc := i0
            refine ob_start (L' := M) (by rfl) (up_cons rfl hs6) ?_
            refine l_val (v := .slice op (out.length) oc) rfl rfl rfl (e_move) ?_
            refine l_nil ?_
            exact f_owes_d (up_cons rfl hs6) rfl (List.Perm.refl _)
          · rintro f M ⟨k0, -⟩ -
            have hs28 : f 28 = .slice op (out.length) oc := k0
            refine ob_start (L' := M) (by rfl) (up_cons rfl hs28) ?_
            refine l_val (v := Nx (out.length)) rfl rfl rfl (e_len (a := op) (n := out.length) (c := oc) rfl tf38) ?_
            refine l_nil ?_
            exact f_owes_d (up_cons rfl hs28) rfl (List.Perm.refl _)
          · rintro f M ⟨k0, -⟩ -
            have hs29 : f 29 = Nx (out.length) := k0
            refine ob_start (L' := M) (by rfl) (up_cons rfl hs29) ?_
            refine l_val (v := .bool true) rfl rfl rfl ((ev_t hg52 (e_eql (a := ((out.length : Nat) : Int)) (b := (0 : Int)) rfl rfl))) ?_
            refine l_nil ?_
            exact f_owes_d (up_cons rfl hs29) rfl (List.Perm.refl _)
          · rintro f M ⟨k0, -⟩ -
            have hs30 : f 30 = .bool true := k0
            refine ob_start (L' := M) (by rfl) (up_cons rfl hs30) ?_
            refine l_val (v := .bool true) rfl rfl rfl (e_move) ?_
            refine l_nil ?_
            exact f_owes_d (up_cons rfl hs30) rfl (List.Perm.refl _)
          · rintro f M ⟨k0, -⟩ ⟨i0, -⟩
            have hs9 : f 9 = Ix (x44.id) := i0
            have hs31 : f 31 = .bool true := k0
            refine ob_start (L' := M) (by rfl) (up_cons (up_cons rfl hs9) hs31) ?_
            refine l_skip rfl rfl rfl rfl rfl rfl ?_
            refine l_nil ?_
            exact f_owes_d (up_cons (up_cons rfl hs9) hs31) rfl (List.Perm.refl _)
          · rintro f M ⟨k0, -⟩ ⟨i0, -⟩
            have hs6 : f 6 = .slice op (out.length) oc := i0
            have hs31 : f 31 = .bool true := k0
            refine ob_start (L' := M) (by rfl) (up_cons (up_cons rfl hs6) hs31) ?_
            refine l_skip rfl rfl rfl rfl rfl rfl ?_
            refine l_nil ?_
            exact f_owes_d (up_cons (up_cons rfl hs6) hs31) rfl (List.Perm.refl _)
          · rintro f M ⟨k0, -⟩ ⟨i0, -⟩
            have hs6 : f 6 = .slice op (out.length) oc := i0
            have hs31 : f 31 = .bool true := k0
            refine ob_start (L' := M) (by rfl) (up_cons (up_cons rfl hs6) hs31) ?_
            refine l_skip rfl rfl rfl rfl rfl rfl ?_
            refine l_nil ?_
            exact f_owes_d (up_cons (up_cons rfl hs6) hs31) rfl (List.Perm.refl _)
          · rintro f M ⟨k0, k1, -⟩ -
            have hs34 : f 34 = undef := k0
            have hs31 : f 31 = .bool true := k1
            refine ob_start (L' := M) (by rfl) (up_cons (up_cons rfl hs34) hs31) ?_
            refine l_skip rfl rfl rfl rfl rfl rfl ?_
            refine l_nil ?_
            exact f_owes_d (up_cons (up_cons rfl hs34) hs31) rfl (List.Perm.refl _)
          · rintro f M ⟨k0, k1, -⟩ -
            have hs35 : f 35 = undef := k0
            have hs31 : f 31 = .bool true := k1
            refine ob_start (L' := M) (by rfl) (up_cons (up_cons rfl hs35) hs31) ?_
            refine l_skip rfl rfl rfl rfl rfl rfl ?_
            refine l_nil ?_
            exact f_owes_d (up_cons (up_cons rfl hs35) hs31) rfl (List.Perm.refl _)
          · rintro f M ⟨k0, k1, k2, -⟩ -
            have hs33 : f 33 = undef := k0
            have hs36 : f 36 = undef := k1
            have hs31 : f 31 = .bool true := k2
            refine ob_start (L' := M) (by rfl) (up_cons (up_cons (up_cons rfl hs33) hs36) hs31) ?_
            refine l_skip rfl rfl rfl rfl rfl rfl ?_
            refine l_nil ?_
            exact f_owes_d (up_cons (up_cons (up_cons rfl hs33) hs36) hs31) rfl (List.Perm.refl _)
          · rintro f M ⟨k0, k1, -⟩ -
            have hs37 : f 37 = undef := k0
            have hs31 : f 31 = .bool true := k1
            refine ob_start (L' := M) (by rfl) (up_cons (up_cons rfl hs37) hs31) ?_
            refine l_skip rfl rfl rfl rfl rfl rfl ?_
            refine l_nil ?_
            exact f_owes_d (up_cons (up_cons rfl hs37) hs31) rfl (List.Perm.refl _)
          · rintro f M ⟨k0, k1, k2, -⟩ -
            have hs32 : f 32 = undef := k0
            have hs38 : f 38 = undef := k1
            have hs31 : f 31 = .bool true := k2
            refine ob_start (L' := M) (by rfl) (up_cons (up_cons (up_cons rfl hs32) hs38) hs31) ?_
            refine l_skip rfl rfl rfl rfl rfl rfl ?_
            refine l_nil ?_
            exact f_owes_d (up_cons (up_cons (up_cons rfl hs32) hs38) hs31) rfl (List.Perm.refl _)
          · rintro f M ⟨k0, k1, -⟩ -
            have hs31 : f 31 = .bool true := k0
            have hs39 : f 39 = undef := k1
            refine ob_start (L' := M) (by rfl) (up_cons (up_cons rfl hs31) hs39) ?_
            refine l_val (v := .bool true) rfl rfl rfl (e_pick_t rfl) ?_
            refine l_nil ?_
            exact f_owes_d (up_cons (up_cons rfl hs31) hs39) rfl (List.Perm.refl _)
          · rintro f M ⟨k0, -⟩ -
            have hs40 : f 40 = .bool true := k0
            refine ob_start (L' := M) (by rfl) (up_cons rfl hs40) ?_
            refine l_val (v := .bool true) rfl rfl rfl (e_move) ?_
            refine l_nil ?_
            exact f_owes_d (up_cons rfl hs40) rfl (List.Perm.refl _)
          · rintro f M ⟨k0, -⟩ ⟨i0, -⟩
            have hs7 : f 7 = Nx (b) := i0
            have hs41 : f 41 = .bool true := k0
            refine ob_start (L' := M) (by rfl) (up_cons (up_cons rfl hs7) hs41) ?_
            refine g_val (v := Nx (b)) rfl rfl rfl rfl rfl (e_move) ?_
            refine l_nil ?_
            exact f_owes_d (up_cons (up_cons rfl hs7) hs41) rfl (List.Perm.refl _)
          · rintro f M ⟨k0, k1, -⟩ -
            have hs42 : f 42 = Nx (b) := k0
            have hs41 : f 41 = .bool true := k1
            refine ob_start (L' := M) (by rfl) (up_cons (up_cons rfl hs42) hs41) ?_
            refine g_val (v := .bool false) rfl rfl rfl rfl rfl ((ev_f (by omega) (e_lss (a := ((b : Nat) : Int)) (b := (0 : Int)) rfl rfl))) ?_
            refine l_nil ?_
            exact f_owes_d (up_cons (up_cons rfl hs42) hs41) rfl (List.Perm.refl _)
          · rintro f M ⟨k0, k1, -⟩ -
            have hs43 : f 43 = .bool false := k0
            have hs41 : f 41 = .bool true := k1
            refine ob_start (L' := M) (by rfl) (up_cons (up_cons rfl hs43) hs41) ?_
            refine g_val (v := .bool false) rfl rfl rfl rfl rfl (e_move) ?_
            refine l_nil ?_
            exact f_owes_d (up_cons (up_cons rfl hs43) hs41) rfl (List.Perm.refl _)
          · rintro f M ⟨k0, -⟩ ⟨i0, -⟩
            have hs9 : f 9 = Ix (x44.id) := i0
            have hs44 : f 44 = .bool false := k0
            refine ob_start (L' := M) (by rfl) (up_cons (up_cons rfl hs9) hs44) ?_
            refine g_val (v := Ix (x44.id)) rfl rfl rfl rfl rfl (e_move) ?_
            refine l_nil ?_
            exact f_owes_d (up_cons (up_cons rfl hs9) hs44) rfl (List.Perm.refl _)
          · rintro f M ⟨k0, -⟩ ⟨i0, -⟩
            have hs5 : f 5 = .slice ap (al.length) (ac) := i0
            have hs44 : f 44 = .bool false := k0
            refine ob_start (L' := M) (by rfl) (up_cons (up_cons rfl hs5) hs44) ?_
            refine g_val (v := .slice ap (al.length) (ac)) rfl rfl rfl rfl rfl (e_move) ?_
            refine l_nil ?_
            exact f_owes_d (up_cons (up_cons rfl hs5) hs44) rfl (List.Perm.refl _)
          · rintro f M ⟨k0, -⟩ ⟨i0, -⟩
            have hs7 : f 7 = Nx (b) := i0
            have hs44 : f 44 = .bool false := k0
            refine ob_start (L' := M) (by rfl) (up_cons (up_cons rfl hs7) hs44) ?_
            refine g_val (v := Nx (b)) rfl rfl rfl rfl rfl (e_move) ?_
            refine l_nil ?_
            exact f_owes_d (up_cons (up_cons rfl hs7) hs44) rfl (List.Perm.refl _)
          · rintro f M ⟨k0, k1, k2, -⟩ -
            have hs46 : f 46 = .slice ap (al.length) (ac) := k0
            have hs47 : f 47 = Nx (b) := k1
            have hs44 : f 44 = .bool false := k2
            refine ob_start (L' := M) (by rfl) (up_cons (up_cons (up_cons rfl hs46) hs47) hs44) ?_
            refine g_val (v := .pointer (some ((ba ap).add (b * 2)))) rfl rfl rfl rfl rfl (e_indexAddr (k := b) (len := al.length) (cap := ac) (a := ap) rfl rfl tf32 (by omega) ha55) ?_
            refine l_nil ?_
            exact f_owes_d (up_cons (up_cons (up_cons rfl hs46) hs47) hs44) rfl (List.Perm.refl _)
          · rintro f M ⟨k0, k1, -⟩ -
            have hs48 : f 48 = .pointer (some ((ba ap).add (b * 2))) := k0
            have hs44 : f 44 = .bool false := k1
            refine ob_start (L' := M) (by rfl) (up_cons (up_cons rfl hs48) hs44) ?_
            refine g_val (v := .pointer (some (((ba ap).add (b * 2) : Addr).add 0))) rfl rfl rfl rfl rfl (e_fieldAddr (a := (ba ap).add (b * 2)) rfl tf9) ?_
            refine l_nil ?_
            exact f_owes_d (up_cons (up_cons rfl hs48) hs44) rfl (List.Perm.refl _)
          · rintro f M ⟨k0, k1, -⟩ -
            have hs49 : f 49 = .pointer (some (((ba ap).add (b * 2) : Addr).add 0)) := k0
            have hs44 : f 44 = .bool false := k1
            refine ob_start (L' := M) (by rfl) (up_cons (up_cons rfl hs49) hs44) ?_
            refine g_val (v := Ix (x53.id)) rfl rfl rfl rfl rfl (e_load1 tf10 (v := Ix (x53.id)) rfl (Knows.imp (Knows.of_base (Cs.mono _ _) hc57) (fun _ h => Cs.sub (vs := [Ix (x53.id)]) 0 h rfl))) ?_
            refine l_nil ?_
            exact f_owes_d (up_cons (up_cons rfl hs49) hs44) rfl (List.Perm.refl _)
          · rintro f M ⟨k0, k1, k2, -⟩ -
            have hs45 : f 45 = Ix (x44.id) := k0
            have hs50 : f 50 = Ix (x53.id) := k1
            have hs44 : f 44 = .bool false := k2
            refine ob_start (L' := M) (by rfl) (up_cons (up_cons (up_cons rfl hs45) hs50) hs44) ?_
            refine g_val (v := .bool true) rfl rfl rfl rfl rfl ((ev_t hg53 (e_lss (a := (x44.id)) (b := (x53.id)) rfl rfl))) ?_
            refine l_nil ?_
            exact f_owes_d (up_cons (up_cons (up_cons rfl hs45) hs50) hs44) rfl (List.Perm.refl _)
          · rintro f M ⟨k0, k1, k2, -⟩ -
            have hs44 : f 44 = .bool false := k0
            have hs51 : f 51 = .bool true := k1
            have hs41 : f 41 = .bool true := k2
            refine ob_start (L' := M) (by rfl) (up_cons (up_cons (up_cons rfl hs44) hs51) hs41) ?_
            refine g_val (v := .bool true) rfl rfl rfl rfl rfl (e_pick_f rfl) ?_
            refine l_nil ?_
            exact f_owes_d (up_cons (up_cons (up_cons rfl hs44) hs51) hs41) rfl (List.Perm.refl _)
          · rintro f M ⟨k0, k1, -⟩ -
            have hs41 : f 41 = .bool true := k0
            have hs52 : f 52 = .bool true := k1
            refine ob_start (L' := M) (by rfl) (up_cons (up_cons rfl hs41) hs52) ?_
            refine l_val (v := .bool true) rfl rfl rfl (e_pick_t rfl) ?_
            refine l_nil ?_
            exact f_owes_d (up_cons (up_cons rfl hs41) hs52) rfl (List.Perm.refl _)
          · rintro f M ⟨k0, -⟩ -
            have hs53 : f 53 = .bool true := k0
            refine ob_start (L' := M) (by rfl) (up_cons rfl hs53) ?_
            refine l_val (v := .bool true) rfl rfl rfl (e_move) ?_
            refine l_nil ?_
            exact f_owes_d (up_cons rfl hs53) rfl (List.Perm.refl _)
          · rintro f M ⟨k0, -⟩ ⟨i0, -⟩
            have hs2 : f 2 = .pointer (some ⟨b1, 0, none⟩) := i0
            have hs54 : f 54 = .bool true := k0
            refine ob_start (L' := pt b1 (.cells #[Ix (x.tick), .slice va (x.ents.length) (vc)] 24) :: M) (by rfl) (up_cons (up_cons rfl hs2) hs54) ?_
            refine g_val (v := .agg #[Ix (x.tick), .slice va (x.ents.length) (vc)]) rfl rfl rfl rfl rfl (e_load tf46 (cs := [Ix (x.tick), .slice va (x.ents.length) (vc)]) rfl (k_pt 0 (cs := #[Ix (x.tick), .slice va (x.ents.length) (vc)]) (vs := [Ix (x.tick), .slice va (x.ents.length) (vc)]) rfl rfl) rfl) ?_
            refine l_nil ?_
            exact f_owes_d (up_cons (up_cons rfl hs2) hs54) rfl (perm_front 0 rfl)
          · rintro f M ⟨k0, -⟩ ⟨i0, -⟩
            have hs9 : f 9 = Ix (x44.id) := i0
            have hs54 : f 54 = .bool true := k0
            refine ob_start (L' := M) (by rfl) (up_cons (up_cons rfl hs9) hs54) ?_
            refine g_val (v := Ix (x44.id)) rfl rfl rfl rfl rfl (e_move) ?_
            refine l_nil ?_
            exact f_owes_d (up_cons (up_cons rfl hs9) hs54) rfl (List.Perm.refl _)
          · rintro f M ⟨k0, k1, k2, -⟩ -
            have hs55 : f 55 = .agg #[Ix (x.tick), .slice va (x.ents.length) (vc)] := k0
            have hs56 : f 56 = Ix (x44.id) := k1
            have hs54 : f 54 = .bool true := k2
            refine ob_start (L' := M) (by rfl) (up_cons (up_cons (up_cons rfl hs55) hs56) hs54) ?_
            refine g_call rfl rfl rfl rfl rfl (cl_value (fst := []) (cap := []) (vs := [.agg #[Ix (x.tick), .slice va (x.ents.length) (vc)], Ix (x44.id)]) (all := [.agg #[Ix (x.tick), .slice va (x.ents.length) (vc)], Ix (x44.id)]) tf104 rfl rfl rfl) ?_
            intro w hw
            obtain ⟨β1, sb, kn, hw1, back⟩ := St.frame_all hw
            refine (rof_ok β1 w hw1 x _ (Sl.mono _ _ _ _ _ sb (⟨⟨_, _, rfl, vl, vm, ve⟩⟩ : Sl EntR _ _ x.ents)) hxn hxbig x44.id).mono ?_
            rintro e w' ⟨v55, rfl, hw'⟩
            refine ⟨_, rfl, _, back _ _ hw', ?_⟩
            clear hw hw1 hw' back kn sb
            refine l_nil ?_
            exact f_owes_d (up_cons (up_cons (up_cons rfl hs55) hs56) hs54) rfl (perm_front 0 rfl)
          · rintro f M ⟨k0, -⟩ ⟨i0, -⟩
            have hs3 : f 3 = .pointer (some ⟨b2, 0, none⟩) := i0
            have hs54 : f 54 = .bool true := k0
            refine ob_start (L' := pt b2 (.cells #[Ix (y.tick), .slice v'a (y.ents.length) (v'c)] 24) :: M) (by rfl) (up_cons (up_cons rfl hs3) hs54) ?_
            refine g_val (v := .agg #[Ix (y.tick), .slice v'a (y.ents.length) (v'c)]) rfl rfl rfl rfl rfl (e_load tf46 (cs := [Ix (y.tick), .slice v'a (y.ents.length) (v'c)]) rfl (k_pt 0 (cs := #[Ix (y.tick), .slice v'a (y.ents.length) (v'c)]) (vs := [Ix (y.tick), .slice v'a (y.ents.length) (v'c)]) rfl rfl) rfl) ?_
            refine l_nil ?_
            exact f_owes_d (up_cons (up_cons rfl hs3) hs54) rfl (perm_front 0 rfl)
          · rintro f M ⟨k0, -⟩ ⟨i0, -⟩
            have hs9 : f 9 = Ix (x44.id) := i0
            have hs54 : f 54 = .bool true := k0
            refine ob_start (L' := M) (by rfl) (up_cons (up_cons rfl hs9) hs54) ?_
            refine g_val (v := Ix (x44.id)) rfl rfl rfl rfl rfl (e_move) ?_
            refine l_nil ?_
            exact f_owes_d (up_cons (up_cons rfl hs9) hs54) rfl (List.Perm.refl _)
          · rintro f M ⟨k0, k1, k2, -⟩ -
            have hs58 : f 58 = .agg #[Ix (y.tick), .slice v'a (y.ents.length) (v'c)] := k0
            have hs59 : f 59 = Ix (x44.id) := k1
            have hs54 : f 54 = .bool true := k2
            refine ob_start (L' := M) (by rfl) (up_cons (up_cons (up_cons rfl hs58) hs59) hs54) ?_
            refine g_call rfl rfl rfl rfl rfl (cl_value (fst := []) (cap := []) (vs := [.agg #[Ix (y.tick), .slice v'a (y.ents.length) (v'c)], Ix (x44.id)]) (all := [.agg #[Ix (y.tick), .slice v'a (y.ents.length) (v'c)], Ix (x44.id)]) tf104 rfl rfl rfl) ?_
            intro w hw
            obtain ⟨β1, sb, kn, hw1, back⟩ := St.frame_all hw
            refine (rof_ok β1 w hw1 y _ (Sl.mono _ _ _ _ _ sb (⟨⟨_, _, rfl, v'l, v'm, v'e⟩⟩ : Sl EntR _ _ y.ents)) hyn hybig x44.id).mono ?_
            rintro e w' ⟨v57, rfl, hw'⟩
            refine ⟨_, rfl, _, back _ _ hw', ?_⟩
            clear hw hw1 hw' back kn sb
            refine l_nil ?_
            exact f_owes_d (up_cons (up_cons (up_cons rfl hs58) hs59) hs54) rfl (perm_front 0 rfl)
          · rintro f M ⟨k0, k1, k2, -⟩ -
            have hs57 : f 57 = ((f 57)) := k0
            have hs60 : f 60 = ((f 60)) := k1
            have hs54 : f 54 = .bool true := k2
            refine ob_start (L' := row ((f 57)) 41 1 ((dg x.ents x44.id).length) (((dg x.ents x44.id).map fun z => Ux z)) :: row ((f 60)) 41 1 ((dg y.ents x44.id).length) (((dg y.ents x44.id).map fun z => Ux z)) :: M) (by rfl) (up_cons (up_cons (up_cons rfl hs57) hs60) hs54) ?_
            refine g_call rfl rfl rfl rfl rfl (cl_value (fst := []) (cap := []) (vs := [((f 57)), ((f 60))]) (all := [((f 57)), ((f 60))]) tf105 rfl rfl rfl) ?_
            intro w hw
            obtain ⟨β1, sb, kn, hw1, back⟩ := St.frame_all hw
            refine (rsame_ok β1 w hw1 _ _ (dg x.ents x44.id) (dg y.ents x44.id) (kn (fun h => Sl U64R h _ (dg x.ents x44.id)) (Knows.of_res 0 rfl (fun _ _ hs h => Sl.mono U64R _ _ _ _ hs h) fun _ h => row_sl64 h)) (kn (fun h => Sl U64R h _ (dg y.ents x44.id)) (Knows.of_res 1 rfl (fun _ _ hs h => Sl.mono U64R _ _ _ _ hs h) fun _ h => row_sl64 h))).mono ?_
            rintro e w' ⟨rfl, hw'⟩
            refine ⟨_, rfl, _, back _ _ hw', ?_⟩
            clear hw hw1 hw' back kn sb
            refine l_nil ?_
            exact f_owes_d (up_cons (up_cons (up_cons rfl hs57) hs60) hs54) rfl ((perm_front 1 rfl).trans (perm_front 1 rfl))
          · rintro f M ⟨k0, k1, -⟩ -
            have hs61 : f 61 = .bool (decide ((dg x.ents x44.id) = (dg y.ents x44.id))) := k0
            have hs54 : f 54 = .bool true := k1
            refine ob_start (L' := M) (by rfl) (up_cons (up_cons rfl hs61) hs54) ?_
            refine g_val (v := .bool (decide (¬ ((dg x.ents x44.id) = (dg y.ents x44.id))))) rfl rfl rfl rfl rfl (e_not_p (p := (dg x.ents x44.id) = (dg y.ents x44.id)) rfl) ?_
            refine l_nil ?_
            exact f_owes_d (up_cons (up_cons rfl hs61) hs54) rfl (List.Perm.refl _)
          · rintro f M ⟨k0, k1, -⟩ -
            have hs54 : f 54 = .bool true := k0
            have hs62 : f 62 = .bool (decide (¬ ((dg x.ents x44.id) = (dg y.ents x44.id)))) := k1
            refine ob_start (L' := M) (by rfl) (up_cons (up_cons rfl hs54) hs62) ?_
            refine l_val (v := .bool (decide (¬ ((dg x.ents x44.id) = (dg y.ents x44.id))))) rfl rfl rfl (e_pick_t rfl) ?_
            refine l_nil ?_
            exact f_owes_d (up_cons (up_cons rfl hs54) hs62) rfl (List.Perm.refl _)
          rintro fa58 ⟨-, -, -, -, -, -, -, -, -, -, -, -, -, -, -, -, -, -, -, -, -, -, -, -, -, -, -, -, -, -, -, -, -, -, -, k35, -⟩ ⟨j0, j1, j2, j3, j4, j5, -⟩
          refine f_re (L' := [row (.slice op (out.length) oc) 3 1 (out.length) ((out.map fun z => Ix z)), pt b2 (.cells #[Ix (y.tick), .slice v'a (y.ents.length) (v'c)] 24), pt b1 (.cells #[Ix (x.tick), .slice va (x.ents.length) (vc)] 24), row ((fa58 57)) 41 1 ((dg x.ents x44.id).length) (((dg x.ents x44.id).map fun z => Ux z)), row ((fa58 60)) 41 1 ((dg y.ents x44.id).length) (((dg y.ents x44.id).map fun z => Ux z))]) (by rfl) ?_
          refine f_rebase (d := 2) (v := .pointer (some ⟨b1, 0, none⟩)) j0 ?_
          refine f_rebase (d := 3) (v := .pointer (some ⟨b2, 0, none⟩)) j1 ?_
          refine f_rebase (d := 5) (v := .slice ap (al.length) (ac)) j2 ?_
          refine f_rebase (d := 6) (v := .slice op (out.length) oc) j3 ?_
          refine f_rebase (d := 7) (v := Nx (b)) j4 ?_
          refine f_rebase (d := 8) (v := Nx (j)) j5 ?_
          refine f_rebase (d := 63) (v := .bool (decide (¬ ((dg x.ents x44.id) = (dg y.ents x44.id))))) k35 ?_
          refine f_then ?_
          refine c_if (¬ ((dg x.ents x44.id) = (dg y.ents x44.id))) rfl (fun hc59 => ?_) (fun hc59 => ?_)
          ·
            refine c_region ?_
            refine l_val (v := Nx (j)) rfl rfl rfl (e_move) ?_
            refine l_val (v := Nx (j)) rfl rfl rfl (e_assign) ?_
            refine l_nil ?_
            refine f_block ?_
            refine f_then ?_
            refine c_region ?_
            refine l_val (v := Nx (j)) rfl rfl rfl (e_move) ?_
            refine l_val (v := Nx (j + 1)) rfl rfl rfl (e_add (a := ((j : Nat) : Int)) (b := (1 : Int)) rfl rfl (i64n (by omega) (by omega))) ?_
            refine l_val (v := Nx (j + 1)) rfl rfl rfl (e_assign) ?_
            refine l_nil ?_
            refine f_mask (L' := [row (.slice op (out.length) oc) 3 1 (out.length) ((out.map fun z => Ix z)), pt b2 (.cells #[Ix (y.tick), .slice v'a (y.ents.length) (v'c)] 24), pt b1 (.cells #[Ix (x.tick), .slice va (x.ents.length) (vc)] 24)]) [true, true, true, false, false] rfl ?_
            exact f_cut ⟨(j + 1, (some j)), ⟨⟨rfl, rfl, rfl, rfl, rfl, rfl⟩, rfl, ⟨by omega, hbest.take hx45 ⟨(fun o ho => by rw [List.eq_nil_of_length_eq_zero (show out.length = 0 by omega)] at ho; cases ho), hc59⟩ (fun b' f hb hf => by injection hb with hb; subst hb; rw [hx54] at hf; injection hf with hf; subst hf; exact hg53)⟩⟩, (show al.length - (j + 1) < al.length - j from by omega)⟩
          ·
            refine c_skip ?_
            refine f_block ?_
            refine f_then ?_
            refine c_region ?_
            refine l_val (v := Nx (j)) rfl rfl rfl (e_move) ?_
            refine l_val (v := Nx (j + 1)) rfl rfl rfl (e_add (a := ((j : Nat) : Int)) (b := (1 : Int)) rfl rfl (i64n (by omega) (by omega))) ?_
            refine l_val (v := Nx (j + 1)) rfl rfl rfl (e_assign) ?_
            refine l_nil ?_
            refine f_mask (L' := [row (.slice op (out.length) oc) 3 1 (out.length) ((out.map fun z => Ix z)), pt b2 (.cells #[Ix (y.tick), .slice v'a (y.ents.length) (v'c)] 24), pt b1 (.cells #[Ix (x.tick), .slice va (x.ents.length) (vc)] 24)]) [true, true, true, false, false] rfl ?_
            exact f_cut ⟨(j + 1, (some b)), ⟨⟨rfl, rfl, rfl, rfl, rfl, rfl⟩, rfl, ⟨by omega, hbest.skip hx45 (fun hn => absurd (Decidable.not_not.1 hc59) hn.2)⟩⟩, (show al.length - (j + 1) < al.length - j from by omega)⟩
        ·
          refine c_any [⟨[], [], [0], [28], fun f => f 28 = .slice op (out.length) oc⟩, ⟨[0], [0], [], [29], fun f => f 29 = Nx (out.length)⟩, ⟨[0, 1], [1], [], [30], fun f => f 30 = .bool true⟩, ⟨[0, 1, 2], [2], [], [31], fun f => f 31 = .bool true⟩, ⟨[0, 1, 2, 3], [3], [1], [32], fun f => f 32 = undef⟩, ⟨[0, 1, 2, 3], [3], [0], [33], fun f => f 33 = undef⟩, ⟨[0, 1, 2, 3], [3], [0], [34], fun f => f 34 = undef⟩, ⟨[0, 1, 2, 3, 6], [6, 3], [], [35], fun f => f 35 = undef⟩, ⟨[0, 1, 2, 3, 6, 7], [7, 3], [], [36], fun f => f 36 = undef⟩, ⟨[0, 1, 2, 3, 5, 6, 7, 8], [5, 8, 3], [], [37], fun f => f 37 = undef⟩, ⟨[0, 1, 2, 3, 5, 6, 7, 8, 9], [9, 3], [], [38], fun f => f 38 = undef⟩, ⟨[0, 1, 2, 3, 4, 5, 6, 7, 8, 9, 10], [4, 10, 3], [], [39], fun f => f 39 = undef⟩, ⟨[0, 1, 2, 3, 4, 5, 6, 7, 8, 9, 10, 11], [3, 11], [], [40], fun f => f 40 = .bool true⟩, ⟨[0, 1, 2, 3, 4, 5, 6, 7, 8, 9, 10, 11, 12], [12], [], [41], fun f => f 41 = .bool true⟩, ⟨[0, 1, 2, 3, 4, 5, 6, 7, 8, 9, 10, 11, 12, 13], [13], [2], [42], fun f => f 42 = Nx (b)⟩, ⟨[0, 1, 2, 3, 4, 5, 6, 7, 8, 9, 10, 11, 12, 13, 14], [14, 13], [], [43], fun f => f 43 = .bool false⟩, ⟨[0, 1, 2, 3, 4, 5, 6, 7, 8, 9, 10, 11, 12, 13, 14, 15], [15, 13], [], [44], fun f => f 44 = .bool false⟩, ⟨[0, 1, 2, 3, 4, 5, 6, 7, 8, 9, 10, 11, 12, 13, 14, 15, 16], [16], [1], [45], fun f => f 45 = Ix (x44.id)⟩, ⟨[0, 1, 2, 3, 4, 5, 6, 7, 8, 9, 10, 11, 12, 13, 14, 15, 16], [16], [3], [46], fun f => f 46 = .slice ap (al.length) (ac)⟩, ⟨[0, 1, 2, 3, 4, 5, 6, 7, 8, 9, 10, 11, 12, 13, 14, 15, 16], [16], [2], [47], fun f => f 47 = Nx (b)⟩, ⟨[0, 1, 2, 3, 4, 5, 6, 7, 8, 9, 10, 11, 12, 13, 14, 15, 16, 18, 19], [18, 19, 16], [], [48], fun f => f 48 = .pointer (some ((ba ap).add (b * 2)))⟩, ⟨[0, 1, 2, 3, 4, 5, 6, 7, 8, 9, 10, 11, 12, 13, 14, 15, 16, 18, 19, 20], [20, 16], [], [49], fun f => f 49 = .pointer (some (((ba ap).add (b * 2) : Addr).add 0))⟩, ⟨[0, 1, 2, 3, 4, 5, 6, 7, 8, 9, 10, 11, 12, 13, 14, 15, 16, 18, 19, 20, 21], [21, 16], [], [50], fun f => f 50 = Ix (x53.id)⟩, ⟨[0, 1, 2, 3, 4, 5, 6, 7, 8, 9, 10, 11, 12, 13, 14, 15, 16, 17, 18, 19, 20, 21, 22], [17, 22, 16], [], [51], fun f => f 51 = .bool false⟩, ⟨[0, 1, 2, 3, 4, 5, 6, 7, 8, 9, 10, 11, 12, 13, 14, 15, 16, 17, 18, 19, 20, 21, 22, 23], [16, 23, 13], [], [52], fun f => f 52 = .bool false⟩, ⟨[0, 1, 2, 3, 4, 5, 6, 7, 8, 9, 10, 11, 12, 13, 14, 15, 16, 17, 18, 19, 20, 21, 22, 23, 24], [13, 24], [], [53], fun f => f 53 = .bool false⟩, ⟨[0, 1, 2, 3, 4, 5, 6, 7, 8, 9, 10, 11, 12, 13, 14, 15, 16, 17, 18, 19, 20, 21, 22, 23, 24, 25], [25], [], [54], fun f => f 54 = .bool false⟩, ⟨[0, 1, 2, 3, 4, 5, 6, 7, 8, 9, 10, 11, 12, 13, 14, 15, 16, 17, 18, 19, 20, 21, 22, 23, 24, 25, 26], [26], [4], [55], fun f => f 55 = undef⟩, ⟨[0, 1, 2, 3, 4, 5, 6, 7, 8, 9, 10, 11, 12, 13, 14, 15, 16, 17, 18, 19, 20, 21, 22, 23, 24, 25, 26], [26], [1], [56], fun f => f 56 = undef⟩, ⟨[0, 1, 2, 3, 4, 5, 6, 7, 8, 9, 10, 11, 12, 13, 14, 15, 16, 17, 18, 19, 20, 21, 22, 23, 24, 25, 26, 27, 28], [27, 28, 26], [], [57], fun f => f 57 = undef⟩, ⟨[0, 1, 2, 3, 4, 5, 6, 7, 8, 9, 10, 11, 12, 13, 14, 15, 16, 17, 18, 19, 20, 21, 22, 23, 24, 25, 26], [26], [5], [58], fun f => f 58 = undef⟩, ⟨[0, 1, 2, 3, 4, 5, 6, 7, 8, 9, 10, 11, 12, 13, 14, 15, 16, 17, 18, 19, 20, 21, 22, 23, 24, 25, 26], [26], [1], [59], fun f => f 59 = undef⟩, ⟨[0, 1, 2, 3, 4, 5, 6, 7, 8, 9, 10, 11, 12, 13, 14, 15, 16, 17, 18, 19, 20, 21, 22, 23, 24, 25, 26, 27, 28, 29, 30, 31], [30, 31, 26], [], [60], fun f => f 60 = undef⟩, ⟨[0, 1, 2, 3, 4, 5, 6, 7, 8, 9, 10, 11, 12, 13, 14, 15, 16, 17, 18, 19, 20, 21, 22, 23, 24, 25, 26, 27, 28, 29, 30, 31, 32], [29, 32, 26], [], [61], fun f => f 61 = undef⟩, ⟨[0, 1, 2, 3, 4, 5, 6, 7, 8, 9, 10, 11, 12, 13, 14, 15, 16, 17, 18, 19, 20, 21, 22, 23, 24, 25, 26, 27, 28, 29, 30, 31, 32, 33], [33, 26], [], [62], fun f => f 62 = undef⟩, ⟨[0, 1, 2, 3, 4, 5, 6, 7, 8, 9, 10, 11, 12, 13, 14, 15, 16, 17, 18, 19, 20, 21, 22, 23, 24, 25, 26, 27, 28, 29, 30, 31, 32, 33, 34], [26, 34], [], [63], fun f => f 63 = .bool false⟩] [⟨none, none, [], [], fun _ => row (.slice op (out.length) oc) 3 1 (out.length) ((out.map fun z => Ix z))⟩, ⟨none, none, [], [], fun _ => pt b2 (.cells #[Ix (y.tick), .slice v'a (y.ents.length) (v'c)] 24)⟩, ⟨none, none, [], [], fun _ => pt b1 (.cells #[Ix (x.tick), .slice va (x.ents.length) (vc)] 24)⟩] [(6, .slice op (out.length) oc), (9, Ix (x44.id)), (7, Nx (b)), (5, .slice ap (al.length) (ac)), (2, .pointer (some ⟨b1, 0, none⟩)), (3, .pointer (some ⟨b2, 0, none⟩)), (8, Nx (j))] [4, 5, 3, 0, 2, 6] [] (by kernel_rfl) (by kernel_rfl) (by kernel_rfl) (by kernel_rfl) rfl ⟨rfl, rfl, rfl, rfl, rfl, rfl, rfl, trivial⟩ ⟨?_, ?_, ?_, ?_, ?_, ?_, ?_, ?_, ?_, ?_, ?_, ?_, ?_, ?_, ?_, ?_, ?_, ?_, ?_, ?_, ?_, ?_, ?_, ?_, ?_, ?_, ?_, ?_, ?_, ?_, ?_, ?_, ?_, ?_, ?_, ?_, trivial⟩ ?_
          · rintro f M - ⟨i0, -⟩
            have hs6 : f 6 = .slice op (out.length) oc := i0
            refine ob_start (L' := M) (by rfl) (up_cons rfl hs6) ?_
            refine l_val (v := .slice op (out.length) oc) rfl rfl rfl (e_move) ?_
            refine l_nil ?_
            exact f_owes_d (up_cons rfl hs6) rfl (List.Perm.refl _)
          · rintro f M ⟨k0, -⟩ -
            have hs28 : f 28 = .slice op (out.length) oc := k0
            refine ob_start (L' := M) (by rfl) (up_cons rfl hs28) ?_
            refine l_val (v := Nx (out.length)) rfl rfl rfl (e_len (a := op) (n := out.length) (c := oc) rfl tf38) ?_
            refine l_nil ?_
            exact f_owes_d (up_cons rfl hs28) rfl (List.Perm.refl _)
          · rintro f M ⟨k0, -⟩ -
            have hs29 : f 29 = Nx (out.length) := k0
            refine ob_start (L' := M) (by rfl) (up_cons rfl hs29) ?_
            refine l_val (v := .bool true) rfl rfl rfl ((ev_t hg52 (e_eql (a := ((out.length : Nat) : Int)) (b := (0 : Int)) rfl rfl))) ?_
            refine l_nil ?_
            exact f_owes_d (up_cons rfl hs29) rfl (List.Perm.refl _)
          · rintro f M ⟨k0, -⟩ -
            have hs30 : f 30 = .bool true := k0
            refine ob_start (L' := M) (by rfl) (up_cons rfl hs30) ?_
            refine l_val (v := .bool true) rfl rfl rfl (e_move) ?_
            refine l_nil ?_
            exact f_owes_d (up_cons rfl hs30) rfl (List.Perm.refl _)
          · rintro f M ⟨k0, -⟩ ⟨i0, -⟩
            have hs9 : f 9 = Ix (x44.id) := i0
            have hs31 : f 31 = .bool true := k0
            refine ob_start (L' := M) (by rfl) (up_cons (up_cons rfl hs9) hs31) ?_
            refine l_skip rfl rfl rfl rfl rfl rfl ?_
            refine l_nil ?_
            exact f_owes_d (up_cons (up_cons rfl hs9) hs31) rfl (List.Perm.refl _)
          · rintro f M ⟨k0, -⟩ ⟨i0, -⟩
            have hs6 : f 6 = .slice op (out.length) oc := i0
            have hs31 : f 31 = .bool true := k0
            refine ob_start (L' := M) (by rfl) (up_cons (up_cons rfl hs6) hs31) ?_
            refine l_skip rfl rfl rfl rfl rfl rfl ?_
            refine l_nil ?_
            exact f_owes_d (up_cons (up_cons rfl hs6) hs31) rfl (List.Perm.refl _)
          · rintro f M ⟨k0, -⟩ ⟨i0, -⟩
            have hs6 : f 6 = .slice op (out.length) oc := i0
            have hs31 : f 31 = .bool true := k0
            refine ob_start (L' := M) (by rfl) (up_cons (up_cons rfl hs6) hs31) ?_
            refine l_skip rfl rfl rfl rfl rfl rfl ?_
            refine l_nil ?_
            exact f_owes_d (up_cons (up_cons rfl hs6) hs31) rfl (List.Perm.refl _)
          · rintro f M ⟨k0, k1, -⟩ -
            have hs34 : f 34 = undef := k0
            have hs31 : f 31 = .bool true := k1
            refine ob_start (L' := M) (by rfl) (up_cons (up_cons rfl hs34) hs31) ?_
            refine l_skip rfl rfl rfl rfl rfl rfl ?_
            refine l_nil ?_
            exact f_owes_d (up_cons (up_cons rfl hs34) hs31) rfl (List.Perm.refl _)
          · rintro f M ⟨k0, k1, -⟩ -
            have hs35 : f 35 = undef := k0
            have hs31 : f 31 = .bool true := k1
            refine ob_start (L' := M) (by rfl) (up_cons (up_cons rfl hs35) hs31) ?_
            refine l_skip rfl rfl rfl rfl rfl rfl ?_
            refine l_nil ?_
            exact f_owes_d (up_cons (up_cons rfl hs35) hs31) rfl (List.Perm.refl _)
          · rintro f M ⟨k0, k1, k2, -⟩ -
            have hs33 : f 33 = undef := k0
            have hs36 : f 36 = undef := k1
            have hs31 : f 31 = .bool true := k2
            refine ob_start (L' := M) (by rfl) (up_cons (up_cons (up_cons rfl hs33) hs36) hs31) ?_
            refine l_skip rfl rfl rfl rfl rfl rfl ?_
            refine l_nil ?_
            exact f_owes_d (up_cons (up_cons (up_cons rfl hs33) hs36) hs31) rfl (List.Perm.refl _)
          · rintro f M ⟨k0, k1, -⟩ -
            have hs37 : f 37 = undef := k0
            have hs31 : f 31 = .bool true := k1
            refine ob_start (L' := M) (by rfl) (up_cons (up_cons rfl hs37) hs31) ?_
            refine l_skip rfl rfl rfl rfl rfl rfl ?_
            refine l_nil ?_
            exact f_owes_d (up_cons (up_cons rfl hs37) hs31) rfl (List.Perm.refl _)
          · rintro f M ⟨k0, k1, k2, -⟩ -
            have hs32 : f 32 = undef := k0
            have hs38 : f 38 = undef := k1
            have hs31 : f 31 = .bool true := k2
            refine ob_start (L' := M) (by rfl) (up_cons (up_cons (up_cons rfl hs32) hs38) hs31) ?_
            refine l_skip rfl rfl rfl rfl rfl rfl ?_
            refine l_nil ?_
            exact f_owes_d (up_cons (up_cons (up_cons rfl hs32) hs38) hs31) rfl (List.Perm.refl _)
          · rintro f M ⟨k0, k1, -⟩ -
            have hs31 : f 31 = .bool true := k0
            have hs39 : f 39 = undef := k1
            refine ob_start (L' := M) (by rfl) (up_cons (up_cons rfl hs31) hs39) ?_
            refine l_val (v := .bool true) rfl rfl rfl (e_pick_t rfl) ?_
            refine l_nil ?_
            exact f_owes_d (up_cons (up_cons rfl hs31) hs39) rfl (List.Perm.refl _)
          · rintro f M ⟨k0, -⟩ -
            have hs40 : f 40 = .bool true := k0
            refine ob_start (L' := M) (by rfl) (up_cons rfl hs40) ?_
            refine l_val (v := .bool true) rfl rfl rfl (e_move) ?_
            refine l_nil ?_
            exact f_owes_d (up_cons rfl hs40) rfl (List.Perm.refl _)
          · rintro f M ⟨k0, -⟩ ⟨i0, -⟩
            have hs7 : f 7 = Nx (b) := i0
            have hs41 : f 41 = .bool true := k0
            refine ob_start (L' := M) (by rfl) (up_cons (up_cons rfl hs7) hs41) ?_
            refine g_val (v := Nx (b)) rfl rfl rfl rfl rfl (e_move) ?_
            refine l_nil ?_
            exact f_owes_d (up_cons (up_cons rfl hs7) hs41) rfl (List.Perm.refl _)
          · rintro f M ⟨k0, k1, -⟩ -
            have hs42 : f 42 = Nx (b) := k0
            have hs41 : f 41 = .bool true := k1
            refine ob_start (L' := M) (by rfl) (up_cons (up_cons rfl hs42) hs41) ?_
            refine g_val (v := .bool false) rfl rfl rfl rfl rfl ((ev_f (by omega) (e_lss (a := ((b : Nat) : Int)) (b := (0 : Int)) rfl rfl))) ?_
            refine l_nil ?_
            exact f_owes_d (up_cons (up_cons rfl hs42) hs41) rfl (List.Perm.refl _)
          · rintro f M ⟨k0, k1, -⟩ -
            have hs43 : f 43 = .bool false := k0
            have hs41 : f 41 = .bool true := k1
            refine ob_start (L' := M) (by rfl) (up_cons (up_cons rfl hs43) hs41) ?_
            refine g_val (v := .bool false) rfl rfl rfl rfl rfl (e_move) ?_
            refine l_nil ?_
            exact f_owes_d (up_cons (up_cons rfl hs43) hs41) rfl (List.Perm.refl _)
          · rintro f M ⟨k0, -⟩ ⟨i0, -⟩
            have hs9 : f 9 = Ix (x44.id) := i0
            have hs44 : f 44 = .bool false := k0
            refine ob_start (L' := M) (by rfl) (up_cons (up_cons rfl hs9) hs44) ?_
            refine g_val (v := Ix (x44.id)) rfl rfl rfl rfl rfl (e_move) ?_
            refine l_nil ?_
            exact f_owes_d (up_cons (up_cons rfl hs9) hs44) rfl (List.Perm.refl _)
          · rintro f M ⟨k0, -⟩ ⟨i0, -⟩
            have hs5 : f 5 = .slice ap (al.length) (ac) := i0
            have hs44 : f 44 = .bool false := k0
            refine ob_start (L' := M) (by rfl) (up_cons (up_cons rfl hs5) hs44) ?_
            refine g_val (v := .slice ap (al.length) (ac)) rfl rfl rfl rfl rfl (e_move) ?_
            refine l_nil ?_
            exact f_owes_d (up_cons (up_cons rfl hs5) hs44) rfl (List.Perm.refl _)
          · rintro f M ⟨k0, -⟩ ⟨i0, -⟩
            have hs7 : f 7 = Nx (b) := i0
            have hs44 : f 44 = .bool false := k0
            refine ob_start (L' := M) (by rfl) (up_cons (up_cons rfl hs7) hs44) ?_
            refine g_val (v := Nx (b)) rfl rfl rfl rfl rfl (e_move) ?_
            refine l_nil ?_
            exact f_owes_d (up_cons (up_cons rfl hs7) hs44) rfl (List.Perm.refl _)
          · rintro f M ⟨k0, k1, k2, -⟩ -
            have hs46 : f 46 = .slice ap (al.length) (ac) := k0
            have hs47 : f 47 = Nx (b) := k1
            have hs44 : f 44 = .bool false := k2
            refine ob_start (L' := M) (by rfl) (up_cons (up_cons (up_cons rfl hs46) hs47) hs44) ?_
            refine g_val (v := .pointer (some ((ba ap).add (b * 2)))) rfl rfl rfl rfl rfl (e_indexAddr (k := b) (len := al.length) (cap := ac) (a := ap) rfl rfl tf32 (by omega) ha55) ?_
            refine l_nil ?_
            exact f_owes_d (up_cons (up_cons (up_cons rfl hs46) hs47) hs44) rfl (List.Perm.refl _)
          · rintro f M ⟨k0, k1, -⟩ -
            have hs48 : f 48 = .pointer (some ((ba ap).add (b * 2))) := k0
            have hs44 : f 44 = .bool false := k1
            refine ob_start (L' := M) (by rfl) (up_cons (up_cons rfl hs48) hs44) ?_
            refine g_val (v := .pointer (some (((ba ap).add (b * 2) : Addr).add 0))) rfl rfl rfl rfl rfl (e_fieldAddr (a := (ba ap).add (b * 2)) rfl tf9) ?_
            refine l_nil ?_
            exact f_owes_d (up_cons (up_cons rfl hs48) hs44) rfl (List.Perm.refl _)
          · rintro f M ⟨k0, k1, -⟩ -
            have hs49 : f 49 = .pointer (some (((ba ap).add (b * 2) : Addr).add 0)) := k0
            have hs44 : f 44 = .bool false := k1
            refine ob_start (L' := M) (by rfl) (up_cons (up_cons rfl hs49) hs44) ?_
            refine g_val (v := Ix (x53.id)) rfl rfl rfl rfl rfl (e_load1 tf10 (v := Ix (x53.id)) rfl (Knows.imp (Knows.of_base (Cs.mono _ _) hc57) (fun _ h => Cs.sub (vs := [Ix (x53.id)]) 0 h rfl))) ?_
            refine l_nil ?_
            exact f_owes_d (up_cons (up_cons rfl hs49) hs44) rfl (List.Perm.refl _)
          · rintro f M ⟨k0, k1, k2, -⟩ -
            have hs45 : f 45 = Ix (x44.id) := k0
            have hs50 : f 50 = Ix (x53.id) := k1
            have hs44 : f 44 = .bool false := k2
            refine ob_start (L' := M) (by rfl) (up_cons (up_cons (up_cons rfl hs45) hs50) hs44) ?_
            refine g_val (v := .bool false) rfl rfl rfl rfl rfl ((ev_f hg53 (e_lss (a := (x44.id)) (b := (x53.id)) rfl rfl))) ?_
            refine l_nil ?_
            exact f_owes_d (up_cons (up_cons (up_cons rfl hs45) hs50) hs44) rfl (List.Perm.refl _)
          · rintro f M ⟨k0, k1, k2, -⟩ -
            have hs44 : f 44 = .bool false := k0
            have hs51 : f 51 = .bool false := k1
            have hs41 : f 41 = .bool true := k2
            refine ob_start (L' := M) (by rfl) (up_cons (up_cons (up_cons rfl hs44) hs51) hs41) ?_
            refine g_val (v := .bool false) rfl rfl rfl rfl rfl (e_pick_f rfl) ?_
            refine l_nil ?_
            exact f_owes_d (up_cons (up_cons (up_cons rfl hs44) hs51) hs41) rfl (List.Perm.refl _)
          · rintro f M ⟨k0, k1, -⟩ -
            have hs41 : f 41 = .bool true := k0
            have hs52 : f 52 = .bool false := k1
            refine ob_start (L' := M) (by rfl) (up_cons (up_cons rfl hs41) hs52) ?_
            refine l_val (v := .bool false) rfl rfl rfl (e_pick_t rfl) ?_
            refine l_nil ?_
            exact f_owes_d (up_cons (up_cons rfl hs41) hs52) rfl (List.Perm.refl _)
          · rintro f M ⟨k0, -⟩ -
            have hs53 : f 53 = .bool false := k0
            refine ob_start (L' := M) (by rfl) (up_cons rfl hs53) ?_
            refine l_val (v := .bool false) rfl rfl rfl (e_move) ?_
            refine l_nil ?_
            exact f_owes_d (up_cons rfl hs53) rfl (List.Perm.refl _)
          · rintro f M ⟨k0, -⟩ ⟨i0, -⟩
            have hs2 : f 2 = .pointer (some ⟨b1, 0, none⟩) := i0
            have hs54 : f 54 = .bool false := k0
            refine ob_start (L' := M) (by rfl) (up_cons (up_cons rfl hs2) hs54) ?_
            refine l_skip rfl rfl rfl rfl rfl rfl ?_
            refine l_nil ?_
            exact f_owes_d (up_cons (up_cons rfl hs2) hs54) rfl (List.Perm.refl _)
          · rintro f M ⟨k0, -⟩ ⟨i0, -⟩
            have hs9 : f 9 = Ix (x44.id) := i0
            have hs54 : f 54 = .bool false := k0
            refine ob_start (L' := M) (by rfl) (up_cons (up_cons rfl hs9) hs54) ?_
            refine l_skip rfl rfl rfl rfl rfl rfl ?_
            refine l_nil ?_
            exact f_owes_d (up_cons (up_cons rfl hs9) hs54) rfl (List.Perm.refl _)
          · rintro f M ⟨k0, k1, k2, -⟩ -
            have hs55 : f 55 = undef := k0
            have hs56 : f 56 = undef := k1
            have hs54 : f 54 = .bool false := k2
            refine ob_start (L' := M) (by rfl) (up_cons (up_cons (up_cons rfl hs55) hs56) hs54) ?_
            refine l_skip rfl rfl rfl rfl rfl rfl ?_
            refine l_nil ?_
            exact f_owes_d (up_cons (up_cons (up_cons rfl hs55) hs56) hs54) rfl (List.Perm.refl _)
          · rintro f M ⟨k0, -⟩ ⟨i0, -⟩
            have hs3 : f 3 = .pointer (some ⟨b2, 0, none⟩) := i0
            have hs54 : f 54 = .bool false := k0
            refine ob_start (L' := M) (by rfl) (up_cons (up_cons rfl hs3) hs54) ?_
            refine l_skip rfl rfl rfl rfl rfl rfl ?_
            refine l_nil ?_
            exact f_owes_d (up_cons (up_cons rfl hs3) hs54) rfl (List.Perm.refl _)
          · rintro f M ⟨k0, -⟩ ⟨i0, -⟩
            have hs9 : f 9 = Ix (x44.id) := i0
            have hs54 : f 54 = .bool false := k0
            refine ob_start (L' := M) (by rfl) (up_cons (up_cons rfl hs9) hs54) ?_
            refine l_skip rfl rfl rfl rfl rfl rfl ?_
            refine l_nil ?_
            exact f_owes_d (up_cons (up_cons rfl hs9) hs54) rfl (List.Perm.refl _)
          · rintro f M ⟨k0, k1, k2, -⟩ -
            have hs58 : f 58 = undef := k0
            have hs59 : f 59 = undef := k1
            have hs54 : f 54 = .bool false := k2
            refine ob_start (L' := M) (by rfl) (up_cons (up_cons (up_cons rfl hs58) hs59) hs54) ?_
            refine l_skip rfl rfl rfl rfl rfl rfl ?_
            refine l_nil ?_
            exact f_owes_d (up_cons (up_cons (up_cons rfl hs58) hs59) hs54) rfl (List.Perm.refl _)
          · rintro f M ⟨k0, k1, k2, -⟩ -
            have hs57 : f 57 = undef := k0
            have hs60 : f 60 = undef := k1
            have hs54 : f 54 = .bool false := k2
            refine ob_start (L' := M) (by rfl) (up_cons (up_cons (up_cons rfl hs57) hs60) hs54) ?_
            refine l_skip rfl rfl rfl rfl rfl rfl ?_
            refine l_nil ?_
            exact f_owes_d (up_cons (up_cons (up_cons rfl hs57) hs60) hs54) rfl (List.Perm.refl _)
          · rintro f M ⟨k0, k1, -⟩ -
            have hs61 : f 61 = undef := k0
            have hs54 : f 54 = .bool false := k1
            refine ob_start (L' := M) (by rfl) (up_cons (up_cons rfl hs61) hs54) ?_
            refine l_skip rfl rfl rfl rfl rfl rfl ?_
            refine l_nil ?_
            exact f_owes_d (up_cons (up_cons rfl hs61) hs54) rfl (List.Perm.refl _)
          · rintro f M ⟨k0, k1, -⟩ -
            have hs54 : f 54 = .bool false := k0
            have hs62 : f 62 = undef := k1
            refine ob_start (L' := M) (by rfl) (up_cons (up_cons rfl hs54) hs62) ?_
            refine l_val (v := .bool false) rfl rfl rfl (e_pick_f rfl) ?_
            refine l_nil ?_
            exact f_owes_d (up_cons (up_cons rfl hs54) hs62) rfl (List.Perm.refl _)
          rintro fa60 ⟨-, -, -, -, -, -, -, -, -, -, -, -, -, -, -, -, -, -, -, -, -, -, -, -, -, -, -, -, -, -, -, -, -, -, -, k35, -⟩ ⟨j0, j1, j2, j3, j4, j5, -⟩
          refine f_re (L' := [row (.slice op (out.length) oc) 3 1 (out.length) ((out.map fun z => Ix z)), pt b2 (.cells #[Ix (y.tick), .slice v'a (y.ents.length) (v'c)] 24), pt b1 (.cells #[Ix (x.tick), .slice va (x.ents.length) (vc)] 24)]) (by rfl) ?_
          refine f_rebase (d := 2) (v := .pointer (some ⟨b1, 0, none⟩)) j0 ?_
          refine f_rebase (d := 3) (v := .pointer (some ⟨b2, 0, none⟩)) j1 ?_
          refine f_rebase (d := 5) (v := .slice ap (al.length) (ac)) j2 ?_
          refine f_rebase (d := 6) (v := .slice op (out.length) oc) j3 ?_
          refine f_rebase (d := 7) (v := Nx (b)) j4 ?_
          refine f_rebase (d := 8) (v := Nx (j)) j5 ?_
          refine f_rebase (d := 63) (v := .bool false) k35 ?_
          refine f_then ?_
          refine c_no rfl ?_
          refine c_skip ?_
          refine f_block ?_
          refine f_then ?_
          refine c_region ?_
          refine l_val (v := Nx (j)) rfl rfl rfl (e_move) ?_
          refine l_val (v := Nx (j + 1)) rfl rfl rfl (e_add (a := ((j : Nat) : Int)) (b := (1 : Int)) rfl rfl (i64n (by omega) (by omega))) ?_
          refine l_val (v := Nx (j + 1)) rfl rfl rfl (e_assign) ?_
          refine l_nil ?_
          exact f_cut ⟨(j + 1, (some b)), ⟨⟨rfl, rfl, rfl, rfl, rfl, rfl⟩, rfl, ⟨by omega, hbest.skip hx45 (fun _ => ⟨b, x53, rfl, hx54, by omega⟩)⟩⟩, (show al.length - (j + 1) < al.length - j from by omega)⟩
      ·
        obtain ⟨lst61, hl62⟩ : ∃ z, out[out.length - 1]? = some z := ⟨_, List.getElem?_eq_getElem (by omega)⟩
        by_cases hg61 : (lst61) < (x44.id)
        ·
          obtain ⟨x62, hx63⟩ : ∃ x_, (al)[b]? = some x_ := ⟨_, List.getElem?_eq_getElem (by omega)⟩
          obtain ⟨ha64, cs65, hc66, hr67⟩ := Ae _ _ hx63
          obtain ⟨v68, rfl, hv69⟩ := hr67
          obtain ⟨v68a, v68c, rfl, v68l, v68m, v68e⟩ := hv69.get
          by_cases hg62 : (x44.id) < (x62.id)
          ·
            refine c_any [⟨[], [], [0], [28], fun f => f 28 = .slice op (out.length) oc⟩, ⟨[0], [0], [], [29], fun f => f 29 = Nx (out.length)⟩, ⟨[0, 1], [1], [], [30], fun f => f 30 = .bool false⟩, ⟨[0, 1, 2], [2], [], [31], fun f => f 31 = .bool false⟩, ⟨[0, 1, 2, 3], [3], [1], [32], fun f => f 32 = Ix (x44.id)⟩, ⟨[0, 1, 2, 3], [3], [0], [33], fun f => f 33 = .slice op (out.length) oc⟩, ⟨[0, 1, 2, 3], [3], [0], [34], fun f => f 34 = .slice op (out.length) oc⟩, ⟨[0, 1, 2, 3, 6], [6, 3], [], [35], fun f => f 35 = Nx (out.length)⟩, ⟨[0, 1, 2, 3, 6, 7], [7, 3], [], [36], fun f => f 36 = Nx (out.length - 1)⟩, ⟨[0, 1, 2, 3, 5, 6, 7, 8], [5, 8, 3], [], [37], fun f => f 37 = .pointer (some ((ba op).add ((out.length - 1) * 1)))⟩, ⟨[0, 1, 2, 3, 5, 6, 7, 8, 9], [9, 3], [], [38], fun f => f 38 = Ix (lst61)⟩, ⟨[0, 1, 2, 3, 4, 5, 6, 7, 8, 9, 10], [4, 10, 3], [], [39], fun f => f 39 = .bool true⟩, ⟨[0, 1, 2, 3, 4, 5, 6, 7, 8, 9, 10, 11], [3, 11], [], [40], fun f => f 40 = .bool true⟩, ⟨[0, 1, 2, 3, 4, 5, 6, 7, 8, 9, 10, 11, 12], [12], [], [41], fun f => f 41 = .bool true⟩, ⟨[0, 1, 2, 3, 4, 5, 6, 7, 8, 9, 10, 11, 12, 13], [13], [2], [42], fun f => f 42 = Nx (b)⟩, ⟨[0, 1, 2, 3, 4, 5, 6, 7, 8, 9, 10, 11, 12, 13, 14], [14, 13], [], [43], fun f => f 43 = .bool false⟩, ⟨[0, 1, 2, 3, 4, 5, 6, 7, 8, 9, 10, 11, 12, 13, 14, 15], [15, 13], [], [44], fun f => f 44 = .bool false⟩, ⟨[0, 1, 2, 3, 4, 5, 6, 7, 8, 9, 10, 11, 12, 13, 14, 15, 16], [16], [1], [45], fun f => f 45 = Ix (x44.id)⟩, ⟨[0, 1, 2, 3, 4, 5, 6, 7, 8, 9, 10, 11, 12, 13, 14, 15, 16], [16], [3], [46], fun f => f 46 = .slice ap (al.length) (ac)⟩, ⟨[0, 1, 2, 3, 4, 5, 6, 7, 8, 9, 10, 11, 12, 13, 14, 15, 16], [16], [2], [47], fun f => f 47 = Nx (b)⟩, ⟨[0, 1, 2, 3, 4, 5, 6, 7, 8, 9, 10, 11, 12, 13, 14, 15, 16, 18, 19], [18, 19, 16], [], [48], fun f => f 48 = .pointer (some ((ba ap).add (b * 2)))⟩, ⟨[0, 1, 2, 3, 4, 5, 6, 7, 8, 9, 10, 11, 12, 13, 14, 15, 16, 18, 19, 20], [20, 16], [], [49], fun f => f 49 = .pointer (some (((ba ap).add (b * 2) : Addr).add 0))⟩, ⟨[0, 1, 2, 3, 4, 5, 6, 7, 8, 9, 10, 11, 12, 13, 14, 15, 16, 18, 19, 20, 21], [21, 16], [], [50], fun f => f 50 = Ix (x62.id)⟩, ⟨[0, 1, 2, 3, 4, 5, 6, 7, 8, 9, 10, 11, 12, 13, 14, 15, 16, 17, 18, 19, 20, 21, 22], [17, 22, 16], [], [51], fun f => f 51 = .bool true⟩, ⟨[0, 1, 2, 3, 4, 5, 6, 7, 8, 9, 10, 11, 12, 13, 14, 15, 16, 17, 18, 19, 20, 21, 22, 23], [16, 23, 13], [], [52], fun f => f 52 = .bool true⟩, ⟨[0, 1, 2, 3, 4, 5, 6, 7, 8, 9, 10, 11, 12, 13, 14, 15, 16, 17, 18, 19, 20, 21, 22, 23, 24], [13, 24], [], [53], fun f => f 53 = .bool true⟩, ⟨[0, 1, 2, 3, 4, 5, 6, 7, 8, 9, 10, 11, 12, 13, 14, 15, 16, 17, 18, 19, 20, 21, 22, 23, 24, 25], [25], [], [54], fun f => f 54 = .bool true⟩, ⟨[0, 1, 2, 3, 4, 5, 6, 7, 8, 9, 10, 11, 12, 13, 14, 15, 16, 17, 18, 19, 20, 21, 22, 23, 24, 25, 26], [26], [4], [55], fun f => f 55 = .agg #[Ix (x.tick), .slice va (x.ents.length) (vc)]⟩, ⟨[0, 1, 2, 3, 4, 5, 6, 7, 8, 9, 10, 11, 12, 13, 14, 15, 16, 17, 18, 19, 20, 21, 22, 23, 24, 25, 26], [26], [1], [56], fun f => f 56 = Ix (x44.id)⟩, ⟨[0, 1, 2, 3, 4, 5, 6, 7, 8, 9, 10, 11, 12, 13, 14, 15, 16, 17, 18, 19, 20, 21, 22, 23, 24, 25, 26, 27, 28], [27, 28, 26], [], [57], fun f => f 57 = ((f 57))⟩, ⟨[0, 1, 2, 3, 4, 5, 6, 7, 8, 9, 10, 11, 12, 13, 14, 15, 16, 17, 18, 19, 20, 21, 22, 23, 24, 25, 26], [26], [5], [58], fun f => f 58 = .agg #[Ix (y.tick), .slice v'a (y.ents.length) (v'c)]⟩, ⟨[0, 1, 2, 3, 4, 5, 6, 7, 8, 9, 10, 11, 12, 13, 14, 15, 16, 17, 18, 19, 20, 21, 22, 23, 24, 25, 26], [26], [1], [59], fun f => f 59 = Ix (x44.id)⟩, ⟨[0, 1, 2, 3, 4, 5, 6, 7, 8, 9, 10, 11, 12, 13, 14, 15, 16, 17, 18, 19, 20, 21, 22, 23, 24, 25, 26, 27, 28, 29, 30, 31], [30, 31, 26], [], [60], fun f => f 60 = ((f 60))⟩, ⟨[0, 1, 2, 3, 4, 5, 6, 7, 8, 9, 10, 11, 12, 13, 14, 15, 16, 17, 18, 19, 20, 21, 22, 23, 24, 25, 26, 27, 28, 29, 30, 31, 32], [29, 32, 26], [], [61], fun f => f 61 = .bool (decide ((dg x.ents x44.id) = (dg y.ents x44.id)))⟩, ⟨[0, 1, 2, 3, 4, 5, 6, 7, 8, 9, 10, 11, 12, 13, 14, 15, 16, 17, 18, 19, 20, 21, 22, 23, 24, 25, 26, 27, 28, 29, 30, 31, 32, 33], [33, 26], [], [62], fun f => f 62 = .bool (decide (¬ ((dg x.ents x44.id) = (dg y.ents x44.id))))⟩, ⟨[0, 1, 2, 3, 4, 5, 6, 7, 8, 9, 10, 11, 12, 13, 14, 15, 16, 17, 18, 19, 20, 21, 22, 23, 24, 25, 26, 27, 28, 29, 30, 31, 32, 33, 34], [26, 34], [], [63], fun f => f 63 = .bool (decide (¬ ((dg x.ents x44.id) = (dg y.ents x44.id))))⟩] [⟨none, none, [9, 10], [], fun _ => row (.slice op (out.length) oc) 3 1 (out.length) ((out.map fun z => Ix z))⟩, ⟨none, none, [30], [], fun _ => pt b2 (.cells #[Ix (y.tick), .slice v'a (y.ents.length) (v'c)] 24)⟩, ⟨none, none, [27], [], fun _ => pt b1 (.cells #[Ix (x.tick), .slice va (x.ents.length) (vc)] 24)⟩, ⟨(some 29), none, [33], [57], fun f => row ((f 57)) 41 1 ((dg x.ents x44.id).length) (((dg x.ents x44.id).map fun z => Ux z))⟩, ⟨(some 32), none, [33], [60], fun f => row ((f 60)) 41 1 ((dg y.ents x44.id).length) (((dg y.ents x44.id).map fun z => Ux z))⟩] [(6, .slice op (out.length) oc), (9, Ix (x44.id)), (7, Nx (b)), (5, .slice ap (al.length) (ac)), (2, .pointer (some ⟨b1, 0, none⟩)), (3, .pointer (some ⟨b2, 0, none⟩)), (8, Nx (j))] [4, 5, 3, 0, 2, 6] [] (by kernel_rfl) (by kernel_rfl) (by kernel_rfl) (by kernel_rfl) rfl ⟨rfl, rfl, rfl, rfl, rfl, rfl, rfl, trivial⟩ ⟨?_, ?_, ?_, ?_, ?_, ?_, ?_, ?_, ?_, ?_, ?_, ?_, ?_, ?_, ?_, ?_, ?_, ?_, ?_, ?_, ?_, ?_, ?_, ?_, ?_, ?_, ?_, ?_, ?_, ?_, ?_, ?_, ?_, ?_, ?_, ?_, trivial⟩ ?_
            · rintro f M - ⟨i0, -⟩
              have hs6 : f 6 = .slice op (out.length) oc := i0
              refine ob_start (L' := M) (by rfl) (up_cons rfl hs6) ?_
              refine l_val (v := .slice op (out.length) oc) rfl rfl rfl (e_move) ?_
              refine l_nil ?_
              exact f_owes_d (up_cons rfl hs6) rfl (List.Perm.refl _)
            · rintro f M ⟨k0, -⟩ -
              have hs28 : f 28 = .slice op (out.length) oc := k0
              refine ob_start (L' := M) (by rfl) (up_cons rfl hs28) ?_
              refine l_val (v := Nx (out.length)) rfl rfl rfl (e_len (a := op) (n := out.length) (c := oc) rfl tf38) ?_
              refine l_nil ?_
              exact f_owes_d (up_cons rfl hs28) rfl (List.Perm.refl _)
            · rintro f M ⟨k0, -⟩ -
              have hs29 : f 29 = Nx (out.length) := k0
              refine ob_start (L' := M) (by rfl) (up_cons rfl hs29) ?_
              refine l_val (v := .bool false) rfl rfl rfl ((ev_f hg52 (e_eql (a := ((out.length : Nat) : Int)) (b := (0 : Int)) rfl rfl))) ?_
              refine l_nil ?_
              exact f_owes_d (up_cons rfl hs29) rfl (List.Perm.refl _)
            · rintro f M ⟨k0, -⟩ -
              have hs30 : f 30 = .bool false := k0
              refine ob_start (L' := M) (by rfl) (up_cons rfl hs30) ?_
              refine l_val (v := .bool false) rfl rfl rfl (e_move) ?_
              refine l_nil ?_
              exact f_owes_d (up_cons rfl hs30) rfl (List.Perm.refl _)
            · rintro f M ⟨k0, -⟩ ⟨i0, -⟩
              have hs9 : f 9 = Ix (x44.id) := i0
              have hs31 : f 31 = .bool false := k0
              refine ob_start (L' := M) (by rfl) (up_cons (up_cons rfl hs9) hs31) ?_
              refine g_val (v := Ix (x44.id)) rfl rfl rfl rfl rfl (e_move) ?_
              refine l_nil ?_
              exact f_owes_d (up_cons (up_cons rfl hs9) hs31) rfl (List.Perm.refl _)
            · rintro f M ⟨k0, -⟩ ⟨i0, -⟩
              have hs6 : f 6 = .slice op (out.length) oc := i0
              have hs31 : f 31 = .bool false := k0
              refine ob_start (L' := M) (by rfl) (up_cons (up_cons rfl hs6) hs31) ?_
              refine g_val (v := .slice op (out.length) oc) rfl rfl rfl rfl rfl (e_move) ?_
              refine l_nil ?_
              exact f_owes_d (up_cons (up_cons rfl hs6) hs31) rfl (List.Perm.refl _)
            · rintro f M ⟨k0, -⟩ ⟨i0, -⟩
              have hs6 : f 6 = .slice op (out.length) oc := i0
              have hs31 : f 31 = .bool false := k0
              refine ob_start (L' := M) (by rfl) (up_cons (up_cons rfl hs6) hs31) ?_
              refine g_val (v := .slice op (out.length) oc) rfl rfl rfl rfl rfl (e_move) ?_
              refine l_nil ?_
              exact f_owes_d (up_cons (up_cons rfl hs6) hs31) rfl (List.Perm.refl _)
            · rintro f M ⟨k0, k1, -⟩ -
              have hs34 : f 34 = .slice op (out.length) oc := k0
              have hs31 : f 31 = .bool false := k1
              refine ob_start (L' := M) (by rfl) (up_cons (up_cons rfl hs34) hs31) ?_
              refine g_val (v := Nx (out.length)) rfl rfl rfl rfl rfl (e_len (a := op) (n := out.length) (c := oc) rfl tf38) ?_
              refine l_nil ?_
              exact f_owes_d (up_cons (up_cons rfl hs34) hs31) rfl (List.Perm.refl _)
            · rintro f M ⟨k0, k1, -⟩ -
              have hs35 : f 35 = Nx (out.length) := k0
              have hs31 : f 31 = .bool false := k1
              refine ob_start (L' := M) (by rfl) (up_cons (up_cons rfl hs35) hs31) ?_
              refine g_val (v := Nx (out.length - 1)) rfl rfl rfl rfl rfl (ev_eq (congrArg (Value.int .i64) (by omega)) (e_sub (a := ((out.length : Nat) : Int)) (b := (1 : Int)) rfl rfl (i64w (by omega)))) ?_
              refine l_nil ?_
              exact f_owes_d (up_cons (up_cons rfl hs35) hs31) rfl (List.Perm.refl _)
            · rintro f M ⟨k0, k1, k2, -⟩ -
              have hs33 : f 33 = .slice op (out.length) oc := k0
              have hs36 : f 36 = Nx (out.length - 1) := k1
              have hs31 : f 31 = .bool false := k2
              refine ob_start (L' := row (.slice op (out.length) oc) 3 1 (out.length) ((out.map fun z => Ix z)) :: M) (by rfl) (up_cons (up_cons (up_cons rfl hs33) hs36) hs31) ?_
              refine g_val (v := .pointer (some ((ba op).add ((out.length - 1) * 1)))) rfl rfl rfl rfl rfl (e_indexRow 0 (j := out.length - 1) (len := out.length) (cap := oc) (p := op) rfl rfl tf39 (by omega) (by omega) rfl) ?_
              refine l_nil ?_
              exact f_owes_d (up_cons (up_cons (up_cons rfl hs33) hs36) hs31) rfl (perm_front 0 rfl)
            · rintro f M ⟨k0, k1, -⟩ -
              have hs37 : f 37 = .pointer (some ((ba op).add ((out.length - 1) * 1))) := k0
              have hs31 : f 31 = .bool false := k1
              refine ob_start (L' := row (.slice op (out.length) oc) 3 1 (out.length) ((out.map fun z => Ix z)) :: M) (by rfl) (up_cons (up_cons rfl hs37) hs31) ?_
              refine g_val (v := Ix (lst61)) rfl rfl rfl rfl rfl (e_load1 tf10 (v := Ix (lst61)) rfl (k_row 0 (o := (out.length - 1) * 1) (us := [Ix (lst61)]) rfl (ints_at hl62) (Nat.succ_pos _))) ?_
              refine l_nil ?_
              exact f_owes_d (up_cons (up_cons rfl hs37) hs31) rfl (perm_front 0 rfl)
            · rintro f M ⟨k0, k1, k2, -⟩ -
              have hs32 : f 32 = Ix (x44.id) := k0
              have hs38 : f 38 = Ix (lst61) := k1
              have hs31 : f 31 = .bool false := k2
              refine ob_start (L' := M) (by rfl) (up_cons (up_cons (up_cons rfl hs32) hs38) hs31) ?_
              refine g_val (v := .bool true) rfl rfl rfl rfl rfl ((ev_t hg61 (e_gtr (a := (x44.id)) (b := (lst61)) rfl rfl))) ?_
              refine l_nil ?_
              exact f_owes_d (up_cons (up_cons (up_cons rfl hs32) hs38) hs31) rfl (List.Perm.refl _)
            · rintro f M ⟨k0, k1, -⟩ -
              have hs31 : f 31 = .bool false := k0
              have hs39 : f 39 = .bool true := k1
              refine ob_start (L' := M) (by rfl) (up_cons (up_cons rfl hs31) hs39) ?_
              refine l_val (v := .bool true) rfl rfl rfl (e_pick_f rfl) ?_
              refine l_nil ?_
              exact f_owes_d (up_cons (up_cons rfl hs31) hs39) rfl (List.Perm.refl _)
            · rintro f M ⟨k0, -⟩ -
              have hs40 : f 40 = .bool true := k0
              refine ob_start (L' := M) (by rfl) (up_cons rfl hs40) ?_
              refine l_val (v := .bool true) rfl rfl rfl (e_move) ?_
              refine l_nil ?_
              exact f_owes_d (up_cons rfl hs40) rfl (List.Perm.refl _)
            · rintro f M ⟨k0, -⟩ ⟨i0, -⟩
              have hs7 : f 7 = Nx (b) := i0
              have hs41 : f 41 = .bool true := k0
              refine ob_start (L' := M) (by rfl) (up_cons (up_cons rfl hs7) hs41) ?_
              refine g_val (v := Nx (b)) rfl rfl rfl rfl rfl (e_move) ?_
              refine l_nil ?_
              exact f_owes_d (up_cons (up_cons rfl hs7) hs41) rfl (List.Perm.refl _)
            · rintro f M ⟨k0, k1, -⟩ -
              have hs42 : f 42 = Nx (b) := k0
              have hs41 : f 41 = .bool true := k1
              refine ob_start (L' := M) (by rfl) (up_cons (up_cons rfl hs42) hs41) ?_
              refine g_val (v := .bool false) rfl rfl rfl rfl rfl ((ev_f (by omega) (e_lss (a := ((b : Nat) : Int)) (b := (0 : Int)) rfl rfl))) ?_
              refine l_nil ?_
              exact f_owes_d (up_cons (up_cons rfl hs42) hs41) rfl (List.Perm.refl _)
            · rintro f M ⟨k0, k1, -⟩ -
              have hs43 : f 43 = .bool false := k0
              have hs41 : f 41 = .bool true := k1
              refine ob_start (L' := M) (by rfl) (up_cons (up_cons rfl hs43) hs41) ?_
              refine g_val (v := .bool false) rfl rfl rfl rfl rfl (e_move) ?_
              refine l_nil ?_
              exact f_owes_d (up_cons (up_cons rfl hs43) hs41) rfl (List.Perm.refl _)
            · rintro f M ⟨k0, -⟩ ⟨i0, -⟩
              have hs9 : f 9 = Ix (x44.id) := i0
              have hs44 : f 44 = .bool false := k0
              refine ob_start (L' := M) (by rfl) (up_cons (up_cons rfl hs9) hs44) ?_
              refine g_val (v := Ix (x44.id)) rfl rfl rfl rfl rfl (e_move) ?_
              refine l_nil ?_
              exact f_owes_d (up_cons (up_cons rfl hs9) hs44) rfl (List.Perm.refl _)
            · rintro f M ⟨k0, -⟩ ⟨i0, -⟩
              have hs5 : f 5 = .slice ap (al.length) (ac) := i0
              have hs44 : f 44 = .bool false := k0
              refine ob_start (L' := M) (by rfl) (up_cons (up_cons rfl hs5) hs44) ?_
              refine g_val (v := .slice ap (al.length) (ac)) rfl rfl rfl rfl rfl (e_move) ?_
              refine l_nil ?_
              exact f_owes_d (up_cons (up_cons rfl hs5) hs44) rfl (List.Perm.refl _)
            · rintro f M ⟨k0, -⟩ ⟨i0, -⟩
              have hs7 : f 7 = Nx (b) := i0
              have hs44 : f 44 = .bool false := k0
              refine ob_start (L' := M) (by rfl) (up_cons (up_cons rfl hs7) hs44) ?_
              refine g_val (v := Nx (b)) rfl rfl rfl rfl rfl (e_move) ?_
              refine l_nil ?_
              exact f_owes_d (up_cons (up_cons rfl hs7) hs44) rfl (List.Perm.refl _)
            · rintro f M ⟨k0, k1, k2, -⟩ -
              have hs46 : f 46 = .slice ap (al.length) (ac) := k0
              have hs47 : f 47 = Nx (b) := k1
              have hs44 : f 44 = .bool false := k2
              refine ob_start (L' := M) (by rfl) (up_cons (up_cons (up_cons rfl hs46) hs47) hs44) ?_
              refine g_val (v := .pointer (some ((ba ap).add (b * 2)))) rfl rfl rfl rfl rfl (e_indexAddr (k := b) (len := al.length) (cap := ac) (a := ap) rfl rfl tf32 (by omega) ha64) ?_
              refine l_nil ?_
              exact f_owes_d (up_cons (up_cons (up_cons rfl hs46) hs47) hs44) rfl (List.Perm.refl _)
            · rintro f M ⟨k0, k1, -⟩ -
              have hs48 : f 48 = .pointer (some ((ba ap).add (b * 2))) := k0
              have hs44 : f 44 = .bool false := k1
              refine ob_start (L' := M) (by rfl) (up_cons (up_cons rfl hs48) hs44) ?_
              refine g_val (v := .pointer (some (((ba ap).add (b * 2) : Addr).add 0))) rfl rfl rfl rfl rfl (e_fieldAddr (a := (ba ap).add (b * 2)) rfl tf9) ?_
              refine l_nil ?_
              exact f_owes_d (up_cons (up_cons rfl hs48) hs44) rfl (List.Perm.refl _)
            · rintro f M ⟨k0, k1, -⟩ -
              have hs49 : f 49 = .pointer (some (((ba ap).add (b * 2) : Addr).add 0)) := k0
              have hs44 : f 44 = .bool false := k1
              refine ob_start (L' := M) (by rfl) (up_cons (up_cons rfl hs49) hs44) ?_
              refine g_val (v := Ix (x62.id)) rfl rfl rfl rfl rfl (e_load1 tf10 (v := Ix (x62.id)) rfl (Knows.imp (Knows.of_base (Cs.mono _ _) hc66) (fun _ h => Cs.sub (vs := [Ix (x62.id)]) 0 h rfl))) ?_
              refine l_nil ?_
              exact f_owes_d (up_cons (up_cons rfl hs49) hs44) rfl (List.Perm.refl _)
            · rintro f M ⟨k0, k1, k2, -⟩ -
              have hs45 : f 45 = Ix (x44.id) := k0
              have hs50 : f 50 = Ix (x62.id) := k1
              have hs44 : f 44 = .bool false := k2
              refine ob_start (L' := M) (by rfl) (up_cons (up_cons (up_cons rfl hs45) hs50) hs44) ?_
              refine g_val (v := .bool true) rfl rfl rfl rfl rfl ((ev_t hg62 (e_lss (a := (x44.id)) (b := (x62.id)) rfl rfl))) ?_
              refine l_nil ?_
              exact f_owes_d (up_cons (up_cons (up_cons rfl hs45) hs50) hs44) rfl (List.Perm.refl _)
            · rintro f M ⟨k0, k1, k2, -⟩ -
              have hs44 : f 44 = .bool false := k0
              have hs51 : f 51 = .bool true := k1
              have hs41 : f 41 = .bool true := k2
              refine ob_start (L' := M) (by rfl) (up_cons (up_cons (up_cons rfl hs44) hs51) hs41) ?_
              refine g_val (v := .bool true) rfl rfl rfl rfl rfl (e_pick_f rfl) ?_
              refine l_nil ?_
              exact f_owes_d (up_cons (up_cons (up_cons rfl hs44) hs51) hs41) rfl (List.Perm.refl _)
            · rintro f M ⟨k0, k1, -⟩ -
              have hs41 : f 41 = .bool true := k0
              have hs52 : f 52 = .bool true := k1
              refine ob_start (L' := M) (by rfl) (up_cons (up_cons rfl hs41) hs52) ?_
              refine l_val (v := .bool true) rfl rfl rfl (e_pick_t rfl) ?_
              refine l_nil ?_
              exact f_owes_d (up_cons (up_cons rfl hs41) hs52) rfl (List.Perm.refl _)
            · rintro f M ⟨k0, -⟩ -
              have hs53 : f 53 = .bool true := k0
              refine ob_start (L' := M) (by rfl) (up_cons rfl hs53) ?_
              refine l_val (v := .bool true) rfl rfl rfl (e_move) ?_
              refine l_nil ?_
              exact f_owes_d (up_cons rfl hs53) rfl (List.Perm.refl _)
            · rintro f M ⟨k0, -⟩ ⟨i0, -⟩
              have hs2 : f 2 = .pointer (some ⟨b1, 0, none⟩) := i0
              have hs54 : f 54 = .bool true := k0
              refine ob_start (L' := pt b1 (.cells #[Ix (x.tick), .slice va (x.ents.length) (vc)] 24) :: M) (by rfl) (up_cons (up_cons rfl hs2) hs54) ?_
              refine g_val (v := .agg #[Ix (x.tick), .slice va (x.ents.length) (vc)]) rfl rfl rfl rfl rfl (e_load tf46 (cs := [Ix (x.tick), .slice va (x.ents.length) (vc)]) rfl (k_pt 0 (cs := #[Ix (x.tick), .slice va (x.ents.length) (vc)]) (vs := [Ix (x.tick), .slice va (x.ents.length) (vc)]) rfl rfl) rfl) ?_
              refine l_nil ?_
              exact f_owes_d (up_cons (up_cons rfl hs2) hs54) rfl (perm_front 0 rfl)
            · rintro f M ⟨k0, -⟩ ⟨i0, -⟩
              have hs9 : f 9 = Ix (x44.id) := i0
              have hs54 : f 54 = .bool true := k0
              refine ob_start (L' := M) (by rfl) (up_cons (up_cons rfl hs9) hs54) ?_
              refine g_val (v := Ix (x44.id)) rfl rfl rfl rfl rfl (e_move) ?_
              refine l_nil ?_
              exact f_owes_d (up_cons (up_cons rfl hs9) hs54) rfl (List.Perm.refl _)
            · rintro f M ⟨k0, k1, k2, -⟩ -
              have hs55 : f 55 = .agg #[Ix (x.tick), .slice va (x.ents.length) (vc)] := k0
              have hs56 : f 56 = Ix (x44.id) := k1
              have hs54 : f 54 = .bool true := k2
              refine ob_start (L' := M) (by rfl) (up_cons (up_cons (up_cons rfl hs55) hs56) hs54) ?_
              refine g_call rfl rfl rfl rfl rfl (cl_value (fst := []) (cap := []) (vs := [.agg #[Ix (x.tick), .slice va (x.ents.length) (vc)], Ix (x44.id)]) (all := [.agg #[Ix (x.tick), .slice va (x.ents.length) (vc)], Ix (x44.id)]) tf104 rfl rfl rfl) ?_
              intro w hw
              obtain ⟨β1, sb, kn, hw1, back⟩ := St.frame_all hw
              refine (rof_ok β1 w hw1 x _ (Sl.mono _ _ _ _ _ sb (⟨⟨_, _, rfl, vl, vm, ve⟩⟩ : Sl EntR _ _ x.ents)) hxn hxbig x44.id).mono ?_
              rintro e w' ⟨v64, rfl, hw'⟩
              refine ⟨_, rfl, _, back _ _ hw', ?_⟩
              clear hw hw1 hw' back kn sb
              refine l_nil ?_
              exact f_owes_d (up_cons (up_cons (up_cons rfl hs55) hs56) hs54) rfl (perm_front 0 rfl)
            · rintro f M ⟨k0, -⟩ ⟨i0, -⟩
              have hs3 : f 3 = .pointer (some ⟨b2, 0, none⟩) := i0
              have hs54 : f 54 = .bool true := k0
              refine ob_start (L' := pt b2 (.cells #[Ix (y.tick), .slice v'a (y.ents.length) (v'c)] 24) :: M) (by rfl) (up_cons (up_cons rfl hs3) hs54) ?_
              refine g_val (v := .agg #[Ix (y.tick), .slice v'a (y.ents.length) (v'c)]) rfl rfl rfl rfl rfl (e_load tf46 (cs := [Ix (y.tick), .slice v'a (y.ents.length) (v'c)]) rfl (k_pt 0 (cs := #[Ix (y.tick), .slice v'a (y.ents.length) (v'c)]) (vs := [Ix (y.tick), .slice v'a (y.ents.length) (v'c)]) rfl rfl) rfl) ?_
              refine l_nil ?_
              exact f_owes_d (up_cons (up_cons rfl hs3) hs54) rfl (perm_front 0 rfl)
            · rintro f M ⟨k0, -⟩ ⟨i0, -⟩
              have hs9 : f 9 = Ix (x44.id) := i0
              have hs54 : f 54 = .bool true := k0
              refine ob_start (L' := M) (by rfl) (up_cons (up_cons rfl hs9) hs54) ?_
              refine g_val (v := Ix (x44.id)) rfl rfl rfl rfl rfl (e_move) ?_
              refine l_nil ?_
              exact f_owes_d (up_cons (up_cons rfl hs9) hs54) rfl (List.Perm.refl _)
            · rintro f M ⟨k0, k1, k2, -⟩ -
              have hs58 : f 58 = .agg #[Ix (y.tick), .slice v'a (y.ents.length) (v'c)] := k0
              have hs59 : f 59 = Ix (x44.id) := k1
              have hs54 : f 54 = .bool true := k2
              refine ob_start (L' := M) (by rfl) (up_cons (up_cons (up_cons rfl hs58) hs59) hs54) ?_
              refine g_call rfl rfl rfl rfl rfl (cl_value (fst := []) (cap := []) (vs := [.agg #[Ix (y.tick), .slice v'a (y.ents.length) (v'c)], Ix (x44.id)]) (all := [.agg #[Ix (y.tick), .slice v'a (y.ents.length) (v'c)], Ix (x44.id)]) tf104 rfl rfl rfl) ?_
              intro w hw
              obtain ⟨β1, sb, kn, hw1, back⟩ := St.frame_all hw
              refine (rof_ok β1 w hw1 y _ (Sl.mono _ _ _ _ _ sb (⟨⟨_, _, rfl, v'l, v'm, v'e⟩⟩ : Sl EntR _ _ y.ents)) hyn hybig x44.id).mono ?_
              rintro e w' ⟨v66, rfl, hw'⟩
              refine ⟨_, rfl, _, back _ _ hw', ?_⟩
              clear hw hw1 hw' back kn sb
              refine l_nil ?_
              exact f_owes_d (up_cons (up_cons (up_cons rfl hs58) hs59) hs54) rfl (perm_front 0 rfl)
            · rintro f M ⟨k0, k1, k2, -⟩ -
              have hs57 : f 57 = ((f 57)) := k0
              have hs60 : f 60 = ((f 60)) := k1
              have hs54 : f 54 = .bool true := k2
              refine ob_start (L' := row ((f 57)) 41 1 ((dg x.ents x44.id).length) (((dg x.ents x44.id).map fun z => Ux z)) :: row ((f 60)) 41 1 ((dg y.ents x44.id).length) (((dg y.ents x44.id).map fun z => Ux z)) :: M) (by rfl) (up_cons (up_cons (up_cons rfl hs57) hs60) hs54) ?_
              refine g_call rfl rfl rfl rfl rfl (cl_value (fst := []) (cap := []) (vs := [((f 57)), ((f 60))]) (all := [((f 57)), ((f 60))]) tf105 rfl rfl rfl) ?_
              intro w hw
              obtain ⟨β1, sb, kn, hw1, back⟩ := St.frame_all hw
              refine (rsame_ok β1 w hw1 _ _ (dg x.ents x44.id) (dg y.ents x44.id) (kn (fun h => Sl U64R h _ (dg x.ents x44.id)) (Knows.of_res 0 rfl (fun _ _ hs h => Sl.mono U64R _ _ _ _ hs h) fun _ h => row_sl64 h)) (kn (fun h => Sl U64R h _ (dg y.ents x44.id)) (Knows.of_res 1 rfl (fun _ _ hs h => Sl.mono U64R _ _ _ _ hs h) fun _ h => row_sl64 h))).mono ?_
              rintro e w' ⟨rfl, hw'⟩
              refine ⟨_, rfl, _, back _ _ hw', ?_⟩
              clear hw hw1 hw' back kn sb
              refine l_nil ?_
              exact f_owes_d (up_cons (up_cons (up_cons rfl hs57) hs60) hs54) rfl ((perm_front 1 rfl).trans (perm_front 1 rfl))
            · rintro f M ⟨k0, k1, -⟩ -
              have hs61 : f 61 = .bool (decide ((dg x.ents x44.id) = (dg y.ents x44.id))) := k0
              have hs54 : f 54 = .bool true := k1
              refine ob_start (L' := M) (by rfl) (up_cons (up_cons rfl hs61) hs54) ?_
              refine g_val (v := .bool (decide (¬ ((dg x.ents x44.id) = (dg y.ents x44.id))))) rfl rfl rfl rfl rfl (e_not_p (p := (dg x.ents x44.id) = (dg y.ents x44.id)) rfl) ?_
              refine l_nil ?_
              exact f_owes_d (up_cons (up_cons rfl hs61) hs54) rfl (List.Perm.refl _)
            · rintro f M ⟨k0, k1, -⟩ -
              have hs54 : f 54 = .bool true := k0
              have hs62 : f 62 = .bool (decide (¬ ((dg x.ents x44.id) = (dg y.ents x44.id)))) := k1
              refine ob_start (L' := M) (by rfl) (up_cons (up_cons rfl hs54) hs62) ?_
              refine l_val (v := .bool (decide (¬ ((dg x.ents x44.id) = (dg y.ents x44.id))))) rfl rfl rfl (e_pick_t rfl) ?_
              refine l_nil ?_
              exact f_owes_d (up_cons (up_cons rfl hs54) hs62) rfl (List.Perm.refl _)
            rintro fa67 ⟨-, -, -, -, -, -, -, -, -, -, -, -, -, -, -, -, -, -, -, -, -, -, -, -, -, -, -, -, -, -, -, -, -, -, -, k35, -⟩ ⟨j0, j1, j2, j3, j4, j5, -⟩
            refine f_re (L' := [row (.slice op (out.length) oc) 3 1 (out.length) ((out.map fun z => Ix z)), pt b2 (.cells #[Ix (y.tick), .slice v'a (y.ents.length) (v'c)] 24), pt b1 (.cells #[Ix (x.tick), .slice va (x.ents.length) (vc)] 24), row ((fa67 57)) 41 1 ((dg x.ents x44.id).length) (((dg x.ents x44.id).map fun z => Ux z)), row ((fa67 60)) 41 1 ((dg y.ents x44.id).length) (((dg y.ents x44.id).map fun z => Ux z))]) (by rfl) ?_
            refine f_rebase (d := 2) (v := .pointer (some ⟨b1, 0, none⟩)) j0 ?_
            refine f_rebase (d := 3) (v := .pointer (some ⟨b2, 0, none⟩)) j1 ?_
            refine f_rebase (d := 5) (v := .slice ap (al.length) (ac)) j2 ?_
            refine f_rebase (d := 6) (v := .slice op (out.length) oc) j3 ?_
            refine f_rebase (d := 7) (v := Nx (b)) j4 ?_
            refine f_rebase (d := 8) (v := Nx (j)) j5 ?_
            refine f_rebase (d := 63) (v := .bool (decide (¬ ((dg x.ents x44.id) = (dg y.ents x44.id))))) k35 ?_
            refine f_then ?_
            refine c_if (¬ ((dg x.ents x44.id) = (dg y.ents x44.id))) rfl (fun hc68 => ?_) (fun hc68 => ?_)
            ·
              refine c_region ?_
              refine l_val (v := Nx (j)) rfl rfl rfl (e_move) ?_
              refine l_val (v := Nx (j)) rfl rfl rfl (e_assign) ?_
              refine l_nil ?_
              refine f_block ?_
              refine f_then ?_
              refine c_region ?_
              refine l_val (v := Nx (j)) rfl rfl rfl (e_move) ?_
              refine l_val (v := Nx (j + 1)) rfl rfl rfl (e_add (a := ((j : Nat) : Int)) (b := (1 : Int)) rfl rfl (i64n (by omega) (by omega))) ?_
              refine l_val (v := Nx (j + 1)) rfl rfl rfl (e_assign) ?_
              refine l_nil ?_
              refine f_mask (L' := [row (.slice op (out.length) oc) 3 1 (out.length) ((out.map fun z => Ix z)), pt b2 (.cells #[Ix (y.tick), .slice v'a (y.ents.length) (v'c)] 24), pt b1 (.cells #[Ix (x.tick), .slice va (x.ents.length) (vc)] 24)]) [true, true, true, false, false] rfl ?_
              exact f_cut ⟨(j + 1, (some j)), ⟨⟨rfl, rfl, rfl, rfl, rfl, rfl⟩, rfl, ⟨by omega, hbest.take hx45 ⟨(last_lt hfd hl62 hg61), hc68⟩ (fun b' f hb hf => by injection hb with hb; subst hb; rw [hx63] at hf; injection hf with hf; subst hf; exact hg62)⟩⟩, (show al.length - (j + 1) < al.length - j from by omega)⟩
            ·
              refine c_skip ?_
              refine f_block ?_
              refine f_then ?_
              refine c_region ?_
              refine l_val (v := Nx (j)) rfl rfl rfl (e_move) ?_
              refine l_val (v := Nx (j + 1)) rfl rfl rfl (e_add (a := ((j : Nat) : Int)) (b := (1 : Int)) rfl rfl (i64n (by omega) (by omega))) ?_
              refine l_val (v := Nx (j + 1)) rfl rfl rfl (e_assign) ?_
              refine l_nil ?_
              refine f_mask (L' := [row (.slice op (out.length) oc) 3 1 (out.length) ((out.map fun z => Ix z)), pt b2 (.cells #[Ix (y.tick), .slice v'a (y.ents.length) (v'c)] 24), pt b1 (.cells #[Ix (x.tick), .slice va (x.ents.length) (vc)] 24)]) [true, true, true, false, false] rfl ?_
              exact f_cut ⟨(j + 1, (some b)), ⟨⟨rfl, rfl, rfl, rfl, rfl, rfl⟩, rfl, ⟨by omega, hbest.skip hx45 (fun hn => absurd (Decidable.not_not.1 hc68) hn.2)⟩⟩, (show al.length - (j + 1) < al.length - j from by omega)⟩
          ·
            refine c_any [⟨[], [], [0], [28], fun f => f 28 = .slice op (out.length) oc⟩, ⟨[0], [0], [], [29], fun f => f 29 = Nx (out.length)⟩, ⟨[0, 1], [1], [], [30], fun f => f 30 = .bool false⟩, ⟨[0, 1, 2], [2], [], [31], fun f => f 31 = .bool false⟩, ⟨[0, 1, 2, 3], [3], [1], [32], fun f => f 32 = Ix (x44.id)⟩, ⟨[0, 1, 2, 3], [3], [0], [33], fun f => f 33 = .slice op (out.length) oc⟩, ⟨[0, 1, 2, 3], [3], [0], [34], fun f => f 34 = .slice op (out.length) oc⟩, ⟨[0, 1, 2, 3, 6], [6, 3], [], [35], fun f => f 35 = Nx (out.length)⟩, ⟨[0, 1, 2, 3, 6, 7], [7, 3], [], [36], fun f => f 36 = Nx (out.length - 1)⟩, ⟨[0, 1, 2, 3, 5, 6, 7, 8], [5, 8, 3], [], [37], fun f => f 37 = .pointer (some ((ba op).add ((out.length - 1) * 1)))⟩, ⟨[0, 1, 2, 3, 5, 6, 7, 8, 9], [9, 3], [], [38], fun f => f 38 = Ix (lst61)⟩, ⟨[0, 1, 2, 3, 4, 5, 6, 7, 8, 9, 10], [4, 10, 3], [], [39], fun f => f 39 = .bool true⟩, ⟨[0, 1, 2, 3, 4, 5, 6, 7, 8, 9, 10, 11], [3, 11], [], [40], fun f => f 40 = .bool true⟩, ⟨[0, 1, 2, 3, 4, 5, 6, 7, 8, 9, 10, 11, 12], [12], [], [41], fun f => f 41 = .bool true⟩, ⟨[0, 1, 2, 3, 4, 5, 6, 7, 8, 9, 10, 11, 12, 13], [13], [2], [42], fun f => f 42 = Nx (b)⟩, ⟨[0, 1, 2, 3, 4, 5, 6, 7, 8, 9, 10, 11, 12, 13, 14], [14, 13], [], [43], fun f => f 43 = .bool false⟩, ⟨[0, 1, 2, 3, 4, 5, 6, 7, 8, 9, 10, 11, 12, 13, 14, 15], [15, 13], [], [44], fun f => f 44 = .bool false⟩, ⟨[0, 1, 2, 3, 4, 5, 6, 7, 8, 9, 10, 11, 12, 13, 14, 15, 16], [16], [1], [45], fun f => f 45 = Ix (x44.id)⟩, ⟨[0, 1, 2, 3, 4, 5, 6, 7, 8, 9, 10, 11, 12, 13, 14, 15, 16], [16], [3], [46], fun f => f 46 = .slice ap (al.length) (ac)⟩, ⟨[0, 1, 2, 3, 4, 5, 6, 7, 8, 9, 10, 11, 12, 13, 14, 15, 16], [16], [2], [47], fun f => f 47 = Nx (b)⟩, ⟨[0, 1, 2, 3, 4, 5, 6, 7, 8, 9, 10, 11, 12, 13, 14, 15, 16, 18, 19], [18, 19, 16], [], [48], fun f => f 48 = .pointer (some ((ba ap).add (b * 2)))⟩, ⟨[0, 1, 2, 3, 4, 5, 6, 7, 8, 9, 10, 11, 12, 13, 14, 15, 16, 18, 19, 20], [20, 16], [], [49], fun f => f 49 = .pointer (some (((ba ap).add (b * 2) : Addr).add 0))⟩, ⟨[0, 1, 2, 3, 4, 5, 6, 7, 8, 9, 10, 11, 12, 13, 14, 15, 16, 18, 19, 20, 21], [21, 16], [], [50], fun f => f 50 = Ix (x62.id)⟩, ⟨[0, 1, 2, 3, 4, 5, 6, 7, 8, 9, 10, 11, 12, 13, 14, 15, 16, 17, 18, 19, 20, 21, 22], [17, 22, 16], [], [51], fun f => f 51 = .bool false⟩, ⟨[0, 1, 2, 3, 4, 5, 6, 7, 8, 9, 10, 11, 12, 13, 14, 15, 16, 17, 18, 19, 20, 21, 22, 23], [16, 23, 13], [], [52], fun f => f 52 = .bool false⟩, ⟨[0, 1, 2, 3, 4, 5, 6, 7, 8, 9, 10, 11, 12, 13, 14, 15, 16, 17, 18, 19, 20, 21, 22, 23, 24], [13, 24], [], [53], fun f => f 53 = .bool false⟩, ⟨[0, 1, 2, 3, 4, 5, 6, 7, 8, 9, 10, 11, 12, 13, 14, 15, 16, 17, 18, 19, 20, 21, 22, 23, 24, 25], [25], [], [54], fun f => f 54 = .bool false⟩, ⟨[0, 1, 2, 3, 4, 5, 6, 7, 8, 9, 10, 11, 12, 13, 14, 15, 16, 17, 18, 19, 20, 21, 22, 23, 24, 25, 26], [26], [4], [55], fun f => f 55 = undef⟩, ⟨[0, 1, 2, 3, 4, 5, 6, 7, 8, 9, 10, 11, 12, 13, 14, 15, 16, 17, 18, 19, 20, 21, 22, 23, 24, 25, 26], [26], [1], [56], fun f => f 56 = undef⟩, ⟨[0, 1, 2, 3, 4, 5, 6, 7, 8, 9, 10, 11, 12, 13, 14, 15, 16, 17, 18, 19, 20, 21, 22, 23, 24, 25, 26, 27, 28], [27, 28, 26], [], [57], fun f => f 57 = undef⟩, ⟨[0, 1, 2, 3, 4, 5, 6, 7, 8, 9, 10, 11, 12, 13, 14, 15, 16, 17, 18, 19, 20, 21, 22, 23, 24, 25, 26], [26], [5], [58], fun f => f 58 = undef⟩, ⟨[0, 1, 2, 3, 4, 5, 6, 7, 8, 9, 10, 11, 12, 13, 14, 15, 16, 17, 18, 19, 20, 21, 22, 23, 24, 25, 26], [26], [1], [59], fun f => f 59 = undef⟩, ⟨[0, 1, 2, 3, 4, 5, 6, 7, 8, 9, 10, 11, 12, 13, 14, 15, 16, 17, 18, 19, 20, 21, 22, 23, 24, 25, 26, 27, 28, 29, 30, 31], [30, 31, 26], [], [60], fun f => f 60 = undef⟩, ⟨[0, 1, 2, 3, 4, 5, 6, 7, 8, 9, 10, 11, 12, 13, 14, 15, 16, 17, 18, 19, 20, 21, 22, 23, 24, 25, 26, 27, 28, 29, 30, 31, 32], [29, 32, 26], [], [61], fun f => f 61 = undef⟩, ⟨[0, 1, 2, 3, 4, 5, 6, 7, 8, 9, 10, 11, 12, 13, 14, 15, 16, 17, 18, 19, 20, 21, 22, 23, 24, 25, 26, 27, 28, 29, 30, 31, 32, 33], [33, 26], [], [62], fun f => f 62 = undef⟩, ⟨[0, 1, 2, 3, 4, 5, 6, 7, 8, 9, 10, 11, 12, 13, 14, 15, 16, 17, 18, 19, 20, 21, 22, 23, 24, 25, 26, 27, 28, 29, 30, 31, 32, 33, 34], [26, 34], [], [63], fun f => f 63 = .bool false⟩] [⟨none, none, [9, 10], [], fun _ => row (.slice op (out.length) oc) 3 1 (out.length) ((out.map fun z => Ix z))⟩, ⟨none, none, [], [], fun _ => pt b2 (.cells #[Ix (y.tick), .slice v'a (y.ents.length) (v'c)] 24)⟩, ⟨none, none, [], [], fun _ => pt b1 (.cells #[Ix (x.tick), .slice va (x.ents.length) (vc)] 24)⟩] [(6, .slice op (out.length) oc), (9, Ix (x44.id)), (7, Nx (b)), (5, .slice ap (al.length) (ac)), (2, .pointer (some ⟨b1, 0, none⟩)), (3, .pointer (some ⟨b2, 0, none⟩)), (8, Nx (j))] [4, 5, 3, 0, 2, 6] [] (by kernel_rfl) (by kernel_rfl) (by kernel_rfl) (by kernel_rfl) rfl ⟨rfl, rfl, rfl, rfl, rfl, rfl, rfl, trivial⟩ ⟨?_, ?_, ?_, ?_, ?_, ?_, ?_, ?_, ?_, ?_, ?_, ?_, ?_, ?_, ?_, ?_, ?_, ?_, ?_, ?_, ?_, ?_, ?_, ?_, ?_, ?_, ?_, ?_, ?_, ?_, ?_, ?_, ?_, ?_, ?_, ?_, trivial⟩ ?_
            · rintro f M - ⟨i0, -⟩
              have hs6 : f 6 = .slice op (out.length) oc := i0
              refine ob_start (L' := M) (by rfl) (up_cons rfl hs6) ?_
              refine l_val (v := .slice op (out.length) oc) rfl rfl rfl (e_move) ?_
              refine l_nil ?_
              exact f_owes_d (up_cons rfl hs6) rfl (List.Perm.refl _)
            · rintro f M ⟨k0, -⟩ -
              have hs28 : f 28 = .slice op (out.length) oc := k0
              refine ob_start (L' := M) (by rfl) (up_cons rfl hs28) ?_
              refine l_val (v := Nx (out.length)) rfl rfl rfl (e_len (a := op) (n := out.length) (c := oc) rfl tf38) ?_
              refine l_nil ?_
              exact f_owes_d (up_cons rfl hs28) rfl (List.Perm.refl _)
            · rintro f M ⟨k0, -⟩ -
              have hs29 : f 29 = Nx (out.length) := k0
              refine ob_start (L' := M) (by rfl) (up_cons rfl hs29) ?_
              refine l_val (v := .bool false) rfl rfl rfl ((ev_f hg52 (e_eql (a := ((out.length : Nat) : Int)) (b := (0 : Int)) rfl rfl))) ?_
              refine l_nil ?_
              exact f_owes_d (up_cons rfl hs29) rfl (List.Perm.refl _)
            · rintro f M ⟨k0, -⟩ -
              have hs30 : f 30 = .bool false := k0
              refine ob_start (L' := M) (by rfl) (up_cons rfl hs30) ?_
              refine l_val (v := .bool false) rfl rfl rfl (e_move) ?_
              refine l_nil ?_
              exact f_owes_d (up_cons rfl hs30) rfl (List.Perm.refl _)
            · rintro f M ⟨k0, -⟩ ⟨i0, -⟩
              have hs9 : f 9 = Ix (x44.id) := i0
              have hs31 : f 31 = .bool false := k0
              refine ob_start (L' := M) (by rfl) (up_cons (up_cons rfl hs9) hs31) ?_
              refine g_val (v := Ix (x44.id)) rfl rfl rfl rfl rfl (e_move) ?_
              refine l_nil ?_
              exact f_owes_d (up_cons (up_cons rfl hs9) hs31) rfl (List.Perm.refl _)
            · rintro f M ⟨k0, -⟩ ⟨i0, -⟩
              have hs6 : f 6 = .slice op (out.length) oc := i0
              have hs31 : f 31 = .bool false := k0
              refine ob_start (L' := M) (by rfl) (up_cons (up_cons rfl hs6) hs31) ?_
              refine g_val (v := .slice op (out.length) oc) rfl rfl rfl rfl rfl (e_move) ?_
              refine l_nil ?_
              exact f_owes_d (up_cons (up_cons rfl hs6) hs31) rfl (List.Perm.refl _)
            · rintro f M ⟨k0, -⟩ ⟨i0, -⟩
              have hs6 : f 6 = .slice op (out.length) oc := i0
              have hs31 : f 31 = .bool false := k0
              refine ob_start (L' := M) (by rfl) (up_cons (up_cons rfl hs6) hs31) ?_
              refine g_val (v := .slice op (out.length) oc) rfl rfl rfl rfl rfl (e_move) ?_
              refine l_nil ?_
              exact f_owes_d (up_cons (up_cons rfl hs6) hs31) rfl (List.Perm.refl _)
            · rintro f M ⟨k0, k1, -⟩ -
              have hs34 : f 34 = .slice op (out.length) oc := k0
              have hs31 : f 31 = .bool false := k1
              refine ob_start (L' := M) (by rfl) (up_cons (up_cons rfl hs34) hs31) ?_
              refine g_val (v := Nx (out.length)) rfl rfl rfl rfl rfl (e_len (a := op) (n := out.length) (c := oc) rfl tf38) ?_
              refine l_nil ?_
              exact f_owes_d (up_cons (up_cons rfl hs34) hs31) rfl (List.Perm.refl _)
            · rintro f M ⟨k0, k1, -⟩ -
              have hs35 : f 35 = Nx (out.length) := k0
              have hs31 : f 31 = .bool false := k1
              refine ob_start (L' := M) (by rfl) (up_cons (up_cons rfl hs35) hs31) ?_
              refine g_val (v := Nx (out.length - 1)) rfl rfl rfl rfl rfl (ev_eq (congrArg (Value.int .i64) (by omega)) (e_sub (a := ((out.length : Nat) : Int)) (b := (1 : Int)) rfl rfl (i64w (by omega)))) ?_
              refine l_nil ?_
              exact f_owes_d (up_cons (up_cons rfl hs35) hs31) rfl (List.Perm.refl _)
            · rintro f M ⟨k0, k1, k2, -⟩ -
              have hs33 : f 33 = .slice op (out.length) oc := k0
              have hs36 : f 36 = Nx (out.length - 1) := k1
              have hs31 : f 31 = .bool false := k2
              refine ob_start (L' := row (.slice op (out.length) oc) 3 1 (out.length) ((out.map fun z => Ix z)) :: M) (by rfl) (up_cons (up_cons (up_cons rfl hs33) hs36) hs31) ?_
              refine g_val (v := .pointer (some ((ba op).add ((out.length - 1) * 1)))) rfl rfl rfl rfl rfl (e_indexRow 0 (j := out.length - 1) (len := out.length) (cap := oc) (p := op) rfl rfl tf39 (by omega) (by omega) rfl) ?_
              refine l_nil ?_
              exact f_owes_d (up_cons (up_cons (up_cons rfl hs33) hs36) hs31) rfl (perm_front 0 rfl)
            · rintro f M ⟨k0, k1, -⟩ -
              have hs37 : f 37 = .pointer (some ((ba op).add ((out.length - 1) * 1))) := k0
              have hs31 : f 31 = .bool false := k1
              refine ob_start (L' := row (.slice op (out.length) oc) 3 1 (out.length) ((out.map fun z => Ix z)) :: M) (by rfl) (up_cons (up_cons rfl hs37) hs31) ?_
              refine g_val (v := Ix (lst61)) rfl rfl rfl rfl rfl (e_load1 tf10 (v := Ix (lst61)) rfl (k_row 0 (o := (out.length - 1) * 1) (us := [Ix (lst61)]) rfl (ints_at hl62) (Nat.succ_pos _))) ?_
              refine l_nil ?_
              exact f_owes_d (up_cons (up_cons rfl hs37) hs31) rfl (perm_front 0 rfl)
            · rintro f M ⟨k0, k1, k2, -⟩ -
              have hs32 : f 32 = Ix (x44.id) := k0
              have hs38 : f 38 = Ix (lst61) := k1
              have hs31 : f 31 = .bool false := k2
              refine ob_start (L' := M) (by rfl) (up_cons (up_cons (up_cons rfl hs32) hs38) hs31) ?_
              refine g_val (v := .bool true) rfl rfl rfl rfl rfl ((ev_t hg61 (e_gtr (a := (x44.id)) (b := (lst61)) rfl rfl))) ?_
              refine l_nil ?_
              exact f_owes_d (up_cons (up_cons (up_cons rfl hs32) hs38) hs31) rfl (List.Perm.refl _)
            · rintro f M ⟨k0, k1, -⟩ -
              have hs31 : f 31 = .bool false := k0
              have hs39 : f 39 = .bool true := k1
              refine ob_start (L' := M) (by rfl) (up_cons (up_cons rfl hs31) hs39) ?_
              refine l_val (v := .bool true) rfl rfl rfl (e_pick_f rfl) ?_
              refine l_nil ?_
              exact f_owes_d (up_cons (up_cons rfl hs31) hs39) rfl (List.Perm.refl _)
            · rintro f M ⟨k0, -⟩ -
              have hs40 : f 40 = .bool true := k0
              refine ob_start (L' := M) (by rfl) (up_cons rfl hs40) ?_
              refine l_val (v := .bool true) rfl rfl rfl (e_move) ?_
              refine l_nil ?_
              exact f_owes_d (up_cons rfl hs40) rfl (List.Perm.refl _)
            · rintro f M ⟨k0, -⟩ ⟨i0, -⟩
              have hs7 : f 7 = Nx (b) := i0
              have hs41 : f 41 = .bool true := k0
              refine ob_start (L' := M) (by rfl) (up_cons (up_cons rfl hs7) hs41) ?_
              refine g_val (v := Nx (b)) rfl rfl rfl rfl rfl (e_move) ?_
              refine l_nil ?_
              exact f_owes_d (up_cons (up_cons rfl hs7) hs41) rfl (List.Perm.refl _)
            · rintro f M ⟨k0, k1, -⟩ -
              have hs42 : f 42 = Nx (b) := k0
              have hs41 : f 41 = .bool true := k1
              refine ob_start (L' := M) (by rfl) (up_cons (up_cons rfl hs42) hs41) ?_
              refine g_val (v := .bool false) rfl rfl rfl rfl rfl ((ev_f (by omega) (e_lss (a := ((b : Nat) : Int)) (b := (0 : Int)) rfl rfl))) ?_
              refine l_nil ?_
              exact f_owes_d (up_cons (up_cons rfl hs42) hs41) rfl (List.Perm.refl _)
            · rintro f M ⟨k0, k1, -⟩ -
              have hs43 : f 43 = .bool false := k0
              have hs41 : f 41 = .bool true := k1
              refine ob_start (L' := M) (by rfl) (up_cons (up_cons rfl hs43) hs41) ?_
              refine g_val (v := .bool false) rfl rfl rfl rfl rfl (e_move) ?_
              refine l_nil ?_
              exact f_owes_d (up_cons (up_cons rfl hs43) hs41) rfl (List.Perm.refl _)
            · rintro f M ⟨k0, -⟩ ⟨i0, -⟩
              have hs9 : f 9 = Ix (x44.id) := i0
              have hs44 : f 44 = .bool false := k0
              refine ob_start (L' := M) (by rfl) (up_cons (up_cons rfl hs9) hs44) ?_
              refine g_val (v := Ix (x44.id)) rfl rfl rfl rfl rfl (e_move) ?_
              refine l_nil ?_
              exact f_owes_d (up_cons (up_cons rfl hs9) hs44) rfl (List.Perm.refl _)
            · rintro f M ⟨k0, -⟩ ⟨i0, -⟩
              have hs5 : f 5 = .slice ap (al.length) (ac) := i0
              have hs44 : f 44 = .bool false := k0
              refine ob_start (L' := M) (by rfl) (up_cons (up_cons rfl hs5) hs44) ?_
              refine g_val (v := .slice ap (al.length) (ac)) rfl rfl rfl rfl rfl (e_move) ?_
              refine l_nil ?_
              exact f_owes_d (up_cons (up_cons rfl hs5) hs44) rfl (List.Perm.refl _)
            · rintro f M ⟨k0, -⟩ ⟨i0, -⟩
              have hs7 : f 7 = Nx (b) := i0
              have hs44 : f 44 = .bool false := k0
              refine ob_start (L' := M) (by rfl) (up_cons (up_cons rfl hs7) hs44) ?_
              refine g_val (v := Nx (b)) rfl rfl rfl rfl rfl (e_move) ?_
              refine l_nil ?_
              exact f_owes_d (up_cons (up_cons rfl hs7) hs44) rfl (List.Perm.refl _)
            · rintro f M ⟨k0, k1, k2, -⟩ -
              have hs46 : f 46 = .slice ap (al.length) (ac) := k0
              have hs47 : f 47 = Nx (b) := k1
              have hs44 : f 44 = .bool false := k2
              refine ob_start (L' := M) (by rfl) (up_cons (up_cons (up_cons rfl hs46) hs47) hs44) ?_
              refine g_val (v := .pointer (some ((ba ap).add (b * 2)))) rfl rfl rfl rfl rfl (e_indexAddr (k := b) (len := al.length) (cap := ac) (a := ap) rfl rfl tf32 (by omega) ha64) ?_
              refine l_nil ?_
              exact f_owes_d (up_cons (up_cons (up_cons rfl hs46) hs47) hs44) rfl (List.Perm.refl _)
            · rintro f M ⟨k0, k1, -⟩ -
              have hs48 : f 48 = .pointer (some ((ba ap).add (b * 2))) := k0
              have hs44 : f 44 = .bool false := k1
              refine ob_start (L' := M) (by rfl) (up_cons (up_cons rfl hs48) hs44) ?_
              refine g_val (v := .pointer (some (((ba ap).add (b * 2) : Addr).add 0))) rfl rfl rfl rfl rfl (e_fieldAddr (a := (ba ap).add (b * 2)) rfl tf9) ?_
              refine l_nil ?_
              exact f_owes_d (up_cons (up_cons rfl hs48) hs44) rfl (List.Perm.refl _)
            · rintro f M ⟨k0, k1, -⟩ -
              have hs49 : f 49 = .pointer (some (((ba ap).add (b * 2) : Addr).add 0)) := k0
              have hs44 : f 44 = .bool false := k1
              refine ob_start (L' := M) (by rfl) (up_cons (up_cons rfl hs49) hs44) ?_
              refine g_val (v := Ix (x62.id)) rfl rfl rfl rfl rfl (e_load1 tf10 (v := Ix (x62.id)) rfl (Knows.imp (Knows.of_base (Cs.mono _ _) hc66) (fun _ h => Cs.sub (vs := [Ix (x62.id)]) 0 h rfl))) ?_
              refine l_nil ?_
              exact f_owes_d (up_cons (up_cons rfl hs49) hs44) rfl (List.Perm.refl _)
            · rintro f M ⟨k0, k1, k2, -⟩ -
              have hs45 : f 45 = Ix (x44.id) := k0
              have hs50 : f 50 = Ix (x62.id) := k1
              have hs44 : f 44 = .bool false := k2
              refine ob_start (L' := M) (by rfl) (up_cons (up_cons (up_cons rfl hs45) hs50) hs44) ?_
              refine g_val (v := .bool false) rfl rfl rfl rfl rfl ((ev_f hg62 (e_lss (a := (x44.id)) (b := (x62.id)) rfl rfl))) ?_
              refine l_nil ?_
              exact f_owes_d (up_cons (up_cons (up_cons rfl hs45) hs50) hs44) rfl (List.Perm.refl _)
            · rintro f M ⟨k0, k1, k2, -⟩ -
              have hs44 : f 44 = .bool false := k0
              have hs51 : f 51 = .bool false := k1
              have hs41 : f 41 = .bool true := k2
              refine ob_start (L' := M) (by rfl) (up_cons (up_cons (up_cons rfl hs44) hs51) hs41) ?_
              refine g_val (v := .bool false) rfl rfl rfl rfl rfl (e_pick_f rfl) ?_
              refine l_nil ?_
              exact f_owes_d (up_cons (up_cons (up_cons rfl hs44) hs51) hs41) rfl (List.Perm.refl _)
            · rintro f M ⟨k0, k1, -⟩ -
              have hs41 : f 41 = .bool true := k0
              have hs52 : f 52 = .bool false := k1
              refine ob_start (L' := M) (by rfl) (up_cons (up_cons rfl hs41) hs52) ?_
              refine l_val (v := .bool false) rfl rfl rfl (e_pick_t rfl) ?_
              refine l_nil ?_
              exact f_owes_d (up_cons (up_cons rfl hs41) hs52) rfl (List.Perm.refl _)
            · rintro f M ⟨k0, -⟩ -
              have hs53 : f 53 = .bool false := k0
              refine ob_start (L' := M) (by rfl) (up_cons rfl hs53) ?_
              refine l_val (v := .bool false) rfl rfl rfl (e_move) ?_
              refine l_nil ?_
              exact f_owes_d (up_cons rfl hs53) rfl (List.Perm.refl _)
            · rintro f M ⟨k0, -⟩ ⟨i0, -⟩
              have hs2 : f 2 = .pointer (some ⟨b1, 0, none⟩) := i0
              have hs54 : f 54 = .bool false := k0
              refine ob_start (L' := M) (by rfl) (up_cons (up_cons rfl hs2) hs54) ?_
              refine l_skip rfl rfl rfl rfl rfl rfl ?_
              refine l_nil ?_
              exact f_owes_d (up_cons (up_cons rfl hs2) hs54) rfl (List.Perm.refl _)
            · rintro f M ⟨k0, -⟩ ⟨i0, -⟩
              have hs9 : f 9 = Ix (x44.id) := i0
              have hs54 : f 54 = .bool false := k0
              refine ob_start (L' := M) (by rfl) (up_cons (up_cons rfl hs9) hs54) ?_
              refine l_skip rfl rfl rfl rfl rfl rfl ?_
              refine l_nil ?_
              exact f_owes_d (up_cons (up_cons rfl hs9) hs54) rfl (List.Perm.refl _)
            · rintro f M ⟨k0, k1, k2, -⟩ -
              have hs55 : f 55 = undef := k0
              have hs56 : f 56 = undef := k1
              have hs54 : f 54 = .bool false := k2
              refine ob_start (L' := M) (by rfl) (up_cons (up_cons (up_cons rfl hs55) hs56) hs54) ?_
              refine l_skip rfl rfl rfl rfl rfl rfl ?_
              refine l_nil ?_
              exact f_owes_d (up_cons (up_cons (up_cons rfl hs55) hs56) hs54) rfl (List.Perm.refl _)
            · rintro f M ⟨k0, -⟩ ⟨i0, -⟩
              have hs3 : f 3 = .pointer (some ⟨b2, 0, none⟩) := i0
              have hs54 : f 54 = .bool false := k0
              refine ob_start (L' := M) (by rfl) (up_cons (up_cons rfl hs3) hs54) ?_
              refine l_skip rfl rfl rfl rfl rfl rfl ?_
              refine l_nil ?_
              exact f_owes_d (up_cons (up_cons rfl hs3) hs54) rfl (List.Perm.refl _)
            · rintro f M ⟨k0, -⟩ ⟨i0, -⟩
              have hs9 : f 9 = Ix (x44.id) := i0
              have hs54 : f 54 = .bool false := k0
              refine ob_start (L' := M) (by rfl) (up_cons (up_cons rfl hs9) hs54) ?_
              refine l_skip rfl rfl rfl rfl rfl rfl ?_
              refine l_nil ?_
              exact f_owes_d (up_cons (up_cons rfl hs9) hs54) rfl (List.Perm.refl _)
            · rintro f M ⟨k0, k1, k2, -⟩ -
              have hs58 : f 58 = undef := k0
              have hs59 : f 59 = undef := k1
              have hs54 : f 54 = .bool false := k2
              refine ob_start (L' := M) (by rfl) (up_cons (up_cons (up_cons rfl hs58) hs59) hs54) ?_
              refine l_skip rfl rfl rfl rfl rfl rfl ?_
              refine l_nil ?_
              exact f_owes_d (up_cons (up_cons (up_cons rfl hs58) hs59) hs54) rfl (List.Perm.refl _)
            · rintro f M ⟨k0, k1, k2, -⟩ -
              have hs57 : f 57 = undef := k0
              have hs60 : f 60 = undef := k1
              have hs54 : f 54 = .bool false := k2
              refine ob_start (L' := M) (by rfl) (up_cons (up_cons (up_cons rfl hs57) hs60) hs54) ?_
              refine l_skip rfl rfl rfl rfl rfl rfl ?_
              refine l_nil ?_
              exact f_owes_d (up_cons (up_cons (up_cons rfl hs57) hs60) hs54) rfl (List.Perm.refl _)
            · rintro f M ⟨k0, k1, -⟩ -
              have hs61 : f 61 = undef := k0
              have hs54 : f 54 = .bool false := k1
              refine ob_start (L' := M) (by rfl) (up_cons (up_cons rfl hs61) hs54) ?_
              refine l_skip rfl rfl rfl rfl rfl rfl ?_
              refine l_nil ?_
              exact f_owes_d (up_cons (up_cons rfl hs61) hs54) rfl (List.Perm.refl _)
            · rintro f M ⟨k0, k1, -⟩ -
              have hs54 : f 54 = .bool false := k0
              have hs62 : f 62 = undef := k1
              refine ob_start (L' := M) (by rfl) (up_cons (up_cons rfl hs54) hs62) ?_
              refine l_val (v := .bool false) rfl rfl rfl (e_pick_f rfl) ?_
              refine l_nil ?_
              exact f_owes_d (up_cons (up_cons rfl hs54) hs62) rfl (List.Perm.refl _)
            rintro fa69 ⟨-, -, -, -, -, -, -, -, -, -, -, -, -, -, -, -, -, -, -, -, -, -, -, -, -, -, -, -, -, -, -, -, -, -, -, k35, -⟩ ⟨j0, j1, j2, j3, j4, j5, -⟩
            refine f_re (L' := [row (.slice op (out.length) oc) 3 1 (out.length) ((out.map fun z => Ix z)), pt b2 (.cells #[Ix (y.tick), .slice v'a (y.ents.length) (v'c)] 24), pt b1 (.cells #[Ix (x.tick), .slice va (x.ents.length) (vc)] 24)]) (by rfl) ?_
            refine f_rebase (d := 2) (v := .pointer (some ⟨b1, 0, none⟩)) j0 ?_
            refine f_rebase (d := 3) (v := .pointer (some ⟨b2, 0, none⟩)) j1 ?_
            refine f_rebase (d := 5) (v := .slice ap (al.length) (ac)) j2 ?_
            refine f_rebase (d := 6) (v := .slice op (out.length) oc) j3 ?_
            refine f_rebase (d := 7) (v := Nx (b)) j4 ?_
            refine f_rebase (d := 8) (v := Nx (j)) j5 ?_
            refine f_rebase (d := 63) (v := .bool false) k35 ?_
            refine f_then ?_
            refine c_no rfl ?_
            refine c_skip ?_
            refine f_block ?_
            refine f_then ?_
            refine c_region ?_
            refine l_val (v := Nx (j)) rfl rfl rfl (e_move) ?_
            refine l_val (v := Nx (j + 1)) rfl rfl rfl (e_add (a := ((j : Nat) : Int)) (b := (1 : Int)) rfl rfl (i64n (by omega) (by omega))) ?_
            refine l_val (v := Nx (j + 1)) rfl rfl rfl (e_assign) ?_
            refine l_nil ?_
            exact f_cut ⟨(j + 1, (some b)), ⟨⟨rfl, rfl, rfl, rfl, rfl, rfl⟩, rfl, ⟨by omega, hbest.skip hx45 (fun _ => ⟨b, x62, rfl, hx63, by omega⟩)⟩⟩, (show al.length - (j + 1) < al.length - j from by omega)⟩
        ·
          refine c_any [⟨[], [], [0], [28], fun f => f 28 = .slice op (out.length) oc⟩, ⟨[0], [0], [], [29], fun f => f 29 = Nx (out.length)⟩, ⟨[0, 1], [1], [], [30], fun f => f 30 = .bool false⟩, ⟨[0, 1, 2], [2], [], [31], fun f => f 31 = .bool false⟩, ⟨[0, 1, 2, 3], [3], [1], [32], fun f => f 32 = Ix (x44.id)⟩, ⟨[0, 1, 2, 3], [3], [0], [33], fun f => f 33 = .slice op (out.length) oc⟩, ⟨[0, 1, 2, 3], [3], [0], [34], fun f => f 34 = .slice op (out.length) oc⟩, ⟨[0, 1, 2, 3, 6], [6, 3], [], [35], fun f => f 35 = Nx (out.length)⟩, ⟨[0, 1, 2, 3, 6, 7], [7, 3], [], [36], fun f => f 36 = Nx (out.length - 1)⟩, ⟨[0, 1, 2, 3, 5, 6, 7, 8], [5, 8, 3], [], [37], fun f => f 37 = .pointer (some ((ba op).add ((out.length - 1) * 1)))⟩, ⟨[0, 1, 2, 3, 5, 6, 7, 8, 9], [9, 3], [], [38], fun f => f 38 = Ix (lst61)⟩, ⟨[0, 1, 2, 3, 4, 5, 6, 7, 8, 9, 10], [4, 10, 3], [], [39], fun f => f 39 = .bool false⟩, ⟨[0, 1, 2, 3, 4, 5, 6, 7, 8, 9, 10, 11], [3, 11], [], [40], fun f => f 40 = .bool false⟩, ⟨[0, 1, 2, 3, 4, 5, 6, 7, 8, 9, 10, 11, 12], [12], [], [41], fun f => f 41 = .bool false⟩, ⟨[0, 1, 2, 3, 4, 5, 6, 7, 8, 9, 10, 11, 12, 13], [13], [2], [42], fun f => f 42 = undef⟩, ⟨[0, 1, 2, 3, 4, 5, 6, 7, 8, 9, 10, 11, 12, 13, 14], [14, 13], [], [43], fun f => f 43 = undef⟩, ⟨[0, 1, 2, 3, 4, 5, 6, 7, 8, 9, 10, 11, 12, 13, 14, 15], [15, 13], [], [44], fun f => f 44 = undef⟩, ⟨[0, 1, 2, 3, 4, 5, 6, 7, 8, 9, 10, 11, 12, 13, 14, 15, 16], [16], [1], [45], fun f => f 45 = undef⟩, ⟨[0, 1, 2, 3, 4, 5, 6, 7, 8, 9, 10, 11, 12, 13, 14, 15, 16], [16], [3], [46], fun f => f 46 = undef⟩, ⟨[0, 1, 2, 3, 4, 5, 6, 7, 8, 9, 10, 11, 12, 13, 14, 15, 16], [16], [2], [47], fun f => f 47 = undef⟩, ⟨[0, 1, 2, 3, 4, 5, 6, 7, 8, 9, 10, 11, 12, 13, 14, 15, 16, 18, 19], [18, 19, 16], [], [48], fun f => f 48 = undef⟩, ⟨[0, 1, 2, 3, 4, 5, 6, 7, 8, 9, 10, 11, 12, 13, 14, 15, 16, 18, 19, 20], [20, 16], [], [49], fun f => f 49 = undef⟩, ⟨[0, 1, 2, 3, 4, 5, 6, 7, 8, 9, 10, 11, 12, 13, 14, 15, 16, 18, 19, 20, 21], [21, 16], [], [50], fun f => f 50 = undef⟩, ⟨[0, 1, 2, 3, 4, 5, 6, 7, 8, 9, 10, 11, 12, 13, 14, 15, 16, 17, 18, 19, 20, 21, 22], [17, 22, 16], [], [51], fun f => f 51 = undef⟩, ⟨[0, 1, 2, 3, 4, 5, 6, 7, 8, 9, 10, 11, 12, 13, 14, 15, 16, 17, 18, 19, 20, 21, 22, 23], [16, 23, 13], [], [52], fun f => f 52 = undef⟩, ⟨[0, 1, 2, 3, 4, 5, 6, 7, 8, 9, 10, 11, 12, 13, 14, 15, 16, 17, 18, 19, 20, 21, 22, 23, 24], [13, 24], [], [53], fun f => f 53 = .bool false⟩, ⟨[0, 1, 2, 3, 4, 5, 6, 7, 8, 9, 10, 11, 12, 13, 14, 15, 16, 17, 18, 19, 20, 21, 22, 23, 24, 25], [25], [], [54], fun f => f 54 = .bool false⟩, ⟨[0, 1, 2, 3, 4, 5, 6, 7, 8, 9, 10, 11, 12, 13, 14, 15, 16, 17, 18, 19, 20, 21, 22, 23, 24, 25, 26], [26], [4], [55], fun f => f 55 = undef⟩, ⟨[0, 1, 2, 3, 4, 5, 6, 7, 8, 9, 10, 11, 12, 13, 14, 15, 16, 17, 18, 19, 20, 21, 22, 23, 24, 25, 26], [26], [1], [56], fun f => f 56 = undef⟩, ⟨[0, 1, 2, 3, 4, 5, 6, 7, 8, 9, 10, 11, 12, 13, 14, 15, 16, 17, 18, 19, 20, 21, 22, 23, 24, 25, 26, 27, 28], [27, 28, 26], [], [57], fun f => f 57 = undef⟩, ⟨[0, 1, 2, 3, 4, 5, 6, 7, 8, 9, 10, 11, 12, 13, 14, 15, 16, 17, 18, 19, 20, 21, 22, 23, 24, 25, 26], [26], [5], [58], fun f => f 58 = undef⟩, ⟨[0, 1, 2, 3, 4, 5, 6, 7, 8, 9, 10, 11, 12, 13, 14, 15, 16, 17, 18, 19, 20, 21, 22, 23, 24, 25, 26], [26], [1], [59], fun f => f 59 = undef⟩, ⟨[0, 1, 2, 3, 4, 5, 6, 7, 8, 9, 10, 11, 12, 13, 14, 15, 16, 17, 18, 19, 20, 21, 22, 23, 24, 25, 26, 27, 28, 29, 30, 31], [30, 31, 26], [], [60], fun f => f 60 = undef⟩, ⟨[0, 1, 2, 3, 4, 5, 6, 7, 8, 9, 10, 11, 12, 13, 14, 15, 16, 17, 18, 19, 20, 21, 22, 23, 24, 25, 26, 27, 28, 29, 30, 31, 32], [29, 32, 26], [], [61], fun f => f 61 = undef⟩, ⟨[0, 1, 2, 3, 4, 5, 6, 7, 8, 9, 10, 11, 12, 13, 14, 15, 16, 17, 18, 19, 20, 21, 22, 23, 24, 25, 26, 27, 28, 29, 30, 31, 32, 33], [33, 26], [], [62], fun f => f 62 = undef⟩, ⟨[0, 1, 2, 3, 4, 5, 6, 7, 8, 9, 10, 11, 12, 13, 14, 15, 16, 17, 18, 19, 20, 21, 22, 23, 24, 25, 26, 27, 28, 29, 30, 31, 32, 33, 34], [26, 34], [], [63], fun f => f 63 = .bool false⟩] [⟨none, none, [9, 10], [], fun _ => row (.slice op (out.length) oc) 3 1 (out.length) ((out.map fun z => Ix z))⟩, ⟨none, none, [], [], fun _ => pt b2 (.cells #[Ix (y.tick), .slice v'a (y.ents.length) (v'c)] 24)⟩, ⟨none, none, [], [], fun _ => pt b1 (.cells #[Ix (x.tick), .slice va (x.ents.length) (vc)] 24)⟩] [(6, .slice op (out.length) oc), (9, Ix (x44.id)), (7, Nx (b)), (5, .slice ap (al.length) (ac)), (2, .pointer (some ⟨b1, 0, none⟩)), (3, .pointer (some ⟨b2, 0, none⟩)), (8, Nx (j))] [4, 5, 3, 0, 2, 6] [] (by kernel_rfl) (by kernel_rfl) (by kernel_rfl) (by kernel_rfl) rfl ⟨rfl, rfl, rfl, rfl, rfl, rfl, rfl, trivial⟩ ⟨?_, ?_, ?_, ?_, ?_, ?_, ?_, ?_, ?_, ?_, ?_, ?_, ?_, ?_, ?_, ?_, ?_, ?_, ?_, ?_, ?_, ?_, ?_, ?_, ?_, ?_, ?_, ?_, ?_, ?_, ?_, ?_, ?_, ?_, ?_, ?_, trivial⟩ ?_
          · rintro f M - ⟨i0, -⟩
            have hs6 : f 6 = .slice op (out.length) oc := i0
            refine ob_start (L' := M) (by rfl) (up_cons rfl hs6) ?_
            refine l_val (v := .slice op (out.length) oc) rfl rfl rfl (e_move) ?_
            refine l_nil ?_
            exact f_owes_d (up_cons rfl hs6) rfl (List.Perm.refl _)
          · rintro f M ⟨k0, -⟩ -
            have hs28 : f 28 = .slice op (out.length) oc := k0
            refine ob_start (L' := M) (by rfl) (up_cons rfl hs28) ?_
            refine l_val (v := Nx (out.length)) rfl rfl rfl (e_len (a := op) (n := out.length) (c := oc) rfl tf38) ?_
            refine l_nil ?_
            exact f_owes_d (up_cons rfl hs28) rfl (List.Perm.refl _)
          · rintro f M ⟨k0, -⟩ -
            have hs29 : f 29 = Nx (out.length) := k0
            refine ob_start (L' := M) (by rfl) (up_cons rfl hs29) ?_
            refine l_val (v := .bool false) rfl rfl rfl ((ev_f hg52 (e_eql (a := ((out.length : Nat) : Int)) (b := (0 : Int)) rfl rfl))) ?_
            refine l_nil ?_
            exact f_owes_d (up_cons rfl hs29) rfl (List.Perm.refl _)
          · rintro f M ⟨k0, -⟩ -
            have hs30 : f 30 = .bool false := k0
            refine ob_start (L' := M) (by rfl) (up_cons rfl hs30) ?_
            refine l_val (v := .bool false) rfl rfl rfl (e_move) ?_
            refine l_nil ?_
            exact f_owes_d (up_cons rfl hs30) rfl (List.Perm.refl _)
          · rintro f M ⟨k0, -⟩ ⟨i0, -⟩
            have hs9 : f 9 = Ix (x44.id) := i0
            have hs31 : f 31 = .bool false := k0
            refine ob_start (L' := M) (by rfl) (up_cons (up_cons rfl hs9) hs31) ?_
            refine g_val (v := Ix (x44.id)) rfl rfl rfl rfl rfl (e_move) ?_
            refine l_nil ?_
            exact f_owes_d (up_cons (up_cons rfl hs9) hs31) rfl (List.Perm.refl _)
          · rintro f M ⟨k0, -⟩ ⟨i0, -⟩
            have hs6 : f 6 = .slice op (out.length) oc := i0
            have hs31 : f 31 = .bool false := k0
            refine ob_start (L' := M) (by rfl) (up_cons (up_cons rfl hs6) hs31) ?_
            refine g_val (v := .slice op (out.length) oc) rfl rfl rfl rfl rfl (e_move) ?_
            refine l_nil ?_
            exact f_owes_d (up_cons (up_cons rfl hs6) hs31) rfl (List.Perm.refl _)
          · rintro f M ⟨k0, -⟩ ⟨i0, -⟩
            have hs6 : f 6 = .slice op (out.length) oc := i0
            have hs31 : f 31 = .bool false := k0
            refine ob_start (L' := M) (by rfl) (up_cons (up_cons rfl hs6) hs31) ?_
            refine g_val (v := .slice op (out.length) oc) rfl rfl rfl rfl rfl (e_move) ?_
            refine l_nil ?_
            exact f_owes_d (up_cons (up_cons rfl hs6) hs31) rfl (List.Perm.refl _)
          · rintro f M ⟨k0, k1, -⟩ -
            have hs34 : f 34 = .slice op (out.length) oc := k0
            have hs31 : f 31 = .bool false := k1
            refine ob_start (L' := M) (by rfl) (up_cons (up_cons rfl hs34) hs31) ?_
            refine g_val (v := Nx (out.length)) rfl rfl rfl rfl rfl (e_len (a := op) (n := out.length) (c := oc) rfl tf38) ?_
            refine l_nil ?_
            exact f_owes_d (up_cons (up_cons rfl hs34) hs31) rfl (List.Perm.refl _)
          · rintro f M ⟨k0, k1, -⟩ -
            have hs35 : f 35 = Nx (out.length) := k0
            have hs31 : f 31 = .bool false := k1
            refine ob_start (L' := M) (by rfl) (up_cons (up_cons rfl hs35) hs31) ?_
            refine g_val (v := Nx (out.length - 1)) rfl rfl rfl rfl rfl (ev_eq (congrArg (Value.int .i64) (by omega)) (e_sub (a := ((out.length : Nat) : Int)) (b := (1 : Int)) rfl rfl (i64w (by omega)))) ?_
            refine l_nil ?_
            exact f_owes_d (up_cons (up_cons rfl hs35) hs31) rfl (List.Perm.refl _)
          · rintro f M ⟨k0, k1, k2, -⟩ -
            have hs33 : f 33 = .slice op (out.length) oc := k0
            have hs36 : f 36 = Nx (out.length - 1) := k1
            have hs31 : f 31 = .bool false := k2
            refine ob_start (L' := row (.slice op (out.length) oc) 3 1 (out.length) ((out.map fun z => Ix z)) :: M) (by rfl) (up_cons (up_cons (up_cons rfl hs33) hs36) hs31) ?_
            refine g_val (v := .pointer (some ((ba op).add ((out.length - 1) * 1)))) rfl rfl rfl rfl rfl (e_indexRow 0 (j := out.length - 1) (len := out.length) (cap := oc) (p := op) rfl rfl tf39 (by omega) (by omega) rfl) ?_
            refine l_nil ?_
            exact f_owes_d (up_cons (up_cons (up_cons rfl hs33) hs36) hs31) rfl (perm_front 0 rfl)
          · rintro f M ⟨k0, k1, -⟩ -
            have hs37 : f 37 = .pointer (some ((ba op).add ((out.length - 1) * 1))) := k0
            have hs31 : f 31 = .bool false := k1
            refine ob_start (L' := row (.slice op (out.length) oc) 3 1 (out.length) ((out.map fun z => Ix z)) :: M) (by rfl) (up_cons (up_cons rfl hs37) hs31) ?_
            refine g_val (v := Ix (lst61)) rfl rfl rfl rfl rfl (e_load1 tf10 (v := Ix (lst61)) rfl (k_row 0 (o := (out.length - 1) * 1) (us := [Ix (lst61)]) rfl (ints_at hl62) (Nat.succ_pos _))) ?_
            refine l_nil ?_
            exact f_owes_d (up_cons (up_cons rfl hs37) hs31) rfl (perm_front 0 rfl)
          · rintro f M ⟨k0, k1, k2, -⟩ -
            have hs32 : f 32 = Ix (x44.id) := k0
            have hs38 : f 38 = Ix (lst61) := k1
            have hs31 : f 31 = .bool false := k2
            refine ob_start (L' := M) (by rfl) (up_cons (up_cons (up_cons rfl hs32) hs38) hs31) ?_
            refine g_val (v := .bool false) rfl rfl rfl rfl rfl ((ev_f hg61 (e_gtr (a := (x44.id)) (b := (lst61)) rfl rfl))) ?_
            refine l_nil ?_
            exact f_owes_d (up_cons (up_cons (up_cons rfl hs32) hs38) hs31) rfl (List.Perm.refl _)
          · rintro f M ⟨k0, k1, -⟩ -
            have hs31 : f 31 = .bool false := k0
            have hs39 : f 39 = .bool false := k1
            refine ob_start (L' := M) (by rfl) (up_cons (up_cons rfl hs31) hs39) ?_
            refine l_val (v := .bool false) rfl rfl rfl (e_pick_f rfl) ?_
            refine l_nil ?_
            exact f_owes_d (up_cons (up_cons rfl hs31) hs39) rfl (List.Perm.refl _)
          · rintro f M ⟨k0, -⟩ -
            have hs40 : f 40 = .bool false := k0
            refine ob_start (L' := M) (by rfl) (up_cons rfl hs40) ?_
            refine l_val (v := .bool false) rfl rfl rfl (e_move) ?_
            refine l_nil ?_
            exact f_owes_d (up_cons rfl hs40) rfl (List.Perm.refl _)
          · rintro f M ⟨k0, -⟩ ⟨i0, -⟩
            have hs7 : f 7 = Nx (b) := i0
            have hs41 : f 41 = .bool false := k0
            refine ob_start (L' := M) (by rfl) (up_cons (up_cons rfl hs7) hs41) ?_
            refine l_skip rfl rfl rfl rfl rfl rfl ?_
            refine l_nil ?_
            exact f_owes_d (up_cons (up_cons rfl hs7) hs41) rfl (List.Perm.refl _)
          · rintro f M ⟨k0, k1, -⟩ -
            have hs42 : f 42 = undef := k0
            have hs41 : f 41 = .bool false := k1
            refine ob_start (L' := M) (by rfl) (up_cons (up_cons rfl hs42) hs41) ?_
            refine l_skip rfl rfl rfl rfl rfl rfl ?_
            refine l_nil ?_
            exact f_owes_d (up_cons (up_cons rfl hs42) hs41) rfl (List.Perm.refl _)
          · rintro f M ⟨k0, k1, -⟩ -
            have hs43 : f 43 = undef := k0
            have hs41 : f 41 = .bool false := k1
            refine ob_start (L' := M) (by rfl) (up_cons (up_cons rfl hs43) hs41) ?_
            refine l_skip rfl rfl rfl rfl rfl rfl ?_
            refine l_nil ?_
            exact f_owes_d (up_cons (up_cons rfl hs43) hs41) rfl (List.Perm.refl _)
          · rintro f M ⟨k0, -⟩ ⟨i0, -⟩
            have hs9 : f 9 = Ix (x44.id) := i0
            have hs44 : f 44 = undef := k0
            refine ob_start (L' := M) (by rfl) (up_cons (up_cons rfl hs9) hs44) ?_
            refine l_skip_u rfl rfl rfl rfl rfl ?_
            refine l_nil ?_
            exact f_owes_d (up_cons (up_cons rfl hs9) hs44) rfl (List.Perm.refl _)
          · rintro f M ⟨k0, -⟩ ⟨i0, -⟩
            have hs5 : f 5 = .slice ap (al.length) (ac) := i0
            have hs44 : f 44 = undef := k0
            refine ob_start (L' := M) (by rfl) (up_cons (up_cons rfl hs5) hs44) ?_
            refine l_skip_u rfl rfl rfl rfl rfl ?_
            refine l_nil ?_
            exact f_owes_d (up_cons (up_cons rfl hs5) hs44) rfl (List.Perm.refl _)
          · rintro f M ⟨k0, -⟩ ⟨i0, -⟩
            have hs7 : f 7 = Nx (b) := i0
            have hs44 : f 44 = undef := k0
            refine ob_start (L' := M) (by rfl) (up_cons (up_cons rfl hs7) hs44) ?_
            refine l_skip_u rfl rfl rfl rfl rfl ?_
            refine l_nil ?_
            exact f_owes_d (up_cons (up_cons rfl hs7) hs44) rfl (List.Perm.refl _)
          · rintro f M ⟨k0, k1, k2, -⟩ -
            have hs46 : f 46 = undef := k0
            have hs47 : f 47 = undef := k1
            have hs44 : f 44 = undef := k2
            refine ob_start (L' := M) (by rfl) (up_cons (up_cons (up_cons rfl hs46) hs47) hs44) ?_
            refine l_skip_u rfl rfl rfl rfl rfl ?_
            refine l_nil ?_
            exact f_owes_d (up_cons (up_cons (up_cons rfl hs46) hs47) hs44) rfl (List.Perm.refl _)
          · rintro f M ⟨k0, k1, -⟩ -
            have hs48 : f 48 = undef := k0
            have hs44 : f 44 = undef := k1
            refine ob_start (L' := M) (by rfl) (up_cons (up_cons rfl hs48) hs44) ?_
            refine l_skip_u rfl rfl rfl rfl rfl ?_
            refine l_nil ?_
            exact f_owes_d (up_cons (up_cons rfl hs48) hs44) rfl (List.Perm.refl _)
          · rintro f M ⟨k0, k1, -⟩ -
            have hs49 : f 49 = undef := k0
            have hs44 : f 44 = undef := k1
            refine ob_start (L' := M) (by rfl) (up_cons (up_cons rfl hs49) hs44) ?_
            refine l_skip_u rfl rfl rfl rfl rfl ?_
            refine l_nil ?_
            exact f_owes_d (up_cons (up_cons rfl hs49) hs44) rfl (List.Perm.refl _)
          · rintro f M ⟨k0, k1, k2, -⟩ -
            have hs45 : f 45 = undef := k0
            have hs50 : f 50 = undef := k1
            have hs44 : f 44 = undef := k2
            refine ob_start (L' := M) (by rfl) (up_cons (up_cons (up_cons rfl hs45) hs50) hs44) ?_
            refine l_skip_u rfl rfl rfl rfl rfl ?_
            refine l_nil ?_
            exact f_owes_d (up_cons (up_cons (up_cons rfl hs45) hs50) hs44) rfl (List.Perm.refl _)
          · rintro f M ⟨k0, k1, k2, -⟩ -
            have hs44 : f 44 = undef := k0
            have hs51 : f 51 = undef := k1
            have hs41 : f 41 = .bool false := k2
            refine ob_start (L' := M) (by rfl) (up_cons (up_cons (up_cons rfl hs44) hs51) hs41) ?_
            refine l_skip rfl rfl rfl rfl rfl rfl ?_
            refine l_nil ?_
            exact f_owes_d (up_cons (up_cons (up_cons rfl hs44) hs51) hs41) rfl (List.Perm.refl _)
          · rintro f M ⟨k0, k1, -⟩ -
            have hs41 : f 41 = .bool false := k0
            have hs52 : f 52 = undef := k1
            refine ob_start (L' := M) (by rfl) (up_cons (up_cons rfl hs41) hs52) ?_
            refine l_val (v := .bool false) rfl rfl rfl (e_pick_f rfl) ?_
            refine l_nil ?_
            exact f_owes_d (up_cons (up_cons rfl hs41) hs52) rfl (List.Perm.refl _)
          · rintro f M ⟨k0, -⟩ -
            have hs53 : f 53 = .bool false := k0
            refine ob_start (L' := M) (by rfl) (up_cons rfl hs53) ?_
            refine l_val (v := .bool false) rfl rfl rfl (e_move) ?_
            refine l_nil ?_
            exact f_owes_d (up_cons rfl hs53) rfl (List.Perm.refl _)
          · rintro f M ⟨k0, -⟩ ⟨i0, -⟩
            have hs2 : f 2 = .pointer (some ⟨b1, 0, none⟩) := i0
            have hs54 : f 54 = .bool false := k0
            refine ob_start (L' := M) (by rfl) (up_cons (up_cons rfl hs2) hs54) ?_
            refine l_skip rfl rfl rfl rfl rfl rfl ?_
            refine l_nil ?_
            exact f_owes_d (up_cons (up_cons rfl hs2) hs54) rfl (List.Perm.refl _)
          · rintro f M ⟨k0, -⟩ ⟨i0, -⟩
            have hs9 : f 9 = Ix (x44.id) := i0
            have hs54 : f 54 = .bool false := k0
            refine ob_start (L' := M) (by rfl) (up_cons (up_cons rfl hs9) hs54) ?_
            refine l_skip rfl rfl rfl rfl rfl rfl ?_
            refine l_nil ?_
            exact f_owes_d (up_cons (up_cons rfl hs9) hs54) rfl (List.Perm.refl _)
          · rintro f M ⟨k0, k1, k2, -⟩ -
            have hs55 : f 55 = undef := k0
            have hs56 : f 56 = undef := k1
            have hs54 : f 54 = .bool false := k2
            refine ob_start (L' := M) (by rfl) (up_cons (up_cons (up_cons rfl hs55) hs56) hs54) ?_
            refine l_skip rfl rfl rfl rfl rfl rfl ?_
            refine l_nil ?_
            exact f_owes_d (up_cons (up_cons (up_cons rfl hs55) hs56) hs54) rfl (List.Perm.refl _)
          · rintro f M ⟨k0, -⟩ ⟨i0, -⟩
            have hs3 : f 3 = .pointer (some ⟨b2, 0, none⟩) := i0
            have hs54 : f 54 = .bool false := k0
            refine ob_start (L' := M) (by rfl) (up_cons (up_cons rfl hs3) hs54) ?_
            refine l_skip rfl rfl rfl rfl rfl rfl ?_
            refine l_nil ?_
            exact f_owes_d (up_cons (up_cons rfl hs3) hs54) rfl (List.Perm.refl _)
          · rintro f M ⟨k0, -⟩ ⟨i0, -⟩
            have hs9 : f 9 = Ix (x44.id) := i0
            have hs54 : f 54 = .bool false := k0
            refine ob_start (L' := M) (by rfl) (up_cons (up_cons rfl hs9) hs54) ?_
            refine l_skip rfl rfl rfl rfl rfl rfl ?_
            refine l_nil ?_
            exact f_owes_d (up_cons (up_cons rfl hs9) hs54) rfl (List.Perm.refl _)
          · rintro f M ⟨k0, k1, k2, -⟩ -
            have hs58 : f 58 = undef := k0
            have hs59 : f 59 = undef := k1
            have hs54 : f 54 = .bool false := k2
            refine ob_start (L' := M) (by rfl) (up_cons (up_cons (up_cons rfl hs58) hs59) hs54) ?_
            refine l_skip rfl rfl rfl rfl rfl rfl ?_
            refine l_nil ?_
            exact f_owes_d (up_cons (up_cons (up_cons rfl hs58) hs59) hs54) rfl (List.Perm.refl _)
          · rintro f M ⟨k0, k1, k2, -⟩ -
            have hs57 : f 57 = undef := k0
            have hs60 : f 60 = undef := k1
            have hs54 : f 54 = .bool false := k2
            refine ob_start (L' := M) (by rfl) (up_cons (up_cons (up_cons rfl hs57) hs60) hs54) ?_
            refine l_skip rfl rfl rfl rfl rfl rfl ?_
            refine l_nil ?_
            exact f_owes_d (up_cons (up_cons (up_cons rfl hs57) hs60) hs54) rfl (List.Perm.refl _)
          · rintro f M ⟨k0, k1, -⟩ -
            have hs61 : f 61 = undef := k0
            have hs54 : f 54 = .bool false := k1
            refine ob_start (L' := M) (by rfl) (up_cons (up_cons rfl hs61) hs54) ?_
            refine l_skip rfl rfl rfl rfl rfl rfl ?_
            refine l_nil ?_
            exact f_owes_d (up_cons (up_cons rfl hs61) hs54) rfl (List.Perm.refl _)
          · rintro f M ⟨k0, k1, -⟩ -
            have hs54 : f 54 = .bool false := k0
            have hs62 : f 62 = undef := k1
            refine ob_start (L' := M) (by rfl) (up_cons (up_cons rfl hs54) hs62) ?_
            refine l_val (v := .bool false) rfl rfl rfl (e_pick_f rfl) ?_
            refine l_nil ?_
            exact f_owes_d (up_cons (up_cons rfl hs54) hs62) rfl (List.Perm.refl _)
          rintro fa70 ⟨-, -, -, -, -, -, -, -, -, -, -, -, -, -, -, -, -, -, -, -, -, -, -, -, -, -, -, -, -, -, -, -, -, -, -, k35, -⟩ ⟨j0, j1, j2, j3, j4, j5, -⟩
          refine f_re (L' := [row (.slice op (out.length) oc) 3 1 (out.length) ((out.map fun z => Ix z)), pt b2 (.cells #[Ix (y.tick), .slice v'a (y.ents.length) (v'c)] 24), pt b1 (.cells #[Ix (x.tick), .slice va (x.ents.length) (vc)] 24)]) (by rfl) ?_
          refine f_rebase (d := 2) (v := .pointer (some ⟨b1, 0, none⟩)) j0 ?_
          refine f_rebase (d := 3) (v := .pointer (some ⟨b2, 0, none⟩)) j1 ?_
          refine f_rebase (d := 5) (v := .slice ap (al.length) (ac)) j2 ?_
          refine f_rebase (d := 6) (v := .slice op (out.length) oc) j3 ?_
          refine f_rebase (d := 7) (v := Nx (b)) j4 ?_
          refine f_rebase (d := 8) (v := Nx (j)) j5 ?_
          refine f_rebase (d := 63) (v := .bool false) k35 ?_
          refine f_then ?_
          refine c_no rfl ?_
          refine c_skip ?_
          refine f_block ?_
          refine f_then ?_
          refine c_region ?_
          refine l_val (v := Nx (j)) rfl rfl rfl (e_move) ?_
          refine l_val (v := Nx (j + 1)) rfl rfl rfl (e_add (a := ((j : Nat) : Int)) (b := (1 : Int)) rfl rfl (i64n (by omega) (by omega))) ?_
          refine l_val (v := Nx (j + 1)) rfl rfl rfl (e_assign) ?_
          refine l_nil ?_
          exact f_cut ⟨(j + 1, (some b)), ⟨⟨rfl, rfl, rfl, rfl, rfl, rfl⟩, rfl, ⟨by omega, hbest.skip hx45 (fun hn => absurd hn.1 (last_ge hl62 hg61))⟩⟩, (show al.length - (j + 1) < al.length - j from by omega)⟩
  ·
    refine c_exit ?_
    refine f_then_exit ?_
    refine f_then_exit ?_
    refine f_exit ?_
    refine f_then ?_
    refine c_seq ?_
    refine c_seq ?_
    have hjl : al.length ≤ j := by omega
    cases bo with
    | none =>
      refine rebase (d := 7) (v := .int .i64 (-1)) rfl ?_
      refine c_region ?_
      refine l_val (v := .int .i64 (-1)) rfl rfl rfl (e_move) ?_
      refine l_val (v := .bool true) rfl rfl rfl (e_lss (a := (-1 : Int)) (b := (0 : Int)) rfl rfl) ?_
      refine l_nil ?_
      refine f_then ?_
      refine c_yes rfl ?_
      refine c_seq ?_
      refine c_region ?_
      refine l_val (v := .slice op (out.length) oc) rfl rfl rfl (e_move) ?_
      refine l_val (v := .slice op (out.length) oc) rfl rfl rfl (e_assign) ?_
      refine l_nil ?_
      refine f_then ?_
      refine c_ret ?_
      refine f_then_ret ?_
      refine f_block_ret ?_
      refine f_then_ret ?_
      refine f_block_ret ?_
      refine ret1 Tryz.results9 (v := .slice op (out.length) oc) rfl ?_
      intro w hw
      have hd := hfd.done (hbest.none' hal hjl)
      rw [hd] at hw ⊢
      exact ⟨_, _, rfl, St.weaken ext₁ (st_mask [true, false, false] rfl hw)⟩
    | some b =>
      have hbl := (List.getElem?_eq_some_iff.1 hbest.choose_spec.1).1
      refine rebase (d := 7) (v := Nx b) rfl ?_
      refine c_region ?_
      refine l_val (v := Nx (b)) rfl rfl rfl (e_move) ?_
      refine l_val (v := .bool (decide (((b : Nat) : Int) < (0 : Int)))) rfl rfl rfl (e_lss (a := ((b : Nat) : Int)) (b := (0 : Int)) rfl rfl) ?_
      refine l_nil ?_
      refine f_then ?_
      refine c_if (((b : Nat) : Int) < (0 : Int)) rfl (fun hc71 => ?_) (fun hc71 => ?_)
      ·
        exact absurd hc71 (by omega)
      ·
        refine c_skip ?_
        refine f_then ?_
        refine c_region ?_
        refine l_val (v := .slice op (out.length) oc) rfl rfl rfl (e_move) ?_
        refine l_val (v := .slice ap (al.length) (ac)) rfl rfl rfl (e_move) ?_
        refine l_val (v := Nx (b)) rfl rfl rfl (e_move) ?_
        obtain ⟨x72, hx73⟩ : ∃ x_, (al)[b]? = some x_ := ⟨_, List.getElem?_eq_getElem (by omega)⟩
        obtain ⟨ha74, cs75, hc76, hr77⟩ := Ae _ _ hx73
        obtain ⟨v78, rfl, hv79⟩ := hr77
        obtain ⟨v78a, v78c, rfl, v78l, v78m, v78e⟩ := hv79.get
        refine l_val (v := .pointer (some ((ba ap).add (b * 2)))) rfl rfl rfl (e_indexAddr (k := b) (len := al.length) (cap := ac) (a := ap) rfl rfl tf32 (by omega) ha74) ?_
        refine l_val (v := .pointer (some (((ba ap).add (b * 2) : Addr).add 0))) rfl rfl rfl (e_fieldAddr (a := (ba ap).add (b * 2)) rfl tf9) ?_
        refine l_val (v := Ix (x72.id)) rfl rfl rfl (e_load1 tf10 (v := Ix (x72.id)) rfl (Knows.imp (Knows.of_base (Cs.mono _ _) hc76) (fun _ h => Cs.sub (vs := [Ix (x72.id)]) 0 h rfl))) ?_
        refine l_mv rfl rfl rfl (m_slices tf39 tf52 (vs := [(0, Ix (x72.id))]) (cells := #[Ix (x72.id)]) rfl rfl rfl rfl) ?_
        rintro _ _ ⟨b80, rfl, rfl⟩
        refine l_mv rfl rfl rfl (m_append_w 1 tf39 tf53 (v := .slice op (out.length) oc) (m := out.length) (vs := (out.map fun z => Ix z)) (ao := some ⟨b80, 0, none⟩) (k := 1) (c := 1) (news := [Ix (x72.id)]) rfl rfl rfl rfl (k_pt 0 (cs := #[Ix (x72.id)]) (vs := [Ix (x72.id)]) rfl rfl) rfl (fun _ => rfl) (by unfold maxLen; omega) (by omega)) ?_
        rintro _ _ ⟨rp81, rc82, rfl, rfl⟩
        refine l_val (v := .slice rp81 (out.length + 1) rc82) rfl rfl rfl (e_assign) ?_
        refine l_nil ?_
        refine f_block ?_
        have hbl2 := hbest.least hal hjl hx73
        refine f_mask (L' := [row (.slice rp81 (out.length + 1) rc82) 3 1 (out.length + 1) ((out.map fun z => Ix z) ++ [Ix (x72.id)]), pt b2 (.cells #[Ix (y.tick), .slice v'a (y.ents.length) (v'c)] 24), pt b1 (.cells #[Ix (x.tick), .slice va (x.ents.length) (vc)] 24)]) [false, true, true, true] rfl ?_
        exact f_cut ⟨((out ++ [x72.id]), rp81, rc82), ⟨⟨rfl, rfl, rfl, (show Value.slice rp81 (out.length + 1) rc82 = .slice rp81 ((out ++ [x72.id]).length) rc82 by simp)⟩, (by simp), (hfd.next hbl2.1 hbl2.2)⟩, (left_lt (List.mem_of_getElem? hx73) hbl2.1.1)⟩
end Go.Proofs
