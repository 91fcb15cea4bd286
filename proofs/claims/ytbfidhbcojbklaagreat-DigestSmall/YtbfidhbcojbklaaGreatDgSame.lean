/-
  Own work; plain Lean (DgSame).
-/
import Derived.Test.YtbfidhbcojbklaaGreatDgLentL
namespace Go.Proofs
open Go Go.Sl
theorem tf83 : cfB Tryz.prog 75 = true := by kernel_rfl
theorem tf84 : lay Tryz.prog 10000 38 = some [.int .u8, .int .i64, .int .i64, .int .i64, .int .i64] := by kernel_rfl
theorem tf85 : isAggT Tryz.prog 38 = true := by kernel_rfl
theorem tf86 : Tryz.prog.eqGuardType Tryz.prog.depth 38 = false := by kernel_rfl
theorem tf87 : cfB Tryz.prog 88 = true := by kernel_rfl
theorem tf88 : cfB Tryz.prog 46 = true := by kernel_rfl
theorem tf89 : cfB Tryz.prog 44 = true := by kernel_rfl
theorem mark_ok (β : Base) (w : World) (hw : St β [] w) (i : Nat) (hi : i ≤ 100) : Calls Tryz.prog 75 #[.int .i64 1, Nx i] w fun r w' => r = .returned (Nx (8000024 + i)) ∧ St β [] w' := by
  refine enter (n := 10) Tryz.func75 rfl Tryz.ntmps75 rfl ?_ hw
  refine c_seq ?_
  refine c_region ?_
  refine l_val (v := .int .i64 (0)) rfl rfl rfl (e_assign) ?_
  refine l_nil ?_
  refine f_then ?_
  refine c_seq ?_
  refine c_region ?_
  refine l_val (v := .int .i64 (1)) rfl rfl rfl (e_move) ?_
  refine l_val (v := .int .i64 (8)) rfl rfl rfl (e_add (a := (1 : Int)) (b := (7 : Int)) rfl rfl (by decide)) ?_
  refine l_val (v := .int .i64 (8000024)) rfl rfl rfl (e_mul (a := (1000003 : Int)) (b := (8 : Int)) rfl rfl (by decide)) ?_
  refine l_val (v := Nx (i)) rfl rfl rfl (e_move) ?_
  refine l_val (v := Nx (8000024 + i)) rfl rfl rfl (e_add (a := (8000024 : Int)) (b := ((i : Nat) : Int)) rfl rfl (i64n (by omega) (by omega))) ?_
  refine l_val (v := Nx (8000024 + i)) rfl rfl rfl (e_assign) ?_
  refine l_nil ?_
  refine f_then ?_
  refine c_ret ?_
  refine ret1 Tryz.results75 (v := Nx (8000024 + i)) rfl ?_
  intro w hw
  exact ⟨rfl, st_mask [] rfl hw⟩
theorem markComp_ok (β : Base) (w : World) (hw : St β [] w) (i : Nat) (hi : i ≤ 100) : Calls Tryz.prog 91 #[.int .i64 1, Nx i] w fun r w' => r = .returned (.agg (compE (markC i)).toArray) ∧ St β [] w' := by
  refine enter (n := 10) Tryz.func91 rfl Tryz.ntmps91 rfl ?_ hw
  refine c_seq ?_
  refine c_region ?_
  refine l_mv rfl rfl rfl (m_alloc tf16) ?_
  rintro _ _ ⟨b1, rfl, rfl⟩
  refine l_nil ?_
  refine f_then ?_
  refine c_seq ?_
  refine c_region ?_
  refine l_val (v := .int .i64 (1)) rfl rfl rfl (e_move) ?_
  refine l_val (v := Nx (i)) rfl rfl rfl (e_move) ?_
  refine l_call rfl rfl rfl (cl_value (fst := []) (cap := []) (vs := [.int .i64 (1), Nx (i)]) (all := [.int .i64 (1), Nx (i)]) tf83 rfl rfl rfl) ?_
  intro w hw
  obtain ⟨β1, sb, kn, hw1, back⟩ := St.frame_all hw
  refine (mark_ok β1 w hw1 i (by omega)).mono ?_
  rintro e w' ⟨rfl, hw'⟩
  refine ⟨_, rfl, _, back _ _ hw', ?_⟩
  clear hw hw1 hw' back kn sb
  refine l_val (v := .agg #[Nx (8000024 + i), .int .i64 (0), .int .i64 (0), .int .i64 (0)]) rfl rfl rfl (e_build_a tf35 tf21 (vs := [(0, Nx (8000024 + i))]) (cells := #[Nx (8000024 + i), .int .i64 (0), .int .i64 (0), .int .i64 (0)]) rfl rfl) ?_
  refine l_val (v := .agg #[.int .u8 (0), Nx (8000024 + i), .int .i64 (0), .int .i64 (0), .int .i64 (0)]) rfl rfl rfl (e_build tf16 tf36 (vs := [(1, .agg #[Nx (8000024 + i), .int .i64 (0), .int .i64 (0), .int .i64 (0)])]) (cells := #[.int .u8 (0), Nx (8000024 + i), .int .i64 (0), .int .i64 (0), .int .i64 (0)]) rfl rfl) ?_
  refine l_mu rfl rfl (m_store 0 tf15 (b := b1) (o := 0) (T := 38) (cs := #[.int .u8 (0), .int .i64 (0), .int .i64 (0), .int .i64 (0), .int .i64 (0)]) (cs' := #[.int .u8 (0), Nx (8000024 + i), .int .i64 (0), .int .i64 (0), .int .i64 (0)]) (v := .agg #[.int .u8 (0), Nx (8000024 + i), .int .i64 (0), .int .i64 (0), .int .i64 (0)]) rfl rfl rfl rfl rfl rfl rfl) ?_
  refine l_nil ?_
  refine f_then ?_
  refine c_ret ?_
  refine retG (l := [.cell 4 38]) (m := [.agg #[.int .u8 (0), Nx (8000024 + i), .int .i64 (0), .int .i64 (0), .int .i64 (0)]]) (v := .agg #[.int .u8 (0), Nx (8000024 + i), .int .i64 (0), .int .i64 (0), .int .i64 (0)]) Tryz.results91 ⟨rd_cell tf15 (cs := [.int .u8 (0), Nx (8000024 + i), .int .i64 (0), .int .i64 (0), .int .i64 (0)]) rfl (k_pt 0 (cs := #[.int .u8 (0), Nx (8000024 + i), .int .i64 (0), .int .i64 (0), .int .i64 (0)]) (vs := [.int .u8 (0), Nx (8000024 + i), .int .i64 (0), .int .i64 (0), .int .i64 (0)]) rfl rfl) rfl, trivial⟩ rfl ?_
  intro w hw
  exact ⟨rfl, st_mask [false] rfl hw⟩
theorem markEntity_ok (β : Base) (w : World) (hw : St β [] w) (i : Nat) (hi : i ≤ 100) : Calls Tryz.prog 41 #[.int .i64 1, Nx i] w fun r w' => r = .returned (.agg #[Ix (markE i).id, .slice none 0 0]) ∧ St β [] w' := by
  refine enter (n := 9) Tryz.func41 rfl Tryz.ntmps41 rfl ?_ hw
  refine c_seq ?_
  refine c_region ?_
  refine l_mv rfl rfl rfl (m_alloc tf33) ?_
  rintro _ _ ⟨b1, rfl, rfl⟩
  refine l_nil ?_
  refine f_then ?_
  refine c_seq ?_
  refine c_region ?_
  refine l_val (v := .int .i64 (1)) rfl rfl rfl (e_move) ?_
  refine l_val (v := Nx (i)) rfl rfl rfl (e_move) ?_
  refine l_call rfl rfl rfl (cl_value (fst := []) (cap := []) (vs := [.int .i64 (1), Nx (i)]) (all := [.int .i64 (1), Nx (i)]) tf83 rfl rfl rfl) ?_
  intro w hw
  obtain ⟨β1, sb, kn, hw1, back⟩ := St.frame_all hw
  refine (mark_ok β1 w hw1 i (by omega)).mono ?_
  rintro e w' ⟨rfl, hw'⟩
  refine ⟨_, rfl, _, back _ _ hw', ?_⟩
  clear hw hw1 hw' back kn sb
  refine l_val (v := .agg #[Nx (8000024 + i), .slice none 0 0]) rfl rfl rfl (e_build tf33 tf37 (vs := [(0, Nx (8000024 + i))]) (cells := #[Nx (8000024 + i), .slice none 0 0]) rfl rfl) ?_
  refine l_mu rfl rfl (m_store 0 tf24 (b := b1) (o := 0) (T := 35) (cs := #[.int .i64 (0), .slice none 0 0]) (cs' := #[Nx (8000024 + i), .slice none 0 0]) (v := .agg #[Nx (8000024 + i), .slice none 0 0]) rfl rfl rfl rfl rfl rfl rfl) ?_
  refine l_nil ?_
  refine f_then ?_
  refine c_ret ?_
  refine retG (l := [.cell 4 35]) (m := [.agg #[Nx (8000024 + i), .slice none 0 0]]) (v := .agg #[Nx (8000024 + i), .slice none 0 0]) Tryz.results41 ⟨rd_cell tf24 (cs := [Nx (8000024 + i), .slice none 0 0]) rfl (k_pt 0 (cs := #[Nx (8000024 + i), .slice none 0 0]) (vs := [Nx (8000024 + i), .slice none 0 0]) rfl rfl) rfl, trivial⟩ rfl ?_
  intro w hw
  exact ⟨rfl, st_mask [false] rfl hw⟩
theorem sameComps_ok (β : Base) (w : World) (hw : St β [] w) (v v' : Value) (xs ys : List KComp) (hx : Sl CompR β.heap v xs) (hy : Sl CompR β.heap v' ys) : Calls Tryz.prog 88 #[v, v'] w fun r w' => r = .returned (.bool (decide (xs = ys))) ∧ St β [] w' := by
  obtain ⟨va, vc, rfl, vl, vm, ve⟩ := hx.get
  obtain ⟨v'a, v'c, rfl, v'l, v'm, v'e⟩ := hy.get
  refine enter (n := 26) Tryz.func88 rfl Tryz.ntmps88 rfl ?_ hw
  refine c_seq ?_
  refine c_region ?_
  refine l_val (v := .bool false) rfl rfl rfl (e_assign) ?_
  refine l_nil ?_
  refine f_then ?_
  refine c_seq ?_
  refine c_seq ?_
  refine c_region ?_
  refine l_val (v := .slice va (xs.length) (vc)) rfl rfl rfl (e_move) ?_
  refine l_val (v := Nx (xs.length)) rfl rfl rfl (e_len (a := va) (n := xs.length) (c := vc) rfl tf13) ?_
  refine l_val (v := .slice v'a (ys.length) (v'c)) rfl rfl rfl (e_move) ?_
  refine l_val (v := Nx (ys.length)) rfl rfl rfl (e_len (a := v'a) (n := ys.length) (c := v'c) rfl tf13) ?_
  refine l_val (v := .bool (decide (((xs.length : Nat) : Int) ≠ ((ys.length : Nat) : Int)))) rfl rfl rfl (e_neq (a := ((xs.length : Nat) : Int)) (b := ((ys.length : Nat) : Int)) rfl rfl) ?_
  refine l_nil ?_
  refine f_then ?_
  refine c_if (((xs.length : Nat) : Int) ≠ ((ys.length : Nat) : Int)) rfl (fun hc1 => ?_) (fun hc1 => ?_)
  ·
    refine c_seq ?_
    refine c_region ?_
    refine l_val (v := .bool false) rfl rfl rfl (e_assign) ?_
    refine l_nil ?_
    refine f_then ?_
    refine c_ret ?_
    refine f_then_ret ?_
    refine ret1 Tryz.results88 (v := .bool false) rfl ?_
    intro w hw
    exact ⟨bool_f (fun h => by subst h; omega), st_mask [] rfl hw⟩
  ·
    refine c_skip ?_
    refine f_then ?_
    refine c_seq ?_
    refine c_seq ?_
    refine c_region ?_
    refine l_val (v := .int .i64 (0)) rfl rfl rfl (e_assign) ?_
    refine l_nil ?_
    refine f_then ?_
    refine c_block ?_
    refine c_loop (fun (k : Nat) (f : Fm) (L : List Res) => (f 0 = .slice va (xs.length) (vc) ∧ f 1 = .slice v'a (ys.length) (v'c) ∧ f 5 = Nx (k)) ∧ L = [] ∧ (k ≤ xs.length ∧ xs.take (k) = ys.take (k))) (fun (k : Nat) => xs.length - k) 0 ?_ ?_
    · exact ⟨⟨rfl, rfl, rfl⟩, rfl, ⟨by omega, rfl⟩⟩
    rintro k f0 L0 ⟨⟨hs0, hs1, hs5⟩, hL, ⟨hp1, hp2⟩⟩
    subst L0
    refine rebase (d := 0) hs0 ?_
    refine rebase (d := 1) hs1 ?_
    refine rebase (d := 5) hs5 ?_
    clear hs0 hs1 hs5
    refine c_seq ?_
    refine c_seq ?_
    refine c_region ?_
    refine l_val (v := Nx (k)) rfl rfl rfl (e_move) ?_
    refine l_val (v := .slice va (xs.length) (vc)) rfl rfl rfl (e_move) ?_
    refine l_val (v := Nx (xs.length)) rfl rfl rfl (e_len (a := va) (n := xs.length) (c := vc) rfl tf13) ?_
    refine l_val (v := .bool (decide (((k : Nat) : Int) < ((xs.length : Nat) : Int)))) rfl rfl rfl (e_lss (a := ((k : Nat) : Int)) (b := ((xs.length : Nat) : Int)) rfl rfl) ?_
    refine l_nil ?_
    refine f_then ?_
    refine c_if (((k : Nat) : Int) < ((xs.length : Nat) : Int)) rfl (fun hc2 => ?_) (fun hc2 => ?_)
    ·
      refine c_skip ?_
      refine f_then ?_
      refine c_seq ?_
      refine c_block ?_
      refine c_seq ?_
      refine c_quiet (by kernel_rfl) (by kernel_rfl) ?_
      refine q_val (v := .slice va (xs.length) (vc)) rfl rfl rfl (e_move) ?_
      refine q_val (v := Nx (k)) rfl rfl rfl (e_move) ?_
      obtain ⟨x3, hx4⟩ : ∃ x_, (xs)[k]? = some x_ := ⟨_, List.getElem?_eq_getElem (by omega)⟩
      obtain ⟨ha5, cs6, hc7, rfl⟩ := ve _ _ hx4
      refine q_val (v := .pointer (some ((ba va).add (k * 5)))) rfl rfl rfl (e_indexAddr (k := k) (len := xs.length) (cap := vc) (a := va) rfl rfl tf14 (by omega) ha5) ?_
      refine q_val (v := .agg #[Bx (x3.kind), Ix (x3.v0), Ix (x3.v1), Ix (x3.v2), Ix (x3.v3)]) rfl rfl rfl (e_load tf15 (cs := [Bx (x3.kind), Ix (x3.v0), Ix (x3.v1), Ix (x3.v2), Ix (x3.v3)]) rfl (Knows.of_base (Cs.mono _ _) hc7) rfl) ?_
      refine q_val (v := .slice v'a (ys.length) (v'c)) rfl rfl rfl (e_move) ?_
      refine q_val (v := Nx (k)) rfl rfl rfl (e_move) ?_
      obtain ⟨x9, hx10⟩ : ∃ x_, (ys)[k]? = some x_ := ⟨_, List.getElem?_eq_getElem (by omega)⟩
      obtain ⟨ha11, cs12, hc13, rfl⟩ := v'e _ _ hx10
      refine q_val (v := .pointer (some ((ba v'a).add (k * 5)))) rfl rfl rfl (e_indexAddr (k := k) (len := ys.length) (cap := v'c) (a := v'a) rfl rfl tf14 (by omega) ha11) ?_
      refine q_val (v := .agg #[Bx (x9.kind), Ix (x9.v0), Ix (x9.v1), Ix (x9.v2), Ix (x9.v3)]) rfl rfl rfl (e_load tf15 (cs := [Bx (x9.kind), Ix (x9.v0), Ix (x9.v1), Ix (x9.v2), Ix (x9.v3)]) rfl (Knows.of_base (Cs.mono _ _) hc13) rfl) ?_
      refine q_val (v := .bool (decide (¬ (x3 = x9)))) rfl rfl rfl (e_neq_t (xs := compE x3) (ys := compE x9) tf84 tf85 tf86 rfl rfl rfl rfl (not_congr compE_inj)) ?_
      refine q_nil ?_
      refine f_then ?_
      refine c_if (¬ (x3 = x9)) rfl (fun hc15 => ?_) (fun hc15 => ?_)
      ·
        refine c_seq ?_
        refine c_region ?_
        refine l_val (v := .bool false) rfl rfl rfl (e_assign) ?_
        refine l_nil ?_
        refine f_then ?_
        refine c_ret ?_
        refine f_block_ret ?_
        refine f_then_ret ?_
        refine f_then_ret ?_
        refine f_block_ret ?_
        refine f_then_ret ?_
        refine ret1 Tryz.results88 (v := .bool false) rfl ?_
        intro w hw
        exact ⟨bool_f (list_ne hx4 hx10 hc15), st_mask [] rfl hw⟩
      ·
        refine c_skip ?_
        refine f_block ?_
        refine f_then ?_
        refine c_region ?_
        refine l_val (v := Nx (k)) rfl rfl rfl (e_move) ?_
        refine l_val (v := Nx (k + 1)) rfl rfl rfl (e_add (a := ((k : Nat) : Int)) (b := (1 : Int)) rfl rfl (i64n (by omega) (by omega))) ?_
        refine l_val (v := Nx (k + 1)) rfl rfl rfl (e_assign) ?_
        refine l_nil ?_
        exact f_cut ⟨k + 1, ⟨⟨rfl, rfl, rfl⟩, rfl, ⟨by omega, take_next hx4 (by rw [hx10]; exact congrArg some (Decidable.not_not.1 hc15).symm) hp2⟩⟩, (show xs.length - (k + 1) < xs.length - k from by omega)⟩
    ·
      refine c_exit ?_
      refine f_then_exit ?_
      refine f_then_exit ?_
      refine f_exit ?_
      refine f_then ?_
      refine c_seq ?_
      refine c_region ?_
      refine l_val (v := .bool true) rfl rfl rfl (e_assign) ?_
      refine l_nil ?_
      refine f_then ?_
      refine c_ret ?_
      refine ret1 Tryz.results88 (v := .bool true) rfl ?_
      intro w hw
      exact ⟨bool_t (take_all hp2 (by omega) (by omega)), st_mask [] rfl hw⟩
theorem sameEntity_ok (β : Base) (w : World) (hw : St β [] w) (x y : KEnt) (v v' : Value) (hx : Sl CompR β.heap v x.comps) (hy : Sl CompR β.heap v' y.comps) : Calls Tryz.prog 46 #[.agg #[Ix x.id, v], .agg #[Ix y.id, v']] w fun r w' => r = .returned (.bool (decide (x = y))) ∧ St β [] w' := by
  obtain ⟨va, vc, rfl, vl, vm, ve⟩ := hx.get
  obtain ⟨v'a, v'c, rfl, v'l, v'm, v'e⟩ := hy.get
  refine enter (n := 17) Tryz.func46 rfl Tryz.ntmps46 rfl ?_ hw
  refine c_seq ?_
  refine c_region ?_
  refine l_mv rfl rfl rfl (m_box (v := .agg #[Ix (x.id), .slice va (x.comps.length) (vc)]) rfl) ?_
  rintro _ _ ⟨b1, rfl, rfl⟩
  refine l_mv rfl rfl rfl (m_box (v := .agg #[Ix (y.id), .slice v'a (y.comps.length) (v'c)]) rfl) ?_
  rintro _ _ ⟨b2, rfl, rfl⟩
  refine l_val (v := .bool false) rfl rfl rfl (e_assign) ?_
  refine l_nil ?_
  refine f_then ?_
  refine c_seq ?_
  refine c_region ?_
  refine l_val (v := .pointer (some ⟨b1, 0, none⟩)) rfl rfl rfl (e_fieldPt (b := b1) (o := 0) rfl tf9) ?_
  refine l_val (v := Ix (x.id)) rfl rfl rfl (e_load1 tf10 (v := Ix (x.id)) rfl (k_pt 1 (cs := #[Ix (x.id), .slice va (x.comps.length) (vc)]) (vs := [Ix (x.id)]) rfl rfl)) ?_
  refine l_val (v := .pointer (some ⟨b2, 0, none⟩)) rfl rfl rfl (e_fieldPt (b := b2) (o := 0) rfl tf9) ?_
  refine l_val (v := Ix (y.id)) rfl rfl rfl (e_load1 tf10 (v := Ix (y.id)) rfl (k_pt 0 (cs := #[Ix (y.id), .slice v'a (y.comps.length) (v'c)]) (vs := [Ix (y.id)]) rfl rfl)) ?_
  refine l_val (v := .bool (decide ((x.id) = (y.id)))) rfl rfl rfl (e_eql (a := (x.id)) (b := (y.id)) rfl rfl) ?_
  refine l_val (v := .bool (decide ((x.id) = (y.id)))) rfl rfl rfl (e_move) ?_
  refine l_split (s := 10) (p := (x.id) = (y.id)) rfl (fun hg3 => ?_) (fun hg3 => ?_)
  ·
    refine g_val (v := .pointer (some ⟨b1, 1, none⟩)) rfl rfl rfl rfl rfl (e_fieldPt (b := b1) (o := 0) rfl tf11) ?_
    refine g_val (v := .slice va (x.comps.length) (vc)) rfl rfl rfl rfl rfl (e_load1 tf12 (v := .slice va (x.comps.length) (vc)) rfl (k_pt 1 (cs := #[Ix (x.id), .slice va (x.comps.length) (vc)]) (vs := [.slice va (x.comps.length) (vc)]) rfl rfl)) ?_
    refine g_val (v := .pointer (some ⟨b2, 1, none⟩)) rfl rfl rfl rfl rfl (e_fieldPt (b := b2) (o := 0) rfl tf11) ?_
    refine g_val (v := .slice v'a (y.comps.length) (v'c)) rfl rfl rfl rfl rfl (e_load1 tf12 (v := .slice v'a (y.comps.length) (v'c)) rfl (k_pt 0 (cs := #[Ix (y.id), .slice v'a (y.comps.length) (v'c)]) (vs := [.slice v'a (y.comps.length) (v'c)]) rfl rfl)) ?_
    refine g_call rfl rfl rfl rfl rfl (cl_value (fst := []) (cap := []) (vs := [.slice va (x.comps.length) (vc), .slice v'a (y.comps.length) (v'c)]) (all := [.slice va (x.comps.length) (vc), .slice v'a (y.comps.length) (v'c)]) tf87 rfl rfl rfl) ?_
    intro w hw
    obtain ⟨β1, sb, kn, hw1, back⟩ := St.frame_all hw
    refine (sameComps_ok β1 w hw1 _ _ x.comps y.comps (Sl.mono _ _ _ _ _ sb (⟨⟨_, _, rfl, vl, vm, ve⟩⟩ : Sl CompR _ _ x.comps)) (Sl.mono _ _ _ _ _ sb (⟨⟨_, _, rfl, v'l, v'm, v'e⟩⟩ : Sl CompR _ _ y.comps))).mono ?_
    rintro e w' ⟨rfl, hw'⟩
    refine ⟨_, rfl, _, back _ _ hw', ?_⟩
    clear hw hw1 hw' back kn sb
    refine l_val (v := .bool (decide (x.comps = y.comps))) rfl rfl rfl (e_pick_t rfl) ?_
    refine l_val (v := .bool (decide (x.comps = y.comps))) rfl rfl rfl (e_assign) ?_
    refine l_nil ?_
    refine f_then ?_
    refine c_ret ?_
    refine ret1 Tryz.results46 (v := .bool (decide (x.comps = y.comps))) rfl ?_
    intro w hw
    exact ⟨bool_i (ent_eq hg3), st_mask [false, false] rfl hw⟩
  ·
    refine l_skip rfl rfl rfl rfl rfl rfl ?_
    refine l_skip rfl rfl rfl rfl rfl rfl ?_
    refine l_skip rfl rfl rfl rfl rfl rfl ?_
    refine l_skip rfl rfl rfl rfl rfl rfl ?_
    refine l_skip rfl rfl rfl rfl rfl rfl ?_
    refine l_val (v := .bool false) rfl rfl rfl (e_pick_f rfl) ?_
    refine l_val (v := .bool false) rfl rfl rfl (e_assign) ?_
    refine l_nil ?_
    refine f_then ?_
    refine c_ret ?_
    refine ret1 Tryz.results46 (v := .bool false) rfl ?_
    intro w hw
    exact ⟨bool_f (fun h => hg3 (by rw [h])), st_mask [false, false] rfl hw⟩
theorem sameEntities_ok (β : Base) (w : World) (hw : St β [] w) (v v' : Value) (xs ys : List KEnt) (hx : Sl EntR β.heap v xs) (hy : Sl EntR β.heap v' ys) : Calls Tryz.prog 44 #[v, v'] w fun r w' => r = .returned (.bool (decide (xs = ys))) ∧ St β [] w' := by
  obtain ⟨va, vc, rfl, vl, vm, ve⟩ := hx.get
  obtain ⟨v'a, v'c, rfl, v'l, v'm, v'e⟩ := hy.get
  refine enter (n := 27) Tryz.func44 rfl Tryz.ntmps44 rfl ?_ hw
  refine c_seq ?_
  refine c_region ?_
  refine l_val (v := .bool false) rfl rfl rfl (e_assign) ?_
  refine l_nil ?_
  refine f_then ?_
  refine c_seq ?_
  refine c_seq ?_
  refine c_region ?_
  refine l_val (v := .slice va (xs.length) (vc)) rfl rfl rfl (e_move) ?_
  refine l_val (v := Nx (xs.length)) rfl rfl rfl (e_len (a := va) (n := xs.length) (c := vc) rfl tf31) ?_
  refine l_val (v := .slice v'a (ys.length) (v'c)) rfl rfl rfl (e_move) ?_
  refine l_val (v := Nx (ys.length)) rfl rfl rfl (e_len (a := v'a) (n := ys.length) (c := v'c) rfl tf31) ?_
  refine l_val (v := .bool (decide (((xs.length : Nat) : Int) ≠ ((ys.length : Nat) : Int)))) rfl rfl rfl (e_neq (a := ((xs.length : Nat) : Int)) (b := ((ys.length : Nat) : Int)) rfl rfl) ?_
  refine l_nil ?_
  refine f_then ?_
  refine c_if (((xs.length : Nat) : Int) ≠ ((ys.length : Nat) : Int)) rfl (fun hc1 => ?_) (fun hc1 => ?_)
  ·
    refine c_seq ?_
    refine c_region ?_
    refine l_val (v := .bool false) rfl rfl rfl (e_assign) ?_
    refine l_nil ?_
    refine f_then ?_
    refine c_ret ?_
    refine f_then_ret ?_
    refine ret1 Tryz.results44 (v := .bool false) rfl ?_
    intro w hw
    exact ⟨bool_f (fun h => by subst h; omega), st_mask [] rfl hw⟩
  ·
    refine c_skip ?_
    refine f_then ?_
    refine c_seq ?_
    refine c_seq ?_
    refine c_region ?_
    refine l_val (v := .int .i64 (0)) rfl rfl rfl (e_assign) ?_
    refine l_nil ?_
    refine f_then ?_
    refine c_block ?_
    refine c_loop (fun (k : Nat) (f : Fm) (L : List Res) => (f 0 = .slice va (xs.length) (vc) ∧ f 1 = .slice v'a (ys.length) (v'c) ∧ f 5 = Nx (k)) ∧ L = [] ∧ (k ≤ xs.length ∧ xs.take (k) = ys.take (k))) (fun (k : Nat) => xs.length - k) 0 ?_ ?_
    · exact ⟨⟨rfl, rfl, rfl⟩, rfl, ⟨by omega, rfl⟩⟩
    rintro k f0 L0 ⟨⟨hs0, hs1, hs5⟩, hL, ⟨hp1, hp2⟩⟩
    subst L0
    refine rebase (d := 0) hs0 ?_
    refine rebase (d := 1) hs1 ?_
    refine rebase (d := 5) hs5 ?_
    clear hs0 hs1 hs5
    refine c_seq ?_
    refine c_seq ?_
    refine c_region ?_
    refine l_val (v := Nx (k)) rfl rfl rfl (e_move) ?_
    refine l_val (v := .slice va (xs.length) (vc)) rfl rfl rfl (e_move) ?_
    refine l_val (v := Nx (xs.length)) rfl rfl rfl (e_len (a := va) (n := xs.length) (c := vc) rfl tf31) ?_
    refine l_val (v := .bool (decide (((k : Nat) : Int) < ((xs.length : Nat) : Int)))) rfl rfl rfl (e_lss (a := ((k : Nat) : Int)) (b := ((xs.length : Nat) : Int)) rfl rfl) ?_
    refine l_nil ?_
    refine f_then ?_
    refine c_if (((k : Nat) : Int) < ((xs.length : Nat) : Int)) rfl (fun hc2 => ?_) (fun hc2 => ?_)
    ·
      refine c_skip ?_
      refine f_then ?_
      refine c_seq ?_
      refine c_block ?_
      refine c_seq ?_
      refine c_quiet (by kernel_rfl) (by kernel_rfl) ?_
      refine q_val (v := .slice va (xs.length) (vc)) rfl rfl rfl (e_move) ?_
      refine q_val (v := Nx (k)) rfl rfl rfl (e_move) ?_
      obtain ⟨x3, hx4⟩ : ∃ x_, (xs)[k]? = some x_ := ⟨_, List.getElem?_eq_getElem (by omega)⟩
      obtain ⟨ha5, cs6, hc7, hr8⟩ := ve _ _ hx4
      obtain ⟨v9, rfl, hv10⟩ := hr8
      obtain ⟨v9a, v9c, rfl, v9l, v9m, v9e⟩ := hv10.get
      refine q_val (v := .pointer (some ((ba va).add (k * 2)))) rfl rfl rfl (e_indexAddr (k := k) (len := xs.length) (cap := vc) (a := va) rfl rfl tf32 (by omega) ha5) ?_
      refine q_val (v := .agg #[Ix (x3.id), .slice v9a (x3.comps.length) (v9c)]) rfl rfl rfl (e_load tf24 (cs := [Ix (x3.id), .slice v9a (x3.comps.length) (v9c)]) rfl (Knows.of_base (Cs.mono _ _) hc7) rfl) ?_
      refine q_val (v := .slice v'a (ys.length) (v'c)) rfl rfl rfl (e_move) ?_
      refine q_val (v := Nx (k)) rfl rfl rfl (e_move) ?_
      obtain ⟨x11, hx12⟩ : ∃ x_, (ys)[k]? = some x_ := ⟨_, List.getElem?_eq_getElem (by omega)⟩
      obtain ⟨ha13, cs14, hc15, hr16⟩ := v'e _ _ hx12
      obtain ⟨v17, rfl, hv18⟩ := hr16
      obtain ⟨v17a, v17c, rfl, v17l, v17m, v17e⟩ := hv18.get
      refine q_val (v := .pointer (some ((ba v'a).add (k * 2)))) rfl rfl rfl (e_indexAddr (k := k) (len := ys.length) (cap := v'c) (a := v'a) rfl rfl tf32 (by omega) ha13) ?_
      refine q_val (v := .agg #[Ix (x11.id), .slice v17a (x11.comps.length) (v17c)]) rfl rfl rfl (e_load tf24 (cs := [Ix (x11.id), .slice v17a (x11.comps.length) (v17c)]) rfl (Knows.of_base (Cs.mono _ _) hc15) rfl) ?_
      refine q_call (v := .bool (decide (x3 = x11))) rfl rfl rfl (cl_value (fst := []) (cap := []) (vs := [.agg #[Ix (x3.id), .slice v9a (x3.comps.length) (v9c)], .agg #[Ix (x11.id), .slice v17a (x11.comps.length) (v17c)]]) (all := [.agg #[Ix (x3.id), .slice v9a (x3.comps.length) (v9c)], .agg #[Ix (x11.id), .slice v17a (x11.comps.length) (v17c)]]) tf88 rfl rfl rfl) (fun w hw => ?_) ?_
      · obtain ⟨β1, sb, kn, hw1, back⟩ := St.frame_all hw
        exact (sameEntity_ok β1 w hw1 x3 x11 _ _ (Sl.mono _ _ _ _ _ sb (⟨⟨_, _, rfl, v9l, v9m, v9e⟩⟩ : Sl CompR _ _ x3.comps)) (Sl.mono _ _ _ _ _ sb (⟨⟨_, _, rfl, v17l, v17m, v17e⟩⟩ : Sl CompR _ _ x11.comps))).mono (fun e w' ⟨he, hw'⟩ => ⟨he, st_mask [] rfl (back _ _ hw')⟩)
      refine q_val (v := .bool (decide (¬ (x3 = x11)))) rfl rfl rfl (e_not_p (p := x3 = x11) rfl) ?_
      refine q_nil ?_
      refine f_then ?_
      refine c_if (¬ (x3 = x11)) rfl (fun hc19 => ?_) (fun hc19 => ?_)
      ·
        refine c_seq ?_
        refine c_region ?_
        refine l_val (v := .bool false) rfl rfl rfl (e_assign) ?_
        refine l_nil ?_
        refine f_then ?_
        refine c_ret ?_
        refine f_block_ret ?_
        refine f_then_ret ?_
        refine f_then_ret ?_
        refine f_block_ret ?_
        refine f_then_ret ?_
        refine ret1 Tryz.results44 (v := .bool false) rfl ?_
        intro w hw
        exact ⟨bool_f (list_ne hx4 hx12 hc19), st_mask [] rfl hw⟩
      ·
        refine c_skip ?_
        refine f_block ?_
        refine f_then ?_
        refine c_region ?_
        refine l_val (v := Nx (k)) rfl rfl rfl (e_move) ?_
        refine l_val (v := Nx (k + 1)) rfl rfl rfl (e_add (a := ((k : Nat) : Int)) (b := (1 : Int)) rfl rfl (i64n (by omega) (by omega))) ?_
        refine l_val (v := Nx (k + 1)) rfl rfl rfl (e_assign) ?_
        refine l_nil ?_
        exact f_cut ⟨k + 1, ⟨⟨rfl, rfl, rfl⟩, rfl, ⟨by omega, take_next hx4 (by rw [hx12]; exact congrArg some (Decidable.not_not.1 hc19).symm) hp2⟩⟩, (show xs.length - (k + 1) < xs.length - k from by omega)⟩
    ·
      refine c_exit ?_
      refine f_then_exit ?_
      refine f_then_exit ?_
      refine f_exit ?_
      refine f_then ?_
      refine c_seq ?_
      refine c_region ?_
      refine l_val (v := .bool true) rfl rfl rfl (e_assign) ?_
      refine l_nil ?_
      refine f_then ?_
      refine c_ret ?_
      refine ret1 Tryz.results44 (v := .bool true) rfl ?_
      intro w hw
      exact ⟨bool_t (take_all hp2 (by omega) (by omega)), st_mask [] rfl hw⟩
theorem sameWorld_ok (β : Base) (w : World) (hw : St β [] w) (x y : KWorld) (v v' : Value) (hx : Sl EntR β.heap v x.ents) (hy : Sl EntR β.heap v' y.ents) : Calls Tryz.prog 22 #[.agg #[Ix x.tick, v], .agg #[Ix y.tick, v']] w fun r w' => r = .returned (.bool (decide (x = y))) ∧ St β [] w' := by
  obtain ⟨va, vc, rfl, vl, vm, ve⟩ := hx.get
  obtain ⟨v'a, v'c, rfl, v'l, v'm, v'e⟩ := hy.get
  refine enter (n := 17) Tryz.func22 rfl Tryz.ntmps22 rfl ?_ hw
  refine c_seq ?_
  refine c_region ?_
  refine l_mv rfl rfl rfl (m_box (v := .agg #[Ix (x.tick), .slice va (x.ents.length) (vc)]) rfl) ?_
  rintro _ _ ⟨b1, rfl, rfl⟩
  refine l_mv rfl rfl rfl (m_box (v := .agg #[Ix (y.tick), .slice v'a (y.ents.length) (v'c)]) rfl) ?_
  rintro _ _ ⟨b2, rfl, rfl⟩
  refine l_val (v := .bool false) rfl rfl rfl (e_assign) ?_
  refine l_nil ?_
  refine f_then ?_
  refine c_seq ?_
  refine c_region ?_
  refine l_val (v := .pointer (some ⟨b1, 0, none⟩)) rfl rfl rfl (e_fieldPt (b := b1) (o := 0) rfl tf27) ?_
  refine l_val (v := Ix (x.tick)) rfl rfl rfl (e_load1 tf10 (v := Ix (x.tick)) rfl (k_pt 1 (cs := #[Ix (x.tick), .slice va (x.ents.length) (vc)]) (vs := [Ix (x.tick)]) rfl rfl)) ?_
  refine l_val (v := .pointer (some ⟨b2, 0, none⟩)) rfl rfl rfl (e_fieldPt (b := b2) (o := 0) rfl tf27) ?_
  refine l_val (v := Ix (y.tick)) rfl rfl rfl (e_load1 tf10 (v := Ix (y.tick)) rfl (k_pt 0 (cs := #[Ix (y.tick), .slice v'a (y.ents.length) (v'c)]) (vs := [Ix (y.tick)]) rfl rfl)) ?_
  refine l_val (v := .bool (decide ((x.tick) = (y.tick)))) rfl rfl rfl (e_eql (a := (x.tick)) (b := (y.tick)) rfl rfl) ?_
  refine l_val (v := .bool (decide ((x.tick) = (y.tick)))) rfl rfl rfl (e_move) ?_
  refine l_split (s := 10) (p := (x.tick) = (y.tick)) rfl (fun hg3 => ?_) (fun hg3 => ?_)
  ·
    refine g_val (v := .pointer (some ⟨b1, 1, none⟩)) rfl rfl rfl rfl rfl (e_fieldPt (b := b1) (o := 0) rfl tf29) ?_
    refine g_val (v := .slice va (x.ents.length) (vc)) rfl rfl rfl rfl rfl (e_load1 tf30 (v := .slice va (x.ents.length) (vc)) rfl (k_pt 1 (cs := #[Ix (x.tick), .slice va (x.ents.length) (vc)]) (vs := [.slice va (x.ents.length) (vc)]) rfl rfl)) ?_
    refine g_val (v := .pointer (some ⟨b2, 1, none⟩)) rfl rfl rfl rfl rfl (e_fieldPt (b := b2) (o := 0) rfl tf29) ?_
    refine g_val (v := .slice v'a (y.ents.length) (v'c)) rfl rfl rfl rfl rfl (e_load1 tf30 (v := .slice v'a (y.ents.length) (v'c)) rfl (k_pt 0 (cs := #[Ix (y.tick), .slice v'a (y.ents.length) (v'c)]) (vs := [.slice v'a (y.ents.length) (v'c)]) rfl rfl)) ?_
    refine g_call rfl rfl rfl rfl rfl (cl_value (fst := []) (cap := []) (vs := [.slice va (x.ents.length) (vc), .slice v'a (y.ents.length) (v'c)]) (all := [.slice va (x.ents.length) (vc), .slice v'a (y.ents.length) (v'c)]) tf89 rfl rfl rfl) ?_
    intro w hw
    obtain ⟨β1, sb, kn, hw1, back⟩ := St.frame_all hw
    refine (sameEntities_ok β1 w hw1 _ _ x.ents y.ents (Sl.mono _ _ _ _ _ sb (⟨⟨_, _, rfl, vl, vm, ve⟩⟩ : Sl EntR _ _ x.ents)) (Sl.mono _ _ _ _ _ sb (⟨⟨_, _, rfl, v'l, v'm, v'e⟩⟩ : Sl EntR _ _ y.ents))).mono ?_
    rintro e w' ⟨rfl, hw'⟩
    refine ⟨_, rfl, _, back _ _ hw', ?_⟩
    clear hw hw1 hw' back kn sb
    refine l_val (v := .bool (decide (x.ents = y.ents))) rfl rfl rfl (e_pick_t rfl) ?_
    refine l_val (v := .bool (decide (x.ents = y.ents))) rfl rfl rfl (e_assign) ?_
    refine l_nil ?_
    refine f_then ?_
    refine c_ret ?_
    refine ret1 Tryz.results22 (v := .bool (decide (x.ents = y.ents))) rfl ?_
    intro w hw
    exact ⟨bool_i (world_eq hg3), st_mask [false, false] rfl hw⟩
  ·
    refine l_skip rfl rfl rfl rfl rfl rfl ?_
    refine l_skip rfl rfl rfl rfl rfl rfl ?_
    refine l_skip rfl rfl rfl rfl rfl rfl ?_
    refine l_skip rfl rfl rfl rfl rfl rfl ?_
    refine l_skip rfl rfl rfl rfl rfl rfl ?_
    refine l_val (v := .bool false) rfl rfl rfl (e_pick_f rfl) ?_
    refine l_val (v := .bool false) rfl rfl rfl (e_assign) ?_
    refine l_nil ?_
    refine f_then ?_
    refine c_ret ?_
    refine ret1 Tryz.results22 (v := .bool false) rfl ?_
    intro w hw
    exact ⟨bool_f (fun h => hg3 (by rw [h])), st_mask [false, false] rfl hw⟩
end Go.Proofs
