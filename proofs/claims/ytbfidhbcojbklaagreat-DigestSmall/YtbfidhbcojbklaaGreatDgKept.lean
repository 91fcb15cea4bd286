/-
  Own work; plain Lean (DgKept).
-/
import Derived.Test.YtbfidhbcojbklaaGreatDgSame
namespace Go.Proofs
open Go Go.Sl
theorem tf90 : cfB Tryz.prog 91 = true := by kernel_rfl
theorem tf91 : cfB Tryz.prog 87 = true := by kernel_rfl
theorem tf92 : cfB Tryz.prog 45 = true := by kernel_rfl
theorem tf93 : cfB Tryz.prog 41 = true := by kernel_rfl
theorem tf94 : cfB Tryz.prog 22 = true := by kernel_rfl
theorem tf95 : cfB Tryz.prog 23 = true := by kernel_rfl
theorem keptComps_ok (β : Base) (w : World) (hw : St β [] w) (v v' : Value) (xs ys : List KComp) (hx : LSl β.heap v xs) (hy : Sl CompR β.heap v' ys) : Calls Tryz.prog 87 #[v, v'] w fun r w' => r = .returned (.bool (decide (xs = ys))) ∧ St β [] w' := by
  obtain ⟨va, vc, rfl, vl, vm, vf⟩ := hx
  have ve := Elems.left vf
  obtain ⟨v'a, v'c, rfl, v'l, v'm, v'e⟩ := hy.get
  obtain ⟨al, hal⟩ : ∃ z, z = xs ++ marksC 12 := ⟨_, rfl⟩
  have hall : al.length = xs.length + 12 := by rw [hal]; simp [marksC_len]
  have hale := vf
  rw [← hal] at hale
  refine enter (n := 58) Tryz.func87 rfl Tryz.ntmps87 rfl ?_ hw
  refine c_seq ?_
  refine c_region ?_
  refine l_val (v := .bool false) rfl rfl rfl (e_assign) ?_
  refine l_nil ?_
  refine f_then ?_
  refine c_seq ?_
  refine c_seq ?_
  refine c_region ?_
  refine l_val (v := .slice va (xs.length) (vc)) rfl rfl rfl (e_move) ?_
  refine l_val (v := Nx (xs.length)) rfl rfl rfl (e_len (a := va) (n := xs.length) (c := vc) rfl tf13) ?_
  refine l_val (v := .slice v'a (ys.length) (v'c)) rfl rfl rfl (e_move) ?_
  refine l_val (v := Nx (ys.length)) rfl rfl rfl (e_len (a := v'a) (n := ys.length) (c := v'c) rfl tf13) ?_
  refine l_val (v := .bool (decide (((xs.length : Nat) : Int) ≠ ((ys.length : Nat) : Int)))) rfl rfl rfl (e_neq (a := ((xs.length : Nat) : Int)) (b := ((ys.length : Nat) : Int)) rfl rfl) ?_
  refine l_nil ?_
  refine f_then ?_
  refine c_if (((xs.length : Nat) : Int) ≠ ((ys.length : Nat) : Int)) rfl (fun hc1 => ?_) (fun hc1 => ?_)
  ·
    refine c_seq ?_
    refine c_region ?_
    refine l_val (v := .bool false) rfl rfl rfl (e_assign) ?_
    refine l_nil ?_
    refine f_then ?_
    refine c_ret ?_
    refine f_then_ret ?_
    refine ret1 Tryz.results87 (v := .bool false) rfl ?_
    intro w hw
    exact ⟨bool_f (fun h => by subst h; omega), st_mask [] rfl hw⟩
  ·
    refine c_skip ?_
    refine f_then ?_
    refine c_seq ?_
    have hxy : xs.length = ys.length := by omega
    refine c_region ?_
    refine l_val (v := .slice va (xs.length) (vc)) rfl rfl rfl (e_move) ?_
    refine l_val (v := .slice v'a (ys.length) (v'c)) rfl rfl rfl (e_move) ?_
    refine l_val (v := Nx (ys.length)) rfl rfl rfl (e_len (a := v'a) (n := ys.length) (c := v'c) rfl tf13) ?_
    refine l_val (v := Nx (ys.length + 12)) rfl rfl rfl (e_add (a := ((ys.length : Nat) : Int)) (b := (12 : Int)) rfl rfl (i64n (by omega) (by omega))) ?_
    refine l_val (v := .slice va (al.length) (vc)) rfl rfl rfl (ev_eq (by rw [show al.length = ys.length + 12 by omega]) (e_slice_hi (a := va) (len := xs.length) (cap := vc) (h := ys.length + 12) tf14 rfl rfl (by omega))) ?_
    refine l_val (v := .slice va (al.length) (vc)) rfl rfl rfl (e_assign) ?_
    refine l_nil ?_
    refine f_then ?_
    refine c_seq ?_
    refine c_seq ?_
    refine c_region ?_
    refine l_val (v := .int .i64 (0)) rfl rfl rfl (e_assign) ?_
    refine l_nil ?_
    refine f_then ?_
    refine c_block ?_
    refine c_loop (fun (k : Nat) (f : Fm) (L : List Res) => (f 1 = .slice v'a (ys.length) (v'c) ∧ f 5 = .slice va (al.length) (vc) ∧ f 6 = Nx (k)) ∧ L = [] ∧ (k ≤ al.length ∧ (∀ j, j < k → j < ys.length → xs[j]? = ys[j]?))) (fun (k : Nat) => al.length - k) 0 ?_ ?_
    · exact ⟨⟨rfl, rfl, rfl⟩, rfl, ⟨by omega, fun j hj => by omega⟩⟩
    rintro k f0 L0 ⟨⟨hs1, hs5, hs6⟩, hL, ⟨hp1, hp2⟩⟩
    subst L0
    refine rebase (d := 1) hs1 ?_
    refine rebase (d := 5) hs5 ?_
    refine rebase (d := 6) hs6 ?_
    clear hs1 hs5 hs6
    refine c_seq ?_
    refine c_seq ?_
    refine c_region ?_
    refine l_val (v := Nx (k)) rfl rfl rfl (e_move) ?_
    refine l_val (v := .slice va (al.length) (vc)) rfl rfl rfl (e_move) ?_
    refine l_val (v := Nx (al.length)) rfl rfl rfl (e_len (a := va) (n := al.length) (c := vc) rfl tf13) ?_
    refine l_val (v := .bool (decide (((k : Nat) : Int) < ((al.length : Nat) : Int)))) rfl rfl rfl (e_lss (a := ((k : Nat) : Int)) (b := ((al.length : Nat) : Int)) rfl rfl) ?_
    refine l_nil ?_
    refine f_then ?_
    refine c_if (((k : Nat) : Int) < ((al.length : Nat) : Int)) rfl (fun hc2 => ?_) (fun hc2 => ?_)
    ·
      refine c_skip ?_
      refine f_then ?_
      refine c_seq ?_
      refine c_block ?_
      refine c_seq ?_
      refine c_quiet (by kernel_rfl) (by kernel_rfl) ?_
      refine q_val (v := Nx (k)) rfl rfl rfl (e_move) ?_
      refine q_val (v := .slice v'a (ys.length) (v'c)) rfl rfl rfl (e_move) ?_
      refine q_val (v := Nx (ys.length)) rfl rfl rfl (e_len (a := v'a) (n := ys.length) (c := v'c) rfl tf13) ?_
      refine q_val (v := .bool (decide (((k : Nat) : Int) < ((ys.length : Nat) : Int)))) rfl rfl rfl (e_lss (a := ((k : Nat) : Int)) (b := ((ys.length : Nat) : Int)) rfl rfl) ?_
      refine q_val (v := .bool (decide (((k : Nat) : Int) < ((ys.length : Nat) : Int)))) rfl rfl rfl (e_move) ?_
      refine q_split (s := 27) (p := ((k : Nat) : Int) < ((ys.length : Nat) : Int)) rfl (fun hg3 => ?_) (fun hg3 => ?_)
      ·
        refine qg_val (v := .slice va (al.length) (vc)) rfl rfl rfl rfl rfl (e_move) ?_
        refine qg_val (v := Nx (k)) rfl rfl rfl rfl rfl (e_move) ?_
        obtain ⟨x4, hx5⟩ : ∃ x_, (xs)[k]? = some x_ := ⟨_, List.getElem?_eq_getElem (by omega)⟩
        obtain ⟨ha6, cs7, hc8, rfl⟩ := ve _ _ hx5
        refine qg_val (v := .pointer (some ((ba va).add (k * 5)))) rfl rfl rfl rfl rfl (e_indexAddr (k := k) (len := al.length) (cap := vc) (a := va) rfl rfl tf14 (by omega) ha6) ?_
        refine qg_val (v := .agg #[Bx (x4.kind), Ix (x4.v0), Ix (x4.v1), Ix (x4.v2), Ix (x4.v3)]) rfl rfl rfl rfl rfl (e_load tf15 (cs := [Bx (x4.kind), Ix (x4.v0), Ix (x4.v1), Ix (x4.v2), Ix (x4.v3)]) rfl (Knows.of_base (Cs.mono _ _) hc8) rfl) ?_
        refine qg_val (v := .slice v'a (ys.length) (v'c)) rfl rfl rfl rfl rfl (e_move) ?_
        refine qg_val (v := Nx (k)) rfl rfl rfl rfl rfl (e_move) ?_
        obtain ⟨x10, hx11⟩ : ∃ x_, (ys)[k]? = some x_ := ⟨_, List.getElem?_eq_getElem (by omega)⟩
        obtain ⟨ha12, cs13, hc14, rfl⟩ := v'e _ _ hx11
        refine qg_val (v := .pointer (some ((ba v'a).add (k * 5)))) rfl rfl rfl rfl rfl (e_indexAddr (k := k) (len := ys.length) (cap := v'c) (a := v'a) rfl rfl tf14 (by omega) ha12) ?_
        refine qg_val (v := .agg #[Bx (x10.kind), Ix (x10.v0), Ix (x10.v1), Ix (x10.v2), Ix (x10.v3)]) rfl rfl rfl rfl rfl (e_load tf15 (cs := [Bx (x10.kind), Ix (x10.v0), Ix (x10.v1), Ix (x10.v2), Ix (x10.v3)]) rfl (Knows.of_base (Cs.mono _ _) hc14) rfl) ?_
        refine qg_val (v := .bool (decide (x4 = x10))) rfl rfl rfl rfl rfl (e_eql_t (xs := compE x4) (ys := compE x10) tf84 tf85 tf86 rfl rfl rfl rfl compE_inj) ?_
        refine qg_val (v := .bool (decide (¬ (x4 = x10)))) rfl rfl rfl rfl rfl (e_not_p (p := x4 = x10) rfl) ?_
        refine q_val (v := .bool (decide (¬ (x4 = x10)))) rfl rfl rfl (e_pick_t rfl) ?_
        refine q_val (v := .bool (decide (¬ (x4 = x10)))) rfl rfl rfl (e_move) ?_
        refine q_split (s := 39) (p := ¬ (x4 = x10)) rfl (fun hg16 => ?_) (fun hg16 => ?_)
        ·
          refine q_skip rfl rfl rfl rfl rfl rfl ?_
          refine q_skip rfl rfl rfl rfl rfl rfl ?_
          refine q_skip rfl rfl rfl rfl rfl rfl ?_
          refine q_skip rfl rfl rfl rfl rfl rfl ?_
          refine q_skip rfl rfl rfl rfl rfl rfl ?_
          refine q_skip_u rfl rfl rfl rfl rfl ?_
          refine q_skip_u rfl rfl rfl rfl rfl ?_
          refine q_skip_u rfl rfl rfl rfl rfl ?_
          refine q_skip_u rfl rfl rfl rfl rfl ?_
          refine q_skip_u rfl rfl rfl rfl rfl ?_
          refine q_skip_u rfl rfl rfl rfl rfl ?_
          refine q_skip_u rfl rfl rfl rfl rfl ?_
          refine q_skip_u rfl rfl rfl rfl rfl ?_
          refine q_skip_u rfl rfl rfl rfl rfl ?_
          refine q_skip_u rfl rfl rfl rfl rfl ?_
          refine q_skip_u rfl rfl rfl rfl rfl ?_
          refine q_skip rfl rfl rfl rfl rfl rfl ?_
          refine q_val (v := .bool true) rfl rfl rfl (e_pick_t rfl) ?_
          refine q_nil ?_
          refine f_then ?_
          refine c_yes rfl ?_
          refine c_seq ?_
          refine c_region ?_
          refine l_val (v := .bool false) rfl rfl rfl (e_assign) ?_
          refine l_nil ?_
          refine f_then ?_
          refine c_ret ?_
          refine f_block_ret ?_
          refine f_then_ret ?_
          refine f_then_ret ?_
          refine f_block_ret ?_
          refine f_then_ret ?_
          refine ret1 Tryz.results87 (v := .bool false) rfl ?_
          intro w hw
          exact ⟨bool_f (list_ne hx5 hx11 hg16), st_mask [] rfl hw⟩
        ·
          refine qg_val (v := Nx (k)) rfl rfl rfl rfl rfl (e_move) ?_
          refine qg_val (v := .slice v'a (ys.length) (v'c)) rfl rfl rfl rfl rfl (e_move) ?_
          refine qg_val (v := Nx (ys.length)) rfl rfl rfl rfl rfl (e_len (a := v'a) (n := ys.length) (c := v'c) rfl tf13) ?_
          refine qg_val (v := .bool (decide (((ys.length : Nat) : Int) ≤ ((k : Nat) : Int)))) rfl rfl rfl rfl rfl (e_geq (a := ((k : Nat) : Int)) (b := ((ys.length : Nat) : Int)) rfl rfl) ?_
          refine qg_val (v := .bool (decide (((ys.length : Nat) : Int) ≤ ((k : Nat) : Int)))) rfl rfl rfl rfl rfl (e_move) ?_
          refine q_split (s := 44) (p := ((ys.length : Nat) : Int) ≤ ((k : Nat) : Int)) rfl (fun h => ?_) (fun h => ?_)
          exact absurd h (by omega)
          refine q_skip rfl rfl rfl rfl rfl rfl ?_
          refine q_skip rfl rfl rfl rfl rfl rfl ?_
          refine q_skip rfl rfl rfl rfl rfl rfl ?_
          refine q_skip rfl rfl rfl rfl rfl rfl ?_
          refine q_skip rfl rfl rfl rfl rfl rfl ?_
          refine q_skip rfl rfl rfl rfl rfl rfl ?_
          refine q_skip rfl rfl rfl rfl rfl rfl ?_
          refine q_skip rfl rfl rfl rfl rfl rfl ?_
          refine q_skip rfl rfl rfl rfl rfl rfl ?_
          refine q_skip rfl rfl rfl rfl rfl rfl ?_
          refine q_skip rfl rfl rfl rfl rfl rfl ?_
          refine qg_val (v := .bool false) rfl rfl rfl rfl rfl (e_pick_f rfl) ?_
          refine q_val (v := .bool false) rfl rfl rfl (e_pick_f rfl) ?_
          refine q_nil ?_
          refine f_then ?_
          refine c_no rfl ?_
          refine c_skip ?_
          refine f_block ?_
          refine f_then ?_
          refine c_region ?_
          refine l_val (v := Nx (k)) rfl rfl rfl (e_move) ?_
          refine l_val (v := Nx (k + 1)) rfl rfl rfl (e_add (a := ((k : Nat) : Int)) (b := (1 : Int)) rfl rfl (i64n (by omega) (by omega))) ?_
          refine l_val (v := Nx (k + 1)) rfl rfl rfl (e_assign) ?_
          refine l_nil ?_
          exact f_cut ⟨k + 1, ⟨⟨rfl, rfl, rfl⟩, rfl, ⟨by omega, upto_succ hp2 (by rw [hx5, hx11, Decidable.not_not.1 hg16])⟩⟩, (show al.length - (k + 1) < al.length - k from by omega)⟩
      ·
        refine q_skip rfl rfl rfl rfl rfl rfl ?_
        refine q_skip rfl rfl rfl rfl rfl rfl ?_
        refine q_skip rfl rfl rfl rfl rfl rfl ?_
        refine q_skip rfl rfl rfl rfl rfl rfl ?_
        refine q_skip rfl rfl rfl rfl rfl rfl ?_
        refine q_skip rfl rfl rfl rfl rfl rfl ?_
        refine q_skip rfl rfl rfl rfl rfl rfl ?_
        refine q_skip rfl rfl rfl rfl rfl rfl ?_
        refine q_skip rfl rfl rfl rfl rfl rfl ?_
        refine q_skip rfl rfl rfl rfl rfl rfl ?_
        refine q_val (v := .bool false) rfl rfl rfl (e_pick_f rfl) ?_
        refine q_val (v := .bool false) rfl rfl rfl (e_move) ?_
        refine qg_val (v := Nx (k)) rfl rfl rfl rfl rfl (e_move) ?_
        refine qg_val (v := .slice v'a (ys.length) (v'c)) rfl rfl rfl rfl rfl (e_move) ?_
        refine qg_val (v := Nx (ys.length)) rfl rfl rfl rfl rfl (e_len (a := v'a) (n := ys.length) (c := v'c) rfl tf13) ?_
        refine qg_val (v := .bool (decide (((ys.length : Nat) : Int) ≤ ((k : Nat) : Int)))) rfl rfl rfl rfl rfl (e_geq (a := ((k : Nat) : Int)) (b := ((ys.length : Nat) : Int)) rfl rfl) ?_
        refine qg_val (v := .bool (decide (((ys.length : Nat) : Int) ≤ ((k : Nat) : Int)))) rfl rfl rfl rfl rfl (e_move) ?_
        refine q_split (s := 44) (p := ((ys.length : Nat) : Int) ≤ ((k : Nat) : Int)) rfl (fun h => ?_) (fun h => ?_)
        rotate_left; exact absurd (by omega) h
        refine qg_val (v := .slice va (al.length) (vc)) rfl rfl rfl rfl rfl (e_move) ?_
        refine qg_val (v := Nx (k)) rfl rfl rfl rfl rfl (e_move) ?_
        obtain ⟨x17, hx18⟩ : ∃ x_, (al)[k]? = some x_ := ⟨_, List.getElem?_eq_getElem (by omega)⟩
        obtain ⟨ha19, cs20, hc21, rfl⟩ := hale _ _ hx18
        refine qg_val (v := .pointer (some ((ba va).add (k * 5)))) rfl rfl rfl rfl rfl (e_indexAddr (k := k) (len := al.length) (cap := vc) (a := va) rfl rfl tf14 (by omega) ha19) ?_
        refine qg_val (v := .agg #[Bx (x17.kind), Ix (x17.v0), Ix (x17.v1), Ix (x17.v2), Ix (x17.v3)]) rfl rfl rfl rfl rfl (e_load tf15 (cs := [Bx (x17.kind), Ix (x17.v0), Ix (x17.v1), Ix (x17.v2), Ix (x17.v3)]) rfl (Knows.of_base (Cs.mono _ _) hc21) rfl) ?_
        refine qg_val (v := Nx (k)) rfl rfl rfl rfl rfl (e_move) ?_
        refine qg_val (v := .slice v'a (ys.length) (v'c)) rfl rfl rfl rfl rfl (e_move) ?_
        refine qg_val (v := Nx (ys.length)) rfl rfl rfl rfl rfl (e_len (a := v'a) (n := ys.length) (c := v'c) rfl tf13) ?_
        refine qg_val (v := Nx (k - ys.length)) rfl rfl rfl rfl rfl (ev_eq (congrArg (Value.int .i64) (by omega)) (e_sub (a := ((k : Nat) : Int)) (b := ((ys.length : Nat) : Int)) rfl rfl (i64w (by omega)))) ?_
        refine qg_call (v := .agg #[Bx ((markC (k - ys.length)).kind), Ix ((markC (k - ys.length)).v0), Ix ((markC (k - ys.length)).v1), Ix ((markC (k - ys.length)).v2), Ix ((markC (k - ys.length)).v3)]) rfl rfl rfl rfl rfl (cl_value (fst := []) (cap := []) (vs := [.int .i64 (1), Nx (k - ys.length)]) (all := [.int .i64 (1), Nx (k - ys.length)]) tf90 rfl rfl rfl) (fun w hw => ?_) ?_
        · obtain ⟨β1, sb, kn, hw1, back⟩ := St.frame_all hw
          exact (markComp_ok β1 w hw1 (k - ys.length) (by omega)).mono (fun e w' ⟨he, hw'⟩ => ⟨he, st_mask [] rfl (back _ _ hw')⟩)
        refine qg_val (v := .bool (decide (x17 = (markC (k - ys.length))))) rfl rfl rfl rfl rfl (e_eql_t (xs := compE x17) (ys := compE (markC (k - ys.length))) tf84 tf85 tf86 rfl rfl rfl rfl compE_inj) ?_
        refine qg_val (v := .bool (decide (¬ (x17 = (markC (k - ys.length)))))) rfl rfl rfl rfl rfl (e_not_p (p := x17 = (markC (k - ys.length))) rfl) ?_
        refine qg_val (v := .bool (decide (¬ (x17 = (markC (k - ys.length)))))) rfl rfl rfl rfl rfl (e_pick_t rfl) ?_
        refine q_val (v := .bool (decide (¬ (x17 = (markC (k - ys.length)))))) rfl rfl rfl (e_pick_f rfl) ?_
        refine q_nil ?_
        refine f_then ?_
        refine c_if (¬ (x17 = (markC (k - ys.length)))) rfl (fun hc23 => ?_) (fun hc23 => ?_)
        ·
          exact absurd hc23 (fun h => h (lent_mark hal hx18 (by omega) (by omega)))
        ·
          refine c_skip ?_
          refine f_block ?_
          refine f_then ?_
          refine c_region ?_
          refine l_val (v := Nx (k)) rfl rfl rfl (e_move) ?_
          refine l_val (v := Nx (k + 1)) rfl rfl rfl (e_add (a := ((k : Nat) : Int)) (b := (1 : Int)) rfl rfl (i64n (by omega) (by omega))) ?_
          refine l_val (v := Nx (k + 1)) rfl rfl rfl (e_assign) ?_
          refine l_nil ?_
          exact f_cut ⟨k + 1, ⟨⟨rfl, rfl, rfl⟩, rfl, ⟨by omega, upto_past hp2 (by omega)⟩⟩, (show al.length - (k + 1) < al.length - k from by omega)⟩
    ·
      refine c_exit ?_
      refine f_then_exit ?_
      refine f_then_exit ?_
      refine f_exit ?_
      refine f_then ?_
      refine c_seq ?_
      refine c_region ?_
      refine l_val (v := .bool true) rfl rfl rfl (e_assign) ?_
      refine l_nil ?_
      refine f_then ?_
      refine c_ret ?_
      refine ret1 Tryz.results87 (v := .bool true) rfl ?_
      intro w hw
      exact ⟨bool_t (upto_eq hxy (show ys.length ≤ k by omega) hp2), st_mask [] rfl hw⟩
theorem keptEntity_ok (β : Base) (w : World) (hw : St β [] w) (x y : KEnt) (v v' : Value) (hx : LSl β.heap v x.comps) (hy : Sl CompR β.heap v' y.comps) : Calls Tryz.prog 45 #[.agg #[Ix x.id, v], .agg #[Ix y.id, v']] w fun r w' => r = .returned (.bool (decide (x = y))) ∧ St β [] w' := by
  obtain ⟨va, vc, rfl, vl, vm, vf⟩ := hx
  have ve := Elems.left vf
  obtain ⟨v'a, v'c, rfl, v'l, v'm, v'e⟩ := hy.get
  refine enter (n := 15) Tryz.func45 rfl Tryz.ntmps45 rfl ?_ hw
  refine c_seq ?_
  refine c_region ?_
  refine l_mv rfl rfl rfl (m_box (v := .agg #[Ix (x.id), .slice va (x.comps.length) (vc)]) rfl) ?_
  rintro _ _ ⟨b1, rfl, rfl⟩
  refine l_mv rfl rfl rfl (m_box (v := .agg #[Ix (y.id), .slice v'a (y.comps.length) (v'c)]) rfl) ?_
  rintro _ _ ⟨b2, rfl, rfl⟩
  refine l_val (v := .bool false) rfl rfl rfl (e_assign) ?_
  refine l_nil ?_
  refine f_then ?_
  refine c_seq ?_
  refine c_region ?_
  refine l_val (v := .agg #[Ix (x.id), .slice va (x.comps.length) (vc)]) rfl rfl rfl (e_load tf24 (cs := [Ix (x.id), .slice va (x.comps.length) (vc)]) rfl (k_pt 1 (cs := #[Ix (x.id), .slice va (x.comps.length) (vc)]) (vs := [Ix (x.id), .slice va (x.comps.length) (vc)]) rfl rfl) rfl) ?_
  refine l_val (v := .agg #[Ix (y.id), .slice v'a (y.comps.length) (v'c)]) rfl rfl rfl (e_load tf24 (cs := [Ix (y.id), .slice v'a (y.comps.length) (v'c)]) rfl (k_pt 0 (cs := #[Ix (y.id), .slice v'a (y.comps.length) (v'c)]) (vs := [Ix (y.id), .slice v'a (y.comps.length) (v'c)]) rfl rfl) rfl) ?_
  refine l_call rfl rfl rfl (cl_value (fst := []) (cap := []) (vs := [.agg #[Ix (x.id), .slice va (x.comps.length) (vc)], .agg #[Ix (y.id), .slice v'a (y.comps.length) (v'c)]]) (all := [.agg #[Ix (x.id), .slice va (x.comps.length) (vc)], .agg #[Ix (y.id), .slice v'a (y.comps.length) (v'c)]]) tf88 rfl rfl rfl) ?_
  intro w hw
  obtain ⟨β1, sb, kn, hw1, back⟩ := St.frame_all hw
  refine (sameEntity_ok β1 w hw1 x y _ _ (Sl.mono _ _ _ _ _ sb (⟨⟨_, _, rfl, by omega, vm, ve⟩⟩ : Sl CompR _ _ x.comps)) (Sl.mono _ _ _ _ _ sb (⟨⟨_, _, rfl, v'l, v'm, v'e⟩⟩ : Sl CompR _ _ y.comps))).mono ?_
  rintro e w' ⟨rfl, hw'⟩
  refine ⟨_, rfl, _, back _ _ hw', ?_⟩
  clear hw hw1 hw' back kn sb
  refine l_val (v := .bool (decide (x = y))) rfl rfl rfl (e_move) ?_
  refine l_split (s := 8) (p := x = y) rfl (fun hg3 => ?_) (fun hg3 => ?_)
  ·
    refine g_val (v := .pointer (some ⟨b1, 1, none⟩)) rfl rfl rfl rfl rfl (e_fieldPt (b := b1) (o := 0) rfl tf11) ?_
    refine g_val (v := .slice va (x.comps.length) (vc)) rfl rfl rfl rfl rfl (e_load1 tf12 (v := .slice va (x.comps.length) (vc)) rfl (k_pt 1 (cs := #[Ix (x.id), .slice va (x.comps.length) (vc)]) (vs := [.slice va (x.comps.length) (vc)]) rfl rfl)) ?_
    refine g_val (v := .pointer (some ⟨b2, 1, none⟩)) rfl rfl rfl rfl rfl (e_fieldPt (b := b2) (o := 0) rfl tf11) ?_
    refine g_val (v := .slice v'a (y.comps.length) (v'c)) rfl rfl rfl rfl rfl (e_load1 tf12 (v := .slice v'a (y.comps.length) (v'c)) rfl (k_pt 0 (cs := #[Ix (y.id), .slice v'a (y.comps.length) (v'c)]) (vs := [.slice v'a (y.comps.length) (v'c)]) rfl rfl)) ?_
    refine g_call rfl rfl rfl rfl rfl (cl_value (fst := []) (cap := []) (vs := [.slice va (x.comps.length) (vc), .slice v'a (y.comps.length) (v'c)]) (all := [.slice va (x.comps.length) (vc), .slice v'a (y.comps.length) (v'c)]) tf91 rfl rfl rfl) ?_
    intro w hw
    obtain ⟨β1, sb, kn, hw1, back⟩ := St.frame_all hw
    refine (keptComps_ok β1 w hw1 _ _ x.comps y.comps (LSl.mono _ _ _ _ sb (⟨_, _, rfl, vl, vm, vf⟩ : LSl _ _ x.comps)) (Sl.mono _ _ _ _ _ sb (⟨⟨_, _, rfl, v'l, v'm, v'e⟩⟩ : Sl CompR _ _ y.comps))).mono ?_
    rintro e w' ⟨rfl, hw'⟩
    refine ⟨_, rfl, _, back _ _ hw', ?_⟩
    clear hw hw1 hw' back kn sb
    refine l_val (v := .bool (decide (x.comps = y.comps))) rfl rfl rfl (e_pick_t rfl) ?_
    refine l_val (v := .bool (decide (x.comps = y.comps))) rfl rfl rfl (e_assign) ?_
    refine l_nil ?_
    refine f_then ?_
    refine c_ret ?_
    refine ret1 Tryz.results45 (v := .bool (decide (x.comps = y.comps))) rfl ?_
    intro w hw
    exact ⟨by rw [decide_eq_true hg3, decide_eq_true (congrArg KEnt.comps hg3)], st_mask [false, false] rfl hw⟩
  ·
    refine l_skip rfl rfl rfl rfl rfl rfl ?_
    refine l_skip rfl rfl rfl rfl rfl rfl ?_
    refine l_skip rfl rfl rfl rfl rfl rfl ?_
    refine l_skip rfl rfl rfl rfl rfl rfl ?_
    refine l_skip rfl rfl rfl rfl rfl rfl ?_
    refine l_val (v := .bool false) rfl rfl rfl (e_pick_f rfl) ?_
    refine l_val (v := .bool false) rfl rfl rfl (e_assign) ?_
    refine l_nil ?_
    refine f_then ?_
    refine c_ret ?_
    refine ret1 Tryz.results45 (v := .bool false) rfl ?_
    intro w hw
    exact ⟨bool_f hg3, st_mask [false, false] rfl hw⟩
theorem keptEntities_ok (β : Base) (w : World) (hw : St β [] w) (v v' : Value) (xs ys : List KEnt) (hx : LESl β.heap v xs) (hy : Sl EntR β.heap v' ys) : Calls Tryz.prog 23 #[v, v'] w fun r w' => r = .returned (.bool (decide (xs = ys))) ∧ St β [] w' := by
  obtain ⟨va, vc, rfl, vl, vm, ve, vf⟩ := hx
  obtain ⟨v'a, v'c, rfl, v'l, v'm, v'e⟩ := hy.get
  obtain ⟨al, hal⟩ : ∃ z, z = xs ++ marksE 12 := ⟨_, rfl⟩
  have hall : al.length = xs.length + 12 := by rw [hal]; simp [marksE_len]
  have hale := vf
  rw [← hal] at hale
  refine enter (n := 58) Tryz.func23 rfl Tryz.ntmps23 rfl ?_ hw
  refine c_seq ?_
  refine c_region ?_
  refine l_val (v := .bool false) rfl rfl rfl (e_assign) ?_
  refine l_nil ?_
  refine f_then ?_
  refine c_seq ?_
  refine c_seq ?_
  refine c_region ?_
  refine l_val (v := .slice va (xs.length) (vc)) rfl rfl rfl (e_move) ?_
  refine l_val (v := Nx (xs.length)) rfl rfl rfl (e_len (a := va) (n := xs.length) (c := vc) rfl tf31) ?_
  refine l_val (v := .slice v'a (ys.length) (v'c)) rfl rfl rfl (e_move) ?_
  refine l_val (v := Nx (ys.length)) rfl rfl rfl (e_len (a := v'a) (n := ys.length) (c := v'c) rfl tf31) ?_
  refine l_val (v := .bool (decide (((xs.length : Nat) : Int) ≠ ((ys.length : Nat) : Int)))) rfl rfl rfl (e_neq (a := ((xs.length : Nat) : Int)) (b := ((ys.length : Nat) : Int)) rfl rfl) ?_
  refine l_nil ?_
  refine f_then ?_
  refine c_if (((xs.length : Nat) : Int) ≠ ((ys.length : Nat) : Int)) rfl (fun hc1 => ?_) (fun hc1 => ?_)
  ·
    refine c_seq ?_
    refine c_region ?_
    refine l_val (v := .bool false) rfl rfl rfl (e_assign) ?_
    refine l_nil ?_
    refine f_then ?_
    refine c_ret ?_
    refine f_then_ret ?_
    refine ret1 Tryz.results23 (v := .bool false) rfl ?_
    intro w hw
    exact ⟨bool_f (fun h => by subst h; omega), st_mask [] rfl hw⟩
  ·
    refine c_skip ?_
    refine f_then ?_
    refine c_seq ?_
    have hxy : xs.length = ys.length := by omega
    refine c_region ?_
    refine l_val (v := .slice va (xs.length) (vc)) rfl rfl rfl (e_move) ?_
    refine l_val (v := .slice v'a (ys.length) (v'c)) rfl rfl rfl (e_move) ?_
    refine l_val (v := Nx (ys.length)) rfl rfl rfl (e_len (a := v'a) (n := ys.length) (c := v'c) rfl tf31) ?_
    refine l_val (v := Nx (ys.length + 12)) rfl rfl rfl (e_add (a := ((ys.length : Nat) : Int)) (b := (12 : Int)) rfl rfl (i64n (by omega) (by omega))) ?_
    refine l_val (v := .slice va (al.length) (vc)) rfl rfl rfl (ev_eq (by rw [show al.length = ys.length + 12 by omega]) (e_slice_hi (a := va) (len := xs.length) (cap := vc) (h := ys.length + 12) tf32 rfl rfl (by omega))) ?_
    refine l_val (v := .slice va (al.length) (vc)) rfl rfl rfl (e_assign) ?_
    refine l_nil ?_
    refine f_then ?_
    refine c_seq ?_
    refine c_seq ?_
    refine c_region ?_
    refine l_val (v := .int .i64 (0)) rfl rfl rfl (e_assign) ?_
    refine l_nil ?_
    refine f_then ?_
    refine c_block ?_
    refine c_loop (fun (k : Nat) (f : Fm) (L : List Res) => (f 1 = .slice v'a (ys.length) (v'c) ∧ f 5 = .slice va (al.length) (vc) ∧ f 6 = Nx (k)) ∧ L = [] ∧ (k ≤ al.length ∧ (∀ j, j < k → j < ys.length → xs[j]? = ys[j]?))) (fun (k : Nat) => al.length - k) 0 ?_ ?_
    · exact ⟨⟨rfl, rfl, rfl⟩, rfl, ⟨by omega, fun j hj => by omega⟩⟩
    rintro k f0 L0 ⟨⟨hs1, hs5, hs6⟩, hL, ⟨hp1, hp2⟩⟩
    subst L0
    refine rebase (d := 1) hs1 ?_
    refine rebase (d := 5) hs5 ?_
    refine rebase (d := 6) hs6 ?_
    clear hs1 hs5 hs6
    refine c_seq ?_
    refine c_seq ?_
    refine c_region ?_
    refine l_val (v := Nx (k)) rfl rfl rfl (e_move) ?_
    refine l_val (v := .slice va (al.length) (vc)) rfl rfl rfl (e_move) ?_
    refine l_val (v := Nx (al.length)) rfl rfl rfl (e_len (a := va) (n := al.length) (c := vc) rfl tf31) ?_
    refine l_val (v := .bool (decide (((k : Nat) : Int) < ((al.length : Nat) : Int)))) rfl rfl rfl (e_lss (a := ((k : Nat) : Int)) (b := ((al.length : Nat) : Int)) rfl rfl) ?_
    refine l_nil ?_
    refine f_then ?_
    refine c_if (((k : Nat) : Int) < ((al.length : Nat) : Int)) rfl (fun hc2 => ?_) (fun hc2 => ?_)
    ·
      refine c_skip ?_
      refine f_then ?_
      refine c_seq ?_
      refine c_block ?_
      refine c_seq ?_
      refine c_quiet (by kernel_rfl) (by kernel_rfl) ?_
      refine q_val (v := Nx (k)) rfl rfl rfl (e_move) ?_
      refine q_val (v := .slice v'a (ys.length) (v'c)) rfl rfl rfl (e_move) ?_
      refine q_val (v := Nx (ys.length)) rfl rfl rfl (e_len (a := v'a) (n := ys.length) (c := v'c) rfl tf31) ?_
      refine q_val (v := .bool (decide (((k : Nat) : Int) < ((ys.length : Nat) : Int)))) rfl rfl rfl (e_lss (a := ((k : Nat) : Int)) (b := ((ys.length : Nat) : Int)) rfl rfl) ?_
      refine q_val (v := .bool (decide (((k : Nat) : Int) < ((ys.length : Nat) : Int)))) rfl rfl rfl (e_move) ?_
      refine q_split (s := 27) (p := ((k : Nat) : Int) < ((ys.length : Nat) : Int)) rfl (fun hg3 => ?_) (fun hg3 => ?_)
      ·
        refine qg_val (v := .slice va (al.length) (vc)) rfl rfl rfl rfl rfl (e_move) ?_
        refine qg_val (v := Nx (k)) rfl rfl rfl rfl rfl (e_move) ?_
        obtain ⟨x4, hx5⟩ : ∃ x_, (xs)[k]? = some x_ := ⟨_, List.getElem?_eq_getElem (by omega)⟩
        obtain ⟨ha6, cs7, hc8, hr9⟩ := ve _ _ hx5
        obtain ⟨v10, rfl, hv11⟩ := hr9
        obtain ⟨v10a, v10c, rfl, v10l, v10m, v10f⟩ := hv11
        have v10e := Elems.left v10f
        refine qg_val (v := .pointer (some ((ba va).add (k * 2)))) rfl rfl rfl rfl rfl (e_indexAddr (k := k) (len := al.length) (cap := vc) (a := va) rfl rfl tf32 (by omega) ha6) ?_
        refine qg_val (v := .agg #[Ix (x4.id), .slice v10a (x4.comps.length) (v10c)]) rfl rfl rfl rfl rfl (e_load tf24 (cs := [Ix (x4.id), .slice v10a (x4.comps.length) (v10c)]) rfl (Knows.of_base (Cs.mono _ _) hc8) rfl) ?_
        refine qg_val (v := .slice v'a (ys.length) (v'c)) rfl rfl rfl rfl rfl (e_move) ?_
        refine qg_val (v := Nx (k)) rfl rfl rfl rfl rfl (e_move) ?_
        obtain ⟨x12, hx13⟩ : ∃ x_, (ys)[k]? = some x_ := ⟨_, List.getElem?_eq_getElem (by omega)⟩
        obtain ⟨ha14, cs15, hc16, hr17⟩ := v'e _ _ hx13
        obtain ⟨v18, rfl, hv19⟩ := hr17
        obtain ⟨v18a, v18c, rfl, v18l, v18m, v18e⟩ := hv19.get
        refine qg_val (v := .pointer (some ((ba v'a).add (k * 2)))) rfl rfl rfl rfl rfl (e_indexAddr (k := k) (len := ys.length) (cap := v'c) (a := v'a) rfl rfl tf32 (by omega) ha14) ?_
        refine qg_val (v := .agg #[Ix (x12.id), .slice v18a (x12.comps.length) (v18c)]) rfl rfl rfl rfl rfl (e_load tf24 (cs := [Ix (x12.id), .slice v18a (x12.comps.length) (v18c)]) rfl (Knows.of_base (Cs.mono _ _) hc16) rfl) ?_
        refine qg_call (v := .bool (decide (x4 = x12))) rfl rfl rfl rfl rfl (cl_value (fst := []) (cap := []) (vs := [.agg #[Ix (x4.id), .slice v10a (x4.comps.length) (v10c)], .agg #[Ix (x12.id), .slice v18a (x12.comps.length) (v18c)]]) (all := [.agg #[Ix (x4.id), .slice v10a (x4.comps.length) (v10c)], .agg #[Ix (x12.id), .slice v18a (x12.comps.length) (v18c)]]) tf92 rfl rfl rfl) (fun w hw => ?_) ?_
        · obtain ⟨β1, sb, kn, hw1, back⟩ := St.frame_all hw
          exact (keptEntity_ok β1 w hw1 x4 x12 _ _ (LSl.mono _ _ _ _ sb (⟨_, _, rfl, v10l, v10m, v10f⟩ : LSl _ _ x4.comps)) (Sl.mono _ _ _ _ _ sb (⟨⟨_, _, rfl, v18l, v18m, v18e⟩⟩ : Sl CompR _ _ x12.comps))).mono (fun e w' ⟨he, hw'⟩ => ⟨he, st_mask [] rfl (back _ _ hw')⟩)
        refine qg_val (v := .bool (decide (¬ (x4 = x12)))) rfl rfl rfl rfl rfl (e_not_p (p := x4 = x12) rfl) ?_
        refine q_val (v := .bool (decide (¬ (x4 = x12)))) rfl rfl rfl (e_pick_t rfl) ?_
        refine q_val (v := .bool (decide (¬ (x4 = x12)))) rfl rfl rfl (e_move) ?_
        refine q_split (s := 39) (p := ¬ (x4 = x12)) rfl (fun hg20 => ?_) (fun hg20 => ?_)
        ·
          refine q_skip rfl rfl rfl rfl rfl rfl ?_
          refine q_skip rfl rfl rfl rfl rfl rfl ?_
          refine q_skip rfl rfl rfl rfl rfl rfl ?_
          refine q_skip rfl rfl rfl rfl rfl rfl ?_
          refine q_skip rfl rfl rfl rfl rfl rfl ?_
          refine q_skip_u rfl rfl rfl rfl rfl ?_
          refine q_skip_u rfl rfl rfl rfl rfl ?_
          refine q_skip_u rfl rfl rfl rfl rfl ?_
          refine q_skip_u rfl rfl rfl rfl rfl ?_
          refine q_skip_u rfl rfl rfl rfl rfl ?_
          refine q_skip_u rfl rfl rfl rfl rfl ?_
          refine q_skip_u rfl rfl rfl rfl rfl ?_
          refine q_skip_u rfl rfl rfl rfl rfl ?_
          refine q_skip_u rfl rfl rfl rfl rfl ?_
          refine q_skip_u rfl rfl rfl rfl rfl ?_
          refine q_skip_u rfl rfl rfl rfl rfl ?_
          refine q_skip rfl rfl rfl rfl rfl rfl ?_
          refine q_val (v := .bool true) rfl rfl rfl (e_pick_t rfl) ?_
          refine q_nil ?_
          refine f_then ?_
          refine c_yes rfl ?_
          refine c_seq ?_
          refine c_region ?_
          refine l_val (v := .bool false) rfl rfl rfl (e_assign) ?_
          refine l_nil ?_
          refine f_then ?_
          refine c_ret ?_
          refine f_block_ret ?_
          refine f_then_ret ?_
          refine f_then_ret ?_
          refine f_block_ret ?_
          refine f_then_ret ?_
          refine ret1 Tryz.results23 (v := .bool false) rfl ?_
          intro w hw
          exact ⟨bool_f (list_ne hx5 hx13 hg20), st_mask [] rfl hw⟩
        ·
          refine qg_val (v := Nx (k)) rfl rfl rfl rfl rfl (e_move) ?_
          refine qg_val (v := .slice v'a (ys.length) (v'c)) rfl rfl rfl rfl rfl (e_move) ?_
          refine qg_val (v := Nx (ys.length)) rfl rfl rfl rfl rfl (e_len (a := v'a) (n := ys.length) (c := v'c) rfl tf31) ?_
          refine qg_val (v := .bool (decide (((ys.length : Nat) : Int) ≤ ((k : Nat) : Int)))) rfl rfl rfl rfl rfl (e_geq (a := ((k : Nat) : Int)) (b := ((ys.length : Nat) : Int)) rfl rfl) ?_
          refine qg_val (v := .bool (decide (((ys.length : Nat) : Int) ≤ ((k : Nat) : Int)))) rfl rfl rfl rfl rfl (e_move) ?_
          refine q_split (s := 44) (p := ((ys.length : Nat) : Int) ≤ ((k : Nat) : Int)) rfl (fun h => ?_) (fun h => ?_)
          exact absurd h (by omega)
          refine q_skip rfl rfl rfl rfl rfl rfl ?_
          refine q_skip rfl rfl rfl rfl rfl rfl ?_
          refine q_skip rfl rfl rfl rfl rfl rfl ?_
          refine q_skip rfl rfl rfl rfl rfl rfl ?_
          refine q_skip rfl rfl rfl rfl rfl rfl ?_
          refine q_skip rfl rfl rfl rfl rfl rfl ?_
          refine q_skip rfl rfl rfl rfl rfl rfl ?_
          refine q_skip rfl rfl rfl rfl rfl rfl ?_
          refine q_skip rfl rfl rfl rfl rfl rfl ?_
          refine q_skip rfl rfl rfl rfl rfl rfl ?_
          refine q_skip rfl rfl rfl rfl rfl rfl ?_
          refine qg_val (v := .bool false) rfl rfl rfl rfl rfl (e_pick_f rfl) ?_
          refine q_val (v := .bool false) rfl rfl rfl (e_pick_f rfl) ?_
          refine q_nil ?_
          refine f_then ?_
          refine c_no rfl ?_
          refine c_skip ?_
          refine f_block ?_
          refine f_then ?_
          refine c_region ?_
          refine l_val (v := Nx (k)) rfl rfl rfl (e_move) ?_
          refine l_val (v := Nx (k + 1)) rfl rfl rfl (e_add (a := ((k : Nat) : Int)) (b := (1 : Int)) rfl rfl (i64n (by omega) (by omega))) ?_
          refine l_val (v := Nx (k + 1)) rfl rfl rfl (e_assign) ?_
          refine l_nil ?_
          exact f_cut ⟨k + 1, ⟨⟨rfl, rfl, rfl⟩, rfl, ⟨by omega, upto_succ hp2 (by rw [hx5, hx13, Decidable.not_not.1 hg20])⟩⟩, (show al.length - (k + 1) < al.length - k from by omega)⟩
      ·
        refine q_skip rfl rfl rfl rfl rfl rfl ?_
        refine q_skip rfl rfl rfl rfl rfl rfl ?_
        refine q_skip rfl rfl rfl rfl rfl rfl ?_
        refine q_skip rfl rfl rfl rfl rfl rfl ?_
        refine q_skip rfl rfl rfl rfl rfl rfl ?_
        refine q_skip rfl rfl rfl rfl rfl rfl ?_
        refine q_skip rfl rfl rfl rfl rfl rfl ?_
        refine q_skip rfl rfl rfl rfl rfl rfl ?_
        refine q_skip rfl rfl rfl rfl rfl rfl ?_
        refine q_skip rfl rfl rfl rfl rfl rfl ?_
        refine q_val (v := .bool false) rfl rfl rfl (e_pick_f rfl) ?_
        refine q_val (v := .bool false) rfl rfl rfl (e_move) ?_
        refine qg_val (v := Nx (k)) rfl rfl rfl rfl rfl (e_move) ?_
        refine qg_val (v := .slice v'a (ys.length) (v'c)) rfl rfl rfl rfl rfl (e_move) ?_
        refine qg_val (v := Nx (ys.length)) rfl rfl rfl rfl rfl (e_len (a := v'a) (n := ys.length) (c := v'c) rfl tf31) ?_
        refine qg_val (v := .bool (decide (((ys.length : Nat) : Int) ≤ ((k : Nat) : Int)))) rfl rfl rfl rfl rfl (e_geq (a := ((k : Nat) : Int)) (b := ((ys.length : Nat) : Int)) rfl rfl) ?_
        refine qg_val (v := .bool (decide (((ys.length : Nat) : Int) ≤ ((k : Nat) : Int)))) rfl rfl rfl rfl rfl (e_move) ?_
        refine q_split (s := 44) (p := ((ys.length : Nat) : Int) ≤ ((k : Nat) : Int)) rfl (fun h => ?_) (fun h => ?_)
        rotate_left; exact absurd (by omega) h
        refine qg_val (v := .slice va (al.length) (vc)) rfl rfl rfl rfl rfl (e_move) ?_
        refine qg_val (v := Nx (k)) rfl rfl rfl rfl rfl (e_move) ?_
        obtain ⟨x21, hx22⟩ : ∃ x_, (al)[k]? = some x_ := ⟨_, List.getElem?_eq_getElem (by omega)⟩
        obtain ⟨ha23, cs24, hc25, hr26⟩ := hale _ _ hx22
        obtain ⟨v27, rfl, hv28⟩ := hr26
        obtain ⟨v27a, v27c, rfl, v27l, v27m, v27e⟩ := hv28.get
        refine qg_val (v := .pointer (some ((ba va).add (k * 2)))) rfl rfl rfl rfl rfl (e_indexAddr (k := k) (len := al.length) (cap := vc) (a := va) rfl rfl tf32 (by omega) ha23) ?_
        refine qg_val (v := .agg #[Ix (x21.id), .slice v27a (x21.comps.length) (v27c)]) rfl rfl rfl rfl rfl (e_load tf24 (cs := [Ix (x21.id), .slice v27a (x21.comps.length) (v27c)]) rfl (Knows.of_base (Cs.mono _ _) hc25) rfl) ?_
        refine qg_val (v := Nx (k)) rfl rfl rfl rfl rfl (e_move) ?_
        refine qg_val (v := .slice v'a (ys.length) (v'c)) rfl rfl rfl rfl rfl (e_move) ?_
        refine qg_val (v := Nx (ys.length)) rfl rfl rfl rfl rfl (e_len (a := v'a) (n := ys.length) (c := v'c) rfl tf31) ?_
        refine qg_val (v := Nx (k - ys.length)) rfl rfl rfl rfl rfl (ev_eq (congrArg (Value.int .i64) (by omega)) (e_sub (a := ((k : Nat) : Int)) (b := ((ys.length : Nat) : Int)) rfl rfl (i64w (by omega)))) ?_
        refine qg_call (v := .agg #[Ix ((markE (k - ys.length)).id), .slice none 0 0]) rfl rfl rfl rfl rfl (cl_value (fst := []) (cap := []) (vs := [.int .i64 (1), Nx (k - ys.length)]) (all := [.int .i64 (1), Nx (k - ys.length)]) tf93 rfl rfl rfl) (fun w hw => ?_) ?_
        · obtain ⟨β1, sb, kn, hw1, back⟩ := St.frame_all hw
          exact (markEntity_ok β1 w hw1 (k - ys.length) (by omega)).mono (fun e w' ⟨he, hw'⟩ => ⟨he, st_mask [] rfl (back _ _ hw')⟩)
        refine qg_call (v := .bool (decide (x21 = (markE (k - ys.length))))) rfl rfl rfl rfl rfl (cl_value (fst := []) (cap := []) (vs := [.agg #[Ix (x21.id), .slice v27a (x21.comps.length) (v27c)], .agg #[Ix ((markE (k - ys.length)).id), .slice none 0 0]]) (all := [.agg #[Ix (x21.id), .slice v27a (x21.comps.length) (v27c)], .agg #[Ix ((markE (k - ys.length)).id), .slice none 0 0]]) tf88 rfl rfl rfl) (fun w hw => ?_) ?_
        · obtain ⟨β1, sb, kn, hw1, back⟩ := St.frame_all hw
          exact (sameEntity_ok β1 w hw1 x21 (markE (k - ys.length)) _ _ (Sl.mono _ _ _ _ _ sb (⟨⟨_, _, rfl, v27l, v27m, v27e⟩⟩ : Sl CompR _ _ x21.comps)) (Sl.nil CompR _ : Sl CompR _ _ (markE (k - ys.length)).comps)).mono (fun e w' ⟨he, hw'⟩ => ⟨he, st_mask [] rfl (back _ _ hw')⟩)
        refine qg_val (v := .bool (decide (¬ (x21 = (markE (k - ys.length)))))) rfl rfl rfl rfl rfl (e_not_p (p := x21 = (markE (k - ys.length))) rfl) ?_
        refine qg_val (v := .bool (decide (¬ (x21 = (markE (k - ys.length)))))) rfl rfl rfl rfl rfl (e_pick_t rfl) ?_
        refine q_val (v := .bool (decide (¬ (x21 = (markE (k - ys.length)))))) rfl rfl rfl (e_pick_f rfl) ?_
        refine q_nil ?_
        refine f_then ?_
        refine c_if (¬ (x21 = (markE (k - ys.length)))) rfl (fun hc29 => ?_) (fun hc29 => ?_)
        ·
          exact absurd hc29 (fun h => h (lent_markE hal hx22 (by omega) (by omega)))
        ·
          refine c_skip ?_
          refine f_block ?_
          refine f_then ?_
          refine c_region ?_
          refine l_val (v := Nx (k)) rfl rfl rfl (e_move) ?_
          refine l_val (v := Nx (k + 1)) rfl rfl rfl (e_add (a := ((k : Nat) : Int)) (b := (1 : Int)) rfl rfl (i64n (by omega) (by omega))) ?_
          refine l_val (v := Nx (k + 1)) rfl rfl rfl (e_assign) ?_
          refine l_nil ?_
          exact f_cut ⟨k + 1, ⟨⟨rfl, rfl, rfl⟩, rfl, ⟨by omega, upto_past hp2 (by omega)⟩⟩, (show al.length - (k + 1) < al.length - k from by omega)⟩
    ·
      refine c_exit ?_
      refine f_then_exit ?_
      refine f_then_exit ?_
      refine f_exit ?_
      refine f_then ?_
      refine c_seq ?_
      refine c_region ?_
      refine l_val (v := .bool true) rfl rfl rfl (e_assign) ?_
      refine l_nil ?_
      refine f_then ?_
      refine c_ret ?_
      refine ret1 Tryz.results23 (v := .bool true) rfl ?_
      intro w hw
      exact ⟨bool_t (upto_eq hxy (show ys.length ≤ k by omega) hp2), st_mask [] rfl hw⟩
theorem keptWorld_ok (β : Base) (w : World) (hw : St β [] w) (x y : KWorld) (v v' : Value) (hx : LESl β.heap v x.ents) (hy : Sl EntR β.heap v' y.ents) : Calls Tryz.prog 10 #[.agg #[Ix x.tick, v], .agg #[Ix y.tick, v']] w fun r w' => r = .returned (.bool (decide (x = y))) ∧ St β [] w' := by
  obtain ⟨va, vc, rfl, vl, vm, ve, vf⟩ := hx
  obtain ⟨v'a, v'c, rfl, v'l, v'm, v'e⟩ := hy.get
  refine enter (n := 15) Tryz.func10 rfl Tryz.ntmps10 rfl ?_ hw
  refine c_seq ?_
  refine c_region ?_
  refine l_mv rfl rfl rfl (m_box (v := .agg #[Ix (x.tick), .slice va (x.ents.length) (vc)]) rfl) ?_
  rintro _ _ ⟨b1, rfl, rfl⟩
  refine l_mv rfl rfl rfl (m_box (v := .agg #[Ix (y.tick), .slice v'a (y.ents.length) (v'c)]) rfl) ?_
  rintro _ _ ⟨b2, rfl, rfl⟩
  refine l_val (v := .bool false) rfl rfl rfl (e_assign) ?_
  refine l_nil ?_
  refine f_then ?_
  refine c_seq ?_
  refine c_region ?_
  refine l_val (v := .agg #[Ix (x.tick), .slice va (x.ents.length) (vc)]) rfl rfl rfl (e_load tf46 (cs := [Ix (x.tick), .slice va (x.ents.length) (vc)]) rfl (k_pt 1 (cs := #[Ix (x.tick), .slice va (x.ents.length) (vc)]) (vs := [Ix (x.tick), .slice va (x.ents.length) (vc)]) rfl rfl) rfl) ?_
  refine l_val (v := .agg #[Ix (y.tick), .slice v'a (y.ents.length) (v'c)]) rfl rfl rfl (e_load tf46 (cs := [Ix (y.tick), .slice v'a (y.ents.length) (v'c)]) rfl (k_pt 0 (cs := #[Ix (y.tick), .slice v'a (y.ents.length) (v'c)]) (vs := [Ix (y.tick), .slice v'a (y.ents.length) (v'c)]) rfl rfl) rfl) ?_
  refine l_call rfl rfl rfl (cl_value (fst := []) (cap := []) (vs := [.agg #[Ix (x.tick), .slice va (x.ents.length) (vc)], .agg #[Ix (y.tick), .slice v'a (y.ents.length) (v'c)]]) (all := [.agg #[Ix (x.tick), .slice va (x.ents.length) (vc)], .agg #[Ix (y.tick), .slice v'a (y.ents.length) (v'c)]]) tf94 rfl rfl rfl) ?_
  intro w hw
  obtain ⟨β1, sb, kn, hw1, back⟩ := St.frame_all hw
  refine (sameWorld_ok β1 w hw1 (⟨x.tick, x.ents⟩ : KWorld) (⟨y.tick, y.ents⟩ : KWorld) _ _ (Sl.mono _ _ _ _ _ sb (⟨⟨_, _, rfl, by omega, vm, Elems.left vf⟩⟩ : Sl EntR _ _ x.ents)) (Sl.mono _ _ _ _ _ sb (⟨⟨_, _, rfl, v'l, v'm, v'e⟩⟩ : Sl EntR _ _ y.ents))).mono ?_
  rintro e w' ⟨rfl, hw'⟩
  refine ⟨_, rfl, _, back _ _ hw', ?_⟩
  clear hw hw1 hw' back kn sb
  refine l_val (v := .bool (decide ((⟨x.tick, x.ents⟩ : KWorld) = (⟨y.tick, y.ents⟩ : KWorld)))) rfl rfl rfl (e_move) ?_
  refine l_split (s := 8) (p := (⟨x.tick, x.ents⟩ : KWorld) = (⟨y.tick, y.ents⟩ : KWorld)) rfl (fun hg3 => ?_) (fun hg3 => ?_)
  ·
    refine g_val (v := .pointer (some ⟨b1, 1, none⟩)) rfl rfl rfl rfl rfl (e_fieldPt (b := b1) (o := 0) rfl tf29) ?_
    refine g_val (v := .slice va (x.ents.length) (vc)) rfl rfl rfl rfl rfl (e_load1 tf30 (v := .slice va (x.ents.length) (vc)) rfl (k_pt 1 (cs := #[Ix (x.tick), .slice va (x.ents.length) (vc)]) (vs := [.slice va (x.ents.length) (vc)]) rfl rfl)) ?_
    refine g_val (v := .pointer (some ⟨b2, 1, none⟩)) rfl rfl rfl rfl rfl (e_fieldPt (b := b2) (o := 0) rfl tf29) ?_
    refine g_val (v := .slice v'a (y.ents.length) (v'c)) rfl rfl rfl rfl rfl (e_load1 tf30 (v := .slice v'a (y.ents.length) (v'c)) rfl (k_pt 0 (cs := #[Ix (y.tick), .slice v'a (y.ents.length) (v'c)]) (vs := [.slice v'a (y.ents.length) (v'c)]) rfl rfl)) ?_
    refine g_call rfl rfl rfl rfl rfl (cl_value (fst := []) (cap := []) (vs := [.slice va (x.ents.length) (vc), .slice v'a (y.ents.length) (v'c)]) (all := [.slice va (x.ents.length) (vc), .slice v'a (y.ents.length) (v'c)]) tf95 rfl rfl rfl) ?_
    intro w hw
    obtain ⟨β1, sb, kn, hw1, back⟩ := St.frame_all hw
    refine (keptEntities_ok β1 w hw1 _ _ x.ents y.ents (LESl.mono _ _ _ _ sb (⟨_, _, rfl, vl, vm, ve, vf⟩ : LESl _ _ x.ents)) (Sl.mono _ _ _ _ _ sb (⟨⟨_, _, rfl, v'l, v'm, v'e⟩⟩ : Sl EntR _ _ y.ents))).mono ?_
    rintro e w' ⟨rfl, hw'⟩
    refine ⟨_, rfl, _, back _ _ hw', ?_⟩
    clear hw hw1 hw' back kn sb
    refine l_val (v := .bool (decide (x.ents = y.ents))) rfl rfl rfl (e_pick_t rfl) ?_
    refine l_val (v := .bool (decide (x.ents = y.ents))) rfl rfl rfl (e_assign) ?_
    refine l_nil ?_
    refine f_then ?_
    refine c_ret ?_
    refine ret1 Tryz.results10 (v := .bool (decide (x.ents = y.ents))) rfl ?_
    intro w hw
    exact ⟨by rw [decide_eq_true hg3, decide_eq_true (congrArg KWorld.ents hg3)], st_mask [false, false] rfl hw⟩
  ·
    refine l_skip rfl rfl rfl rfl rfl rfl ?_
    refine l_skip rfl rfl rfl rfl rfl rfl ?_
    refine l_skip rfl rfl rfl rfl rfl rfl ?_
    refine l_skip rfl rfl rfl rfl rfl rfl ?_
    refine l_skip rfl rfl rfl rfl rfl rfl ?_
    refine l_val (v := .bool false) rfl rfl rfl (e_pick_f rfl) ?_
    refine l_val (v := .bool false) rfl rfl rfl (e_assign) ?_
    refine l_nil ?_
    refine f_then ?_
    refine c_ret ?_
    refine ret1 Tryz.results10 (v := .bool false) rfl ?_
    intro w hw
    exact ⟨bool_f hg3, st_mask [false, false] rfl hw⟩
end Go.Proofs
