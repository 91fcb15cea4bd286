/-
  Own work; plain Lean (Dg5).
-/
import Derived.Test.YtbfidhbcojbklaaGreatDg4
namespace Go.Proofs
open Go Go.Sl
theorem tf35 : (Tryz.prog.info? 36).bind (·.zero) = some (.agg #[.int .i64 (0), .int .i64 (0), .int .i64 (0), .int .i64 (0)]) := by kernel_rfl
theorem tf36 : stB Tryz.prog 38 [(0, 1), (1, 4)] = true := by kernel_rfl
theorem tf37 : stB Tryz.prog 35 [(0, 1), (1, 1)] = true := by kernel_rfl
theorem tf38 : Tryz.prog.underlying 26 = some (.slice 3) := by kernel_rfl
theorem tf39 : slB Tryz.prog 26 3 1 = true := by kernel_rfl
theorem tf40 : Tryz.prog.underlying 47 = some (.slice 41) := by kernel_rfl
theorem tf41 : slB Tryz.prog 47 41 1 = true := by kernel_rfl
theorem hurt_ok (β : Base) (w : World) (hw : St β [] w) (id life : Int) : Calls Tryz.prog 29 #[Ix id, Ix life] w fun r w' => ∃ b, r = .returned (.agg #[Ix id, .slice (some ⟨b, 0, none⟩) 2 2]) ∧ St β [pt b (.cells #[.int .u8 1, .int .i64 5, .int .i64 7, .int .i64 0, .int .i64 0, .int .u8 8, Ix life, .int .i64 0, .int .i64 0, .int .i64 0] 38)] w' := by
  refine enter (n := 13) Tryz.func29 rfl Tryz.ntmps29 rfl ?_ hw
  refine c_seq ?_
  refine c_region ?_
  refine l_mv rfl rfl rfl (m_alloc tf33) ?_
  rintro _ _ ⟨b1, rfl, rfl⟩
  refine l_nil ?_
  refine f_then ?_
  refine c_seq ?_
  refine c_region ?_
  refine l_val (v := Ix (id)) rfl rfl rfl (e_move) ?_
  refine l_val (v := .agg #[.int .i64 (5), .int .i64 (7), .int .i64 (0), .int .i64 (0)]) rfl rfl rfl (e_build_a tf35 tf21 (vs := [(0, .int .i64 (5)), (1, .int .i64 (7))]) (cells := #[.int .i64 (5), .int .i64 (7), .int .i64 (0), .int .i64 (0)]) rfl rfl) ?_
  refine l_val (v := .agg #[.int .u8 (1), .int .i64 (5), .int .i64 (7), .int .i64 (0), .int .i64 (0)]) rfl rfl rfl (e_build tf16 tf36 (vs := [(0, .int .u8 (1)), (1, .agg #[.int .i64 (5), .int .i64 (7), .int .i64 (0), .int .i64 (0)])]) (cells := #[.int .u8 (1), .int .i64 (5), .int .i64 (7), .int .i64 (0), .int .i64 (0)]) rfl rfl) ?_
  refine l_val (v := Ix (life)) rfl rfl rfl (e_move) ?_
  refine l_val (v := .agg #[Ix (life), .int .i64 (0), .int .i64 (0), .int .i64 (0)]) rfl rfl rfl (e_build_a tf35 tf21 (vs := [(0, Ix (life))]) (cells := #[Ix (life), .int .i64 (0), .int .i64 (0), .int .i64 (0)]) rfl rfl) ?_
  refine l_val (v := .agg #[.int .u8 (8), Ix (life), .int .i64 (0), .int .i64 (0), .int .i64 (0)]) rfl rfl rfl (e_build tf16 tf36 (vs := [(0, .int .u8 (8)), (1, .agg #[Ix (life), .int .i64 (0), .int .i64 (0), .int .i64 (0)])]) (cells := #[.int .u8 (8), Ix (life), .int .i64 (0), .int .i64 (0), .int .i64 (0)]) rfl rfl) ?_
  refine l_mv rfl rfl rfl (m_slices tf14 tf16 (vs := [(0, .agg #[.int .u8 (1), .int .i64 (5), .int .i64 (7), .int .i64 (0), .int .i64 (0)]), (1, .agg #[.int .u8 (8), Ix (life), .int .i64 (0), .int .i64 (0), .int .i64 (0)])]) (cells := #[.int .u8 (1), .int .i64 (5), .int .i64 (7), .int .i64 (0), .int .i64 (0), .int .u8 (8), Ix (life), .int .i64 (0), .int .i64 (0), .int .i64 (0)]) rfl rfl rfl rfl) ?_
  rintro _ _ ⟨b2, rfl, rfl⟩
  refine l_val (v := .agg #[Ix (id), .slice (some ⟨b2, 0, none⟩) 2 2]) rfl rfl rfl (e_build tf33 tf37 (vs := [(0, Ix (id)), (1, .slice (some ⟨b2, 0, none⟩) 2 2)]) (cells := #[Ix (id), .slice (some ⟨b2, 0, none⟩) 2 2]) rfl rfl) ?_
  refine l_mu rfl rfl (m_store 1 tf24 (b := b1) (o := 0) (T := 35) (cs := #[.int .i64 (0), .slice none 0 0]) (cs' := #[Ix (id), .slice (some ⟨b2, 0, none⟩) 2 2]) (v := .agg #[Ix (id), .slice (some ⟨b2, 0, none⟩) 2 2]) rfl rfl rfl rfl rfl rfl rfl) ?_
  refine l_nil ?_
  refine f_then ?_
  refine c_ret ?_
  refine retG (l := [.cell 4 35]) (m := [.agg #[Ix (id), .slice (some ⟨b2, 0, none⟩) 2 2]]) (v := .agg #[Ix (id), .slice (some ⟨b2, 0, none⟩) 2 2]) Tryz.results29 ⟨rd_cell tf24 (cs := [Ix (id), .slice (some ⟨b2, 0, none⟩) 2 2]) rfl (k_pt 1 (cs := #[Ix (id), .slice (some ⟨b2, 0, none⟩) 2 2]) (vs := [Ix (id), .slice (some ⟨b2, 0, none⟩) 2 2]) rfl rfl) rfl, trivial⟩ rfl ?_
  intro w hw
  exact ⟨b2, rfl, st_mask [true, false] rfl hw⟩
theorem sameInts_ok (β : Base) (w : World) (hw : St β [] w) (v v' : Value) (xs ys : List Int) (hx : Sl IntR β.heap v xs) (hy : Sl IntR β.heap v' ys) : Calls Tryz.prog 8 #[v, v'] w fun e w' => e = .returned (.bool (decide (xs = ys))) ∧ St β [] w' := by
  obtain ⟨va, vc, rfl, vl, vm, ve⟩ := hx.get
  obtain ⟨v'a, v'c, rfl, v'l, v'm, v'e⟩ := hy.get
  refine enter (n := 26) Tryz.func8 rfl Tryz.ntmps8 rfl ?_ hw
  refine c_seq ?_
  refine c_region ?_
  refine l_val (v := .bool false) rfl rfl rfl (e_assign) ?_
  refine l_nil ?_
  refine f_then ?_
  refine c_seq ?_
  refine c_seq ?_
  refine c_region ?_
  refine l_val (v := .slice va (xs.length) (vc)) rfl rfl rfl (e_move) ?_
  refine l_val (v := Nx (xs.length)) rfl rfl rfl (e_len (a := va) (n := xs.length) (c := vc) rfl tf38) ?_
  refine l_val (v := .slice v'a (ys.length) (v'c)) rfl rfl rfl (e_move) ?_
  refine l_val (v := Nx (ys.length)) rfl rfl rfl (e_len (a := v'a) (n := ys.length) (c := v'c) rfl tf38) ?_
  refine l_val (v := .bool (decide (((xs.length : Nat) : Int) ≠ ((ys.length : Nat) : Int)))) rfl rfl rfl (e_neq (a := ((xs.length : Nat) : Int)) (b := ((ys.length : Nat) : Int)) rfl rfl) ?_
  refine l_nil ?_
  refine f_then ?_
  refine c_if (((xs.length : Nat) : Int) ≠ ((ys.length : Nat) : Int)) rfl (fun hc1 => ?_) (fun hc1 => ?_)
  ·
    refine c_seq ?_
    refine c_region ?_
    refine l_val (v := .bool false) rfl rfl rfl (e_assign) ?_
    refine l_nil ?_
    refine f_then ?_
    refine c_ret ?_
    refine f_then_ret ?_
    refine ret1 Tryz.results8 (v := .bool false) rfl ?_
    intro w hw
    exact ⟨bool_f (fun h => by subst h; omega), st_mask [] rfl hw⟩
  ·
    refine c_skip ?_
    refine f_then ?_
    refine c_seq ?_
    refine c_seq ?_
    refine c_region ?_
    refine l_val (v := .int .i64 (0)) rfl rfl rfl (e_assign) ?_
    refine l_nil ?_
    refine f_then ?_
    refine c_block ?_
    refine c_loop (fun (k : Nat) (f : Fm) (L : List Res) => (f 0 = .slice va (xs.length) (vc) ∧ f 1 = .slice v'a (ys.length) (v'c) ∧ f 5 = Nx (k)) ∧ L = [] ∧ (k ≤ xs.length ∧ xs.take (k) = ys.take (k))) (fun (k : Nat) => xs.length - k) 0 ?_ ?_
    · exact ⟨⟨rfl, rfl, rfl⟩, rfl, ⟨by omega, rfl⟩⟩
    rintro k f0 L0 ⟨⟨hs0, hs1, hs5⟩, hL, ⟨hp1, hp2⟩⟩
    subst L0
    refine rebase (d := 0) hs0 ?_
    refine rebase (d := 1) hs1 ?_
    refine rebase (d := 5) hs5 ?_
    clear hs0 hs1 hs5
    refine c_seq ?_
    refine c_seq ?_
    refine c_region ?_
    refine l_val (v := Nx (k)) rfl rfl rfl (e_move) ?_
    refine l_val (v := .slice va (xs.length) (vc)) rfl rfl rfl (e_move) ?_
    refine l_val (v := Nx (xs.length)) rfl rfl rfl (e_len (a := va) (n := xs.length) (c := vc) rfl tf38) ?_
    refine l_val (v := .bool (decide (((k : Nat) : Int) < ((xs.length : Nat) : Int)))) rfl rfl rfl (e_lss (a := ((k : Nat) : Int)) (b := ((xs.length : Nat) : Int)) rfl rfl) ?_
    refine l_nil ?_
    refine f_then ?_
    refine c_if (((k : Nat) : Int) < ((xs.length : Nat) : Int)) rfl (fun hc2 => ?_) (fun hc2 => ?_)
    ·
      refine c_skip ?_
      refine f_then ?_
      refine c_seq ?_
      refine c_block ?_
      refine c_seq ?_
      refine c_quiet (by kernel_rfl) (by kernel_rfl) ?_
      refine q_val (v := .slice va (xs.length) (vc)) rfl rfl rfl (e_move) ?_
      refine q_val (v := Nx (k)) rfl rfl rfl (e_move) ?_
      obtain ⟨x3, hx4⟩ : ∃ x_, (xs)[k]? = some x_ := ⟨_, List.getElem?_eq_getElem (by omega)⟩
      obtain ⟨ha5, cs6, hc7, rfl⟩ := ve _ _ hx4
      refine q_val (v := .pointer (some ((ba va).add (k * 1)))) rfl rfl rfl (e_indexAddr (k := k) (len := xs.length) (cap := vc) (a := va) rfl rfl tf39 (by omega) ha5) ?_
      refine q_val (v := Ix (x3)) rfl rfl rfl (e_load1 tf10 (v := Ix (x3)) rfl (Knows.of_base (Cs.mono _ _) hc7)) ?_
      refine q_val (v := .slice v'a (ys.length) (v'c)) rfl rfl rfl (e_move) ?_
      refine q_val (v := Nx (k)) rfl rfl rfl (e_move) ?_
      obtain ⟨x9, hx10⟩ : ∃ x_, (ys)[k]? = some x_ := ⟨_, List.getElem?_eq_getElem (by omega)⟩
      obtain ⟨ha11, cs12, hc13, rfl⟩ := v'e _ _ hx10
      refine q_val (v := .pointer (some ((ba v'a).add (k * 1)))) rfl rfl rfl (e_indexAddr (k := k) (len := ys.length) (cap := v'c) (a := v'a) rfl rfl tf39 (by omega) ha11) ?_
      refine q_val (v := Ix (x9)) rfl rfl rfl (e_load1 tf10 (v := Ix (x9)) rfl (Knows.of_base (Cs.mono _ _) hc13)) ?_
      refine q_val (v := .bool (decide ((x3) ≠ (x9)))) rfl rfl rfl (e_neq (a := (x3)) (b := (x9)) rfl rfl) ?_
      refine q_nil ?_
      refine f_then ?_
      refine c_if ((x3) ≠ (x9)) rfl (fun hc15 => ?_) (fun hc15 => ?_)
      ·
        refine c_seq ?_
        refine c_region ?_
        refine l_val (v := .bool false) rfl rfl rfl (e_assign) ?_
        refine l_nil ?_
        refine f_then ?_
        refine c_ret ?_
        refine f_block_ret ?_
        refine f_then_ret ?_
        refine f_then_ret ?_
        refine f_block_ret ?_
        refine f_then_ret ?_
        refine ret1 Tryz.results8 (v := .bool false) rfl ?_
        intro w hw
        exact ⟨bool_f (list_ne hx4 hx10 (hc15)), st_mask [] rfl hw⟩
      ·
        refine c_skip ?_
        refine f_block ?_
        refine f_then ?_
        refine c_region ?_
        refine l_val (v := Nx (k)) rfl rfl rfl (e_move) ?_
        refine l_val (v := Nx (k + 1)) rfl rfl rfl (e_add (a := ((k : Nat) : Int)) (b := (1 : Int)) rfl rfl (i64n (by omega) (by omega))) ?_
        refine l_val (v := Nx (k + 1)) rfl rfl rfl (e_assign) ?_
        refine l_nil ?_
        exact f_cut ⟨k + 1, ⟨⟨rfl, rfl, rfl⟩, rfl, ⟨by omega, take_next hx4 (by rw [hx10]; simpa using (Decidable.not_not.1 hc15).symm) hp2⟩⟩, (show xs.length - (k + 1) < xs.length - k from by omega)⟩
    ·
      refine c_exit ?_
      refine f_then_exit ?_
      refine f_then_exit ?_
      refine f_exit ?_
      refine f_then ?_
      refine c_seq ?_
      refine c_region ?_
      refine l_val (v := .bool true) rfl rfl rfl (e_assign) ?_
      refine l_nil ?_
      refine f_then ?_
      refine c_ret ?_
      refine ret1 Tryz.results8 (v := .bool true) rfl ?_
      intro w hw
      exact ⟨bool_t (take_all hp2 (by omega) (by omega)), st_mask [] rfl hw⟩
theorem equal_ok (β : Base) (w : World) (hw : St β [] w) (v v' : Value) (xs ys : List UInt64) (hx : Sl U64R β.heap v xs) (hy : Sl U64R β.heap v' ys) : Calls Tryz.prog 17 #[v, v'] w fun e w' => e = .returned (.bool (decide (xs = ys))) ∧ St β [] w' := by
  obtain ⟨va, vc, rfl, vl, vm, ve⟩ := hx.get
  obtain ⟨v'a, v'c, rfl, v'l, v'm, v'e⟩ := hy.get
  refine enter (n := 26) Tryz.func17 rfl Tryz.ntmps17 rfl ?_ hw
  refine c_seq ?_
  refine c_region ?_
  refine l_val (v := .bool false) rfl rfl rfl (e_assign) ?_
  refine l_nil ?_
  refine f_then ?_
  refine c_seq ?_
  refine c_seq ?_
  refine c_region ?_
  refine l_val (v := .slice va (xs.length) (vc)) rfl rfl rfl (e_move) ?_
  refine l_val (v := Nx (xs.length)) rfl rfl rfl (e_len (a := va) (n := xs.length) (c := vc) rfl tf40) ?_
  refine l_val (v := .slice v'a (ys.length) (v'c)) rfl rfl rfl (e_move) ?_
  refine l_val (v := Nx (ys.length)) rfl rfl rfl (e_len (a := v'a) (n := ys.length) (c := v'c) rfl tf40) ?_
  refine l_val (v := .bool (decide (((xs.length : Nat) : Int) ≠ ((ys.length : Nat) : Int)))) rfl rfl rfl (e_neq (a := ((xs.length : Nat) : Int)) (b := ((ys.length : Nat) : Int)) rfl rfl) ?_
  refine l_nil ?_
  refine f_then ?_
  refine c_if (((xs.length : Nat) : Int) ≠ ((ys.length : Nat) : Int)) rfl (fun hc1 => ?_) (fun hc1 => ?_)
  ·
    refine c_seq ?_
    refine c_region ?_
    refine l_val (v := .bool false) rfl rfl rfl (e_assign) ?_
    refine l_nil ?_
    refine f_then ?_
    refine c_ret ?_
    refine f_then_ret ?_
    refine ret1 Tryz.results17 (v := .bool false) rfl ?_
    intro w hw
    exact ⟨bool_f (fun h => by subst h; omega), st_mask [] rfl hw⟩
  ·
    refine c_skip ?_
    refine f_then ?_
    refine c_seq ?_
    refine c_seq ?_
    refine c_region ?_
    refine l_val (v := .slice va (xs.length) (vc)) rfl rfl rfl (e_move) ?_
    refine l_val (v := Nx (xs.length)) rfl rfl rfl (e_len (a := va) (n := xs.length) (c := vc) rfl tf40) ?_
    refine l_val (v := .int .i64 (0)) rfl rfl rfl (e_move) ?_
    refine l_nil ?_
    refine f_then ?_
    refine c_block ?_
    refine c_loop (fun (k : Nat) (f : Fm) (L : List Res) => (f 0 = .slice va (xs.length) (vc) ∧ f 1 = .slice v'a (ys.length) (v'c) ∧ f 12 = Nx (xs.length) ∧ f 13 = Nx (k)) ∧ L = [] ∧ (k ≤ xs.length ∧ xs.take (k) = ys.take (k))) (fun (k : Nat) => xs.length - k) 0 ?_ ?_
    · exact ⟨⟨rfl, rfl, rfl, rfl⟩, rfl, ⟨by omega, rfl⟩⟩
    rintro k f0 L0 ⟨⟨hs0, hs1, hs12, hs13⟩, hL, ⟨hp1, hp2⟩⟩
    subst L0
    refine rebase (d := 0) hs0 ?_
    refine rebase (d := 1) hs1 ?_
    refine rebase (d := 12) hs12 ?_
    refine rebase (d := 13) hs13 ?_
    clear hs0 hs1 hs12 hs13
    refine c_seq ?_
    refine c_region ?_
    refine l_val (v := .bool (decide (((k : Nat) : Int) < ((xs.length : Nat) : Int)))) rfl rfl rfl (e_lss (a := ((k : Nat) : Int)) (b := ((xs.length : Nat) : Int)) rfl rfl) ?_
    refine l_nil ?_
    refine f_then ?_
    refine c_seq ?_
    refine c_if (((k : Nat) : Int) < ((xs.length : Nat) : Int)) rfl (fun hc2 => ?_) (fun hc2 => ?_)
    ·
      refine c_skip ?_
      refine f_then ?_
      refine c_seq ?_
      refine c_block ?_
      refine c_seq ?_
      refine c_region ?_
      refine l_val (v := Nx (k)) rfl rfl rfl (e_move) ?_
      refine l_val (v := Nx (k)) rfl rfl rfl (e_assign) ?_
      refine l_nil ?_
      refine f_then ?_
      refine c_seq ?_
      refine c_quiet (by kernel_rfl) (by kernel_rfl) ?_
      refine q_val (v := .slice va (xs.length) (vc)) rfl rfl rfl (e_move) ?_
      refine q_val (v := Nx (k)) rfl rfl rfl (e_move) ?_
      obtain ⟨x3, hx4⟩ : ∃ x_, (xs)[k]? = some x_ := ⟨_, List.getElem?_eq_getElem (by omega)⟩
      obtain ⟨ha5, cs6, hc7, rfl⟩ := ve _ _ hx4
      refine q_val (v := .pointer (some ((ba va).add (k * 1)))) rfl rfl rfl (e_indexAddr (k := k) (len := xs.length) (cap := vc) (a := va) rfl rfl tf41 (by omega) ha5) ?_
      refine q_val (v := Ux (x3)) rfl rfl rfl (e_load1 tf5 (v := Ux (x3)) rfl (Knows.of_base (Cs.mono _ _) hc7)) ?_
      refine q_val (v := .slice v'a (ys.length) (v'c)) rfl rfl rfl (e_move) ?_
      refine q_val (v := Nx (k)) rfl rfl rfl (e_move) ?_
      obtain ⟨x9, hx10⟩ : ∃ x_, (ys)[k]? = some x_ := ⟨_, List.getElem?_eq_getElem (by omega)⟩
      obtain ⟨ha11, cs12, hc13, rfl⟩ := v'e _ _ hx10
      refine q_val (v := .pointer (some ((ba v'a).add (k * 1)))) rfl rfl rfl (e_indexAddr (k := k) (len := ys.length) (cap := v'c) (a := v'a) rfl rfl tf41 (by omega) ha11) ?_
      refine q_val (v := Ux (x9)) rfl rfl rfl (e_load1 tf5 (v := Ux (x9)) rfl (Knows.of_base (Cs.mono _ _) hc13)) ?_
      refine q_val (v := .bool (decide (((x3).toNat : Int) ≠ ((x9).toNat : Int)))) rfl rfl rfl (e_neq (a := ((x3).toNat : Int)) (b := ((x9).toNat : Int)) rfl rfl) ?_
      refine q_nil ?_
      refine f_then ?_
      refine c_if (((x3).toNat : Int) ≠ ((x9).toNat : Int)) rfl (fun hc15 => ?_) (fun hc15 => ?_)
      ·
        refine c_seq ?_
        refine c_region ?_
        refine l_val (v := .bool false) rfl rfl rfl (e_assign) ?_
        refine l_nil ?_
        refine f_then ?_
        refine c_ret ?_
        refine f_block_ret ?_
        refine f_then_ret ?_
        refine f_then_ret ?_
        refine f_block_ret ?_
        refine f_then_ret ?_
        refine ret1 Tryz.results17 (v := .bool false) rfl ?_
        intro w hw
        exact ⟨bool_f (list_ne hx4 hx10 (fun e => hc15 (by rw [e]))), st_mask [] rfl hw⟩
      ·
        refine c_skip ?_
        refine f_block ?_
        refine f_then ?_
        refine c_region ?_
        refine l_val (v := Nx (k + 1)) rfl rfl rfl (e_add (a := ((k : Nat) : Int)) (b := (1 : Int)) rfl rfl (i64n (by omega) (by omega))) ?_
        refine l_val (v := Nx (k + 1)) rfl rfl rfl (e_move) ?_
        refine l_nil ?_
        exact f_cut ⟨k + 1, ⟨⟨rfl, rfl, rfl, rfl⟩, rfl, ⟨by omega, take_next hx4 (by rw [hx10]; exact congrArg some (UInt64.toNat_inj.1 (by have := Decidable.not_not.1 hc15; omega)).symm) hp2⟩⟩, (show xs.length - (k + 1) < xs.length - k from by omega)⟩
    ·
      refine c_exit ?_
      refine f_then_exit ?_
      refine f_then_exit ?_
      refine f_exit ?_
      refine f_then ?_
      refine c_seq ?_
      refine c_region ?_
      refine l_val (v := .bool true) rfl rfl rfl (e_assign) ?_
      refine l_nil ?_
      refine f_then ?_
      refine c_ret ?_
      refine ret1 Tryz.results17 (v := .bool true) rfl ?_
      intro w hw
      exact ⟨bool_t (take_all hp2 (by omega) (by omega)), st_mask [] rfl hw⟩
end Go.Proofs
