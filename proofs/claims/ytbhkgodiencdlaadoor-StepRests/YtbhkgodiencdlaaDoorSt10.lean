/-
 StepRests, walked. Printed by a program of my own.
-/
import Derived.Test.YtbhkgodiencdlaaDoorSt9
import Derived.Test.YtbhkgodiencdlaaDoorStRest
namespace Go.Proofs
open Go Go.Sl Go.Stp
theorem tf114 : lay Tryd.prog 10000 31 = some [.int .i64, .int .i64, .int .i64, .int .i64, .int .i64, .int .i64, .int .i64, .bool, .bool] := by kernel_rfl
theorem tf115 : isAggT Tryd.prog 31 = true := by kernel_rfl
theorem tf116 : Tryd.prog.eqGuardType Tryd.prog.depth 31 = false := by kernel_rfl
theorem tf117 : cfB Tryd.prog 14 = true := by kernel_rfl
theorem tf118 : Tryd.prog.underlying 42 = some (.int .u16) := by kernel_rfl
theorem tf119 : Tryd.prog.underlying 41 = some (.slice 5) := by kernel_rfl
theorem tf120 : slB Tryd.prog 41 5 1 = true := by kernel_rfl
theorem tf121 : Tryd.prog.underlying 5 = some (.int .u8) := by kernel_rfl
theorem tf122 : cfB Tryd.prog 20 = true := by kernel_rfl
theorem tf123 : fldB Tryd.prog 45 0 0 1 false = true := by kernel_rfl
set_option maxHeartbeats 4000000 in
theorem sameB_ok (β : Base) (w : World) (hw : St β [] w) (v u : Value) (xs ys : List KB) (hs : Sl KBR β.heap v xs) (hr : Sl KBR β.heap u ys) : Calls Tryd.prog 20 #[v, u] w fun r w' => r = .returned (.bool (decide (xs = ys))) ∧ St β [] w' := by
 obtain ⟨va, vc, rfl, vl, vm, ve⟩ := hs.get
 obtain ⟨ua, uc, rfl, ul, um, ue⟩ := hr.get
 refine enter (n := 26) Tryd.func20 rfl Tryd.ntmps20 rfl ?_ hw
 refine c_seq ?_
 refine c_region ?_
 refine l_val (v := .bool false) rfl rfl rfl (e_assign) ?_
 refine l_nil ?_
 refine f_then ?_
 refine c_seq ?_
 refine c_seq ?_
 refine c_region ?_
 refine l_val (v := .slice va (xs.length) (vc)) rfl rfl rfl (e_move) ?_
 refine l_val (v := Nx (xs.length)) rfl rfl rfl (e_len (a := va) (n := xs.length) (c := vc) rfl tf40) ?_
 refine l_val (v := .slice ua (ys.length) (uc)) rfl rfl rfl (e_move) ?_
 refine l_val (v := Nx (ys.length)) rfl rfl rfl (e_len (a := ua) (n := ys.length) (c := uc) rfl tf40) ?_
 refine l_val (v := .bool (decide (((xs.length : Nat) : Int) ≠ ((ys.length : Nat) : Int)))) rfl rfl rfl (e_neq (a := ((xs.length : Nat) : Int)) (b := ((ys.length : Nat) : Int)) rfl rfl) ?_
 refine l_nil ?_
 refine f_then ?_
 refine c_if (((xs.length : Nat) : Int) ≠ ((ys.length : Nat) : Int)) rfl (fun hc1 => ?_) (fun hc1 => ?_)
 ·
  refine c_seq ?_
  refine c_region ?_
  refine l_val (v := .bool false) rfl rfl rfl (e_assign) ?_
  refine l_nil ?_
  refine f_then ?_
  refine c_ret ?_
  refine f_then_ret ?_
  refine ret1 Tryd.results20 (v := .bool false) rfl ?_
  intro w hw
  exact ⟨bool_f (fun h => by subst h; omega), st_mask [] rfl hw⟩
 ·
  refine c_skip ?_
  refine f_then ?_
  refine c_seq ?_
  refine c_seq ?_
  refine c_region ?_
  refine l_val (v := .int .i64 (0)) rfl rfl rfl (e_assign) ?_
  refine l_nil ?_
  refine f_then ?_
  refine c_block ?_
  refine c_loop (fun (k : Nat) (f : Fm) (L : List Res) => (f 0 = .slice va (xs.length) (vc) ∧ f 1 = .slice ua (ys.length) (uc) ∧ f 5 = Nx (k)) ∧ L = [] ∧ (k ≤ xs.length ∧ xs.take k = ys.take k)) (fun (k : Nat) => xs.length - k) 0 ?_ ?_
  ·exact ⟨⟨rfl, rfl, rfl⟩, rfl, ⟨by omega, rfl⟩⟩
  rintro k f0 L0 ⟨⟨hs0, hs1, hs5⟩, hL, ⟨hk, hp⟩⟩
  subst L0
  refine rebase (d := 0) hs0 ?_
  refine rebase (d := 1) hs1 ?_
  refine rebase (d := 5) hs5 ?_
  clear hs0 hs1 hs5
  refine c_seq ?_
  refine c_seq ?_
  refine c_region ?_
  refine l_val (v := Nx (k)) rfl rfl rfl (e_move) ?_
  refine l_val (v := .slice va (xs.length) (vc)) rfl rfl rfl (e_move) ?_
  refine l_val (v := Nx (xs.length)) rfl rfl rfl (e_len (a := va) (n := xs.length) (c := vc) rfl tf40) ?_
  refine l_val (v := .bool (decide (((k : Nat) : Int) < ((xs.length : Nat) : Int)))) rfl rfl rfl (e_lss (a := ((k : Nat) : Int)) (b := ((xs.length : Nat) : Int)) rfl rfl) ?_
  refine l_nil ?_
  refine f_then ?_
  refine c_if (((k : Nat) : Int) < ((xs.length : Nat) : Int)) rfl (fun hc2 => ?_) (fun hc2 => ?_)
  ·
   refine c_skip ?_
   refine f_then ?_
   refine c_seq ?_
   refine c_block ?_
   refine c_seq ?_
   refine c_quiet (by kernel_rfl) (by kernel_rfl) ?_
   refine q_val (v := .slice va (xs.length) (vc)) rfl rfl rfl (e_move) ?_
   refine q_val (v := Nx (k)) rfl rfl rfl (e_move) ?_
   obtain ⟨x3, hx4⟩ : ∃ x_, (xs)[k]? = some x_ := ⟨_, List.getElem?_eq_getElem (by omega)⟩
   obtain ⟨ha5, cs6, hc7, rfl⟩ := ve _ _ hx4
   refine q_val (v := .pointer (some ((ba va).add (k * 9)))) rfl rfl rfl (e_indexAddr (k := k) (len := xs.length) (cap := vc) (a := va) rfl rfl tf43 (by omega) ha5) ?_
   refine q_val (v := .agg (bC x3)) rfl rfl rfl (e_load tf22 (cs := (bodyE x3)) rfl (Knows.of_base (Cs.mono _ _) hc7) rfl) ?_
   refine q_val (v := .slice ua (ys.length) (uc)) rfl rfl rfl (e_move) ?_
   refine q_val (v := Nx (k)) rfl rfl rfl (e_move) ?_
   obtain ⟨x9, hx10⟩ : ∃ x_, (ys)[k]? = some x_ := ⟨_, List.getElem?_eq_getElem (by omega)⟩
   obtain ⟨ha11, cs12, hc13, rfl⟩ := ue _ _ hx10
   refine q_val (v := .pointer (some ((ba ua).add (k * 9)))) rfl rfl rfl (e_indexAddr (k := k) (len := ys.length) (cap := uc) (a := ua) rfl rfl tf43 (by omega) ha11) ?_
   refine q_val (v := .agg (bC x9)) rfl rfl rfl (e_load tf22 (cs := (bodyE x9)) rfl (Knows.of_base (Cs.mono _ _) hc13) rfl) ?_
   refine q_val (v := .bool (decide (¬ (x3 = x9)))) rfl rfl rfl (e_neq_t (xs := (bodyE x3)) (ys := (bodyE x9)) tf114 tf115 tf116 rfl rfl rfl rfl (not_congr body_eq)) ?_
   refine q_nil ?_
   refine f_then ?_
   refine c_if (¬ (x3 = x9)) rfl (fun hc15 => ?_) (fun hc15 => ?_)
   ·
    refine c_seq ?_
    refine c_region ?_
    refine l_val (v := .bool false) rfl rfl rfl (e_assign) ?_
    refine l_nil ?_
    refine f_then ?_
    refine c_ret ?_
    refine f_block_ret ?_
    refine f_then_ret ?_
    refine f_then_ret ?_
    refine f_block_ret ?_
    refine f_then_ret ?_
    refine ret1 Tryd.results20 (v := .bool false) rfl ?_
    intro w hw
    exact ⟨bool_f (list_ne hx4 hx10 hc15), st_mask [] rfl hw⟩
   ·
    refine c_skip ?_
    refine f_block ?_
    refine f_then ?_
    refine c_region ?_
    refine l_val (v := Nx (k)) rfl rfl rfl (e_move) ?_
    refine l_val (v := Nx (k + 1)) rfl rfl rfl (e_add (a := ((k : Nat) : Int)) (b := (1 : Int)) rfl rfl (i64n (by omega) (by omega))) ?_
    refine l_val (v := Nx (k + 1)) rfl rfl rfl (e_assign) ?_
    refine l_nil ?_
    exact f_cut ⟨k + 1, ⟨⟨rfl, rfl, rfl⟩, rfl, ⟨by omega, take_next hx4 (by rw [hx10, Decidable.not_not.1 hc15]) hp⟩⟩, (show xs.length - (k + 1) < xs.length - k from by omega)⟩
  ·
   refine c_exit ?_
   refine f_then_exit ?_
   refine f_then_exit ?_
   refine f_exit ?_
   refine f_then ?_
   refine c_seq ?_
   refine c_region ?_
   refine l_val (v := .bool true) rfl rfl rfl (e_assign) ?_
   refine l_nil ?_
   refine f_then ?_
   refine c_ret ?_
   refine ret1 Tryd.results20 (v := .bool true) rfl ?_
   intro w hw
   exact ⟨bool_t (take_all hp (by omega) (by omega)), st_mask [] rfl hw⟩
theorem boxS_ok (β : Base) (w : World) (hw : St β [] w) (xs : List UInt8) (n : Nat) (x y : UInt8) (hx : xs[2 * n]? = some x) (hy : xs[2 * n + 1]? = some y) (nb : KB) (hnb : nb = sbox xs n) : Calls Tryd.prog 15 #[Nx (1 + 2 * n), Nx (x.toNat % (1 + x.toNat % 40 + 1)), Ix (top xs n + ((1 + y.toNat % 40 : Nat) : Int)), Nx (1 + x.toNat % 40), Nx (1 + y.toNat % 40), .int .i64 (0), .int .i64 (0)] w fun r w' => r = .returned (.agg (bC nb)) ∧ St β [] w' := by
 refine (box_ok β w hw _ _ _ _ _ _ _).mono ?_
 rintro r w' ⟨rfl, hw'⟩
 exact ⟨by rw [hnb, sbox_eq hx hy], hw'⟩
set_option maxHeartbeats 4000000 in
theorem rests_ok (β : Base) (w : World) (hw : St β [] w) (hG : GR β) (v : Value) (xs : List UInt8) (hs : Sl U8R β.heap v xs) (gr : Nat) (hgr : gr < 65536) : Calls Tryd.prog 5 #[v, .int .u16 ((gr : Nat) : Int)] w fun r w' => r = .returned (.bool true) ∧ St β [] w' := by
 obtain ⟨va, vc, rfl, vl, vm, ve⟩ := hs.get
 refine enter (n := 147) Tryd.func5 rfl Tryd.ntmps5 rfl ?_ hw
 refine c_seq ?_
 refine c_region ?_
 refine l_val (v := .bool false) rfl rfl rfl (e_assign) ?_
 refine l_nil ?_
 refine f_then ?_
 refine c_seq ?_
 refine c_seq ?_
 refine c_region ?_
 refine l_call rfl rfl rfl (cl_value (fst := []) (cap := []) (vs := []) (all := []) tf117 rfl rfl rfl) ?_
 intro w hw
 obtain ⟨β1, sb, kn, hw1, back⟩ := St.frame_all hw
 have hG1 := GR.mono sb hG
 refine (awake_ok β1 w hw1 hG1).mono ?_
 rintro e w' ⟨rfl, hw'⟩
 refine ⟨_, rfl, _, back _ _ hw', ?_⟩
 clear hw hw1 hw' back kn sb
 refine l_val (v := .bool false) rfl rfl rfl (e_not (a := true) rfl) ?_
 refine l_nil ?_
 refine f_then ?_
 refine c_no rfl ?_
 refine c_skip ?_
 refine f_then ?_
 refine c_seq ?_
 refine c_region ?_
 refine l_call rfl rfl rfl (cl_value (fst := []) (cap := []) (vs := [.int .i64 (0), .int .i64 (0), .int .i64 (-5), .int .i64 (1000), .int .i64 (5), .int .i64 (0), .int .i64 (0)]) (all := [.int .i64 (0), .int .i64 (0), .int .i64 (-5), .int .i64 (1000), .int .i64 (5), .int .i64 (0), .int .i64 (0)]) tf103 rfl rfl rfl) ?_
 intro w hw
 obtain ⟨β1, sb, kn, hw1, back⟩ := St.frame_all hw
 refine (box_ok β1 w hw1 (0 : Int) (0 : Int) (-5 : Int) (1000 : Int) (5 : Int) (0 : Int) (0 : Int)).mono ?_
 rintro e w' ⟨rfl, hw'⟩
 refine ⟨_, rfl, _, back _ _ hw', ?_⟩
 clear hw hw1 hw' back kn sb
 refine l_call rfl rfl rfl (cl_value (fst := []) (cap := []) (vs := [.agg #[.int .i64 (0), .int .i64 (0), .int .i64 (-5), .int .i64 (0), .int .i64 (0), .int .i64 (1000), .int .i64 (5), .bool false, .bool false]]) (all := [.agg #[.int .i64 (0), .int .i64 (0), .int .i64 (-5), .int .i64 (0), .int .i64 (0), .int .i64 (1000), .int .i64 (5), .bool false, .bool false]]) tf107 rfl rfl rfl) ?_
 intro w hw
 obtain ⟨β1, sb, kn, hw1, back⟩ := St.frame_all hw
 refine (fixed_ok β1 w hw1 (⟨0, 0, -5, 0, 0, 1000, 5, false, false⟩ : KB)).mono ?_
 rintro e w' ⟨rfl, hw'⟩
 refine ⟨_, rfl, _, back _ _ hw', ?_⟩
 clear hw hw1 hw' back kn sb
 refine l_mv rfl rfl rfl (m_slices tf43 tf58 (vs := [(0, .agg #[.int .i64 (0), .int .i64 (0), .int .i64 (-5), .int .i64 (0), .int .i64 (0), .int .i64 (1000), .int .i64 (5), .bool false, .bool true])]) (cells := #[.int .i64 (0), .int .i64 (0), .int .i64 (-5), .int .i64 (0), .int .i64 (0), .int .i64 (1000), .int .i64 (5), .bool false, .bool true]) rfl rfl rfl (by kernel_rfl)) ?_
 rintro _ _ ⟨b1, rfl, rfl⟩
 refine l_val (v := .int .u16 (((gr : Nat)) : Int)) rfl rfl rfl (e_move) ?_
 refine l_val (v := Nx (gr)) rfl rfl rfl (e_conv (a := ((gr : Nat) : Int)) rfl ⟨_, tf118⟩ tf41 (i64n rfl (by omega))) ?_
 refine l_val (v := Nx (gr % 4096)) rfl rfl rfl (e_rem (a := ((gr : Nat) : Int)) (b := (4096 : Int)) rfl rfl (by decide) (nat_tmod _ 4096)) ?_
 refine l_val (v := Ix ((-1 : Int) - ((gr % 4096 : Nat) : Int))) rfl rfl rfl (e_sub (a := (-1 : Int)) (b := ((gr % 4096 : Nat) : Int)) rfl rfl (i64w (by omega))) ?_
 refine l_val (v := .agg #[.int .i64 (0), Ix ((-1 : Int) - ((gr % 4096 : Nat) : Int))]) rfl rfl rfl (e_build tf17 tf16 (vs := [(1, Ix ((-1 : Int) - ((gr % 4096 : Nat) : Int)))]) (cells := #[.int .i64 (0), Ix ((-1 : Int) - ((gr % 4096 : Nat) : Int))]) rfl rfl) ?_
 refine l_val (v := .agg #[.slice (some ⟨b1, 0, none⟩) 1 1, .slice none 0 0, .int .i64 (0), Ix ((-1 : Int) - ((gr % 4096 : Nat) : Int))]) rfl rfl rfl (e_build tf85 tf88 (vs := [(0, .slice (some ⟨b1, 0, none⟩) 1 1), (2, .agg #[.int .i64 (0), Ix ((-1 : Int) - ((gr % 4096 : Nat) : Int))])]) (cells := #[.slice (some ⟨b1, 0, none⟩) 1 1, .slice none 0 0, .int .i64 (0), Ix ((-1 : Int) - ((gr % 4096 : Nat) : Int))]) rfl rfl) ?_
 refine l_mv rfl rfl rfl (m_alloc tf85) ?_
 rintro _ _ ⟨b2, rfl, rfl⟩
 refine l_mu rfl rfl (m_store 0 tf86 (b := b2) (o := 0) (T := 27) (cs := #[.slice none 0 0, .slice none 0 0, .int .i64 (0), .int .i64 (0)]) (cs' := #[.slice (some ⟨b1, 0, none⟩) 1 1, .slice none 0 0, .int .i64 (0), Ix ((-1 : Int) - ((gr % 4096 : Nat) : Int))]) (v := .agg #[.slice (some ⟨b1, 0, none⟩) 1 1, .slice none 0 0, .int .i64 (0), Ix ((-1 : Int) - ((gr % 4096 : Nat) : Int))]) rfl rfl rfl rfl rfl rfl rfl) ?_
 refine l_nil ?_
 refine f_then ?_
 refine c_seq ?_
 obtain ⟨gy, hgy⟩ : ∃ z, z = (-1 : Int) - ((gr % 4096 : Nat) : Int) := ⟨_, rfl⟩
 rw [← hgy]
 have hg : -4096 ≤ gy ∧ gy < 0 := by omega
 refine c_conseq 1 (r' := rowF BodyF 31 (some ⟨b1, 0, none⟩) 1 (stackTo xs 0)) rfl (pt_rowF (F := BodyF) (xs := (stackTo xs 0)) rfl (by rw [stackTo_len]; decide)) ?_
 refine c_region ?_
 refine l_val (v := .int .i64 (0)) rfl rfl rfl (e_assign) ?_
 refine l_nil ?_
 refine f_then ?_
 refine c_seq_cut (fun (f : Fm) (L : List Res) => ∃ (n : Nat) (p : Option Addr) (c : Nat), (f 5 = .pointer (some ⟨b2, 0, none⟩)) ∧ L = [pt b2 (.cells #[.slice p (n + 1) c, .slice none 0 0, .int .i64 (0), Ix (gy)] 27), rowF BodyF 31 p c (stackTo xs n)] ∧ (n ≤ 10)) ?_ ?_
 ·
  refine c_seq ?_
  refine c_region ?_
  refine l_val (v := .int .i64 (0)) rfl rfl rfl (e_assign) ?_
  refine l_nil ?_
  refine f_then ?_
  refine c_block ?_
  refine c_mask [true, true] rfl ?_
  refine c_loop (fun (x_ : Nat × Option Addr × Nat) (f : Fm) (L : List Res) => match x_ with | (n, p, c) => (f 0 = .slice va (xs.length) (vc) ∧ f 5 = .pointer (some ⟨b2, 0, none⟩) ∧ f 6 = Ix (top xs n) ∧ f 7 = Nx (2 * n)) ∧ L = [pt b2 (.cells #[.slice p (n + 1) c, .slice none 0 0, .int .i64 (0), Ix (gy)] 27), rowF BodyF 31 p c (stackTo xs n)] ∧ (n ≤ 10 ∧ 2 * n ≤ xs.length)) (fun (x_ : Nat × Option Addr × Nat) => match x_ with | (n, p, c) => xs.length - 2 * n) (0, (some ⟨b1, 0, none⟩), 1) ?_ ?_
  ·exact ⟨⟨rfl, rfl, rfl, rfl⟩, rfl, ⟨by omega, by omega⟩⟩
  rintro ⟨n, p, c⟩ f0 L0 ⟨⟨hs0, hs5, hs6, hs7⟩, hL, ⟨hn, hnx⟩⟩
  subst L0
  refine rebase (d := 0) hs0 ?_
  refine rebase (d := 5) hs5 ?_
  refine rebase (d := 6) hs6 ?_
  refine rebase (d := 7) hs7 ?_
  clear hs0 hs5 hs6 hs7
  have hsl := stackTo_len xs n
  have htb := top_bd (sz := xs) n
  refine c_seq ?_
  refine c_seq ?_
  refine c_region ?_
  refine l_val (v := Nx (2 * n)) rfl rfl rfl (e_move) ?_
  refine l_val (v := Nx ((2 * n) + 1)) rfl rfl rfl (e_add (a := ((2 * n : Nat) : Int)) (b := (1 : Int)) rfl rfl (i64n (by omega) (by omega))) ?_
  refine l_val (v := .slice va (xs.length) (vc)) rfl rfl rfl (e_move) ?_
  refine l_val (v := Nx (xs.length)) rfl rfl rfl (e_len (a := va) (n := xs.length) (c := vc) rfl tf119) ?_
  refine l_val (v := .bool (decide ((((2 * n) + 1 : Nat) : Int) < ((xs.length : Nat) : Int)))) rfl rfl rfl (e_lss (a := (((2 * n) + 1 : Nat) : Int)) (b := ((xs.length : Nat) : Int)) rfl rfl) ?_
  refine l_val (v := .bool (decide ((((2 * n) + 1 : Nat) : Int) < ((xs.length : Nat) : Int)))) rfl rfl rfl (e_move) ?_
  refine l_split (s := 32) (p := (((2 * n) + 1 : Nat) : Int) < ((xs.length : Nat) : Int)) rfl (fun hg3 => ?_) (fun hg3 => ?_)
  ·
   refine g_val (v := Nx (2 * n)) rfl rfl rfl rfl rfl (e_move) ?_
   refine g_val (v := .bool (decide (((2 * n : Nat) : Int) < (20 : Int)))) rfl rfl rfl rfl rfl (e_lss (a := ((2 * n : Nat) : Int)) (b := (20 : Int)) rfl rfl) ?_
   refine l_val (v := .bool (decide (((2 * n : Nat) : Int) < (20 : Int)))) rfl rfl rfl (e_pick_t rfl) ?_
   refine l_nil ?_
   refine f_then ?_
   refine c_if (((2 * n : Nat) : Int) < (20 : Int)) rfl (fun hc4 => ?_) (fun hc4 => ?_)
   ·
    refine c_skip ?_
    refine f_then ?_
    refine c_seq ?_
    refine c_block ?_
    refine c_seq ?_
    refine c_quiet (by kernel_rfl) (by kernel_rfl) ?_
    refine q_val (v := .slice va (xs.length) (vc)) rfl rfl rfl (e_move) ?_
    refine q_val (v := Nx (2 * n)) rfl rfl rfl (e_move) ?_
    obtain ⟨x5, hx6⟩ : ∃ x_, (xs)[2 * n]? = some x_ := ⟨_, List.getElem?_eq_getElem (by omega)⟩
    obtain ⟨ha7, cs8, hc9, rfl⟩ := ve _ _ hx6
    refine q_val (v := .pointer (some ((ba va).add ((2 * n) * 1)))) rfl rfl rfl (e_indexAddr (k := 2 * n) (len := xs.length) (cap := vc) (a := va) rfl rfl tf120 (by omega) ha7) ?_
    refine q_val (v := Bx (x5)) rfl rfl rfl (e_load1 tf97 (v := Bx (x5)) rfl (Knows.of_base (Cs.mono _ _) hc9)) ?_
    refine q_val (v := Nx (x5.toNat)) rfl rfl rfl (e_conv (a := ((x5).toNat : Int)) rfl ⟨_, tf121⟩ tf41 (i64n rfl (by have := (x5).toNat_lt; omega))) ?_
    refine q_val (v := Nx (x5.toNat % 40)) rfl rfl rfl (e_rem (a := ((x5.toNat : Nat) : Int)) (b := (40 : Int)) rfl rfl (by decide) (nat_tmod _ 40)) ?_
    refine q_val (v := Nx (1 + (x5.toNat % 40))) rfl rfl rfl (e_add (a := (1 : Int)) (b := ((x5.toNat % 40 : Nat) : Int)) rfl rfl (i64n (by omega) (by omega))) ?_
    refine q_val (v := .slice va (xs.length) (vc)) rfl rfl rfl (e_move) ?_
    refine q_val (v := Nx (2 * n)) rfl rfl rfl (e_move) ?_
    refine q_val (v := Nx ((2 * n) + 1)) rfl rfl rfl (e_add (a := ((2 * n : Nat) : Int)) (b := (1 : Int)) rfl rfl (i64n (by omega) (by omega))) ?_
    obtain ⟨x11, hx12⟩ : ∃ x_, (xs)[(2 * n) + 1]? = some x_ := ⟨_, List.getElem?_eq_getElem (by omega)⟩
    obtain ⟨ha13, cs14, hc15, rfl⟩ := ve _ _ hx12
    refine q_val (v := .pointer (some ((ba va).add (((2 * n) + 1) * 1)))) rfl rfl rfl (e_indexAddr (k := (2 * n) + 1) (len := xs.length) (cap := vc) (a := va) rfl rfl tf120 (by omega) ha13) ?_
    refine q_val (v := Bx (x11)) rfl rfl rfl (e_load1 tf97 (v := Bx (x11)) rfl (Knows.of_base (Cs.mono _ _) hc15)) ?_
    refine q_val (v := Nx (x11.toNat)) rfl rfl rfl (e_conv (a := ((x11).toNat : Int)) rfl ⟨_, tf121⟩ tf41 (i64n rfl (by have := (x11).toNat_lt; omega))) ?_
    refine q_val (v := Nx (x11.toNat % 40)) rfl rfl rfl (e_rem (a := ((x11.toNat : Nat) : Int)) (b := (40 : Int)) rfl rfl (by decide) (nat_tmod _ 40)) ?_
    refine q_val (v := Nx (1 + (x11.toNat % 40))) rfl rfl rfl (e_add (a := (1 : Int)) (b := ((x11.toNat % 40 : Nat) : Int)) rfl rfl (i64n (by omega) (by omega))) ?_
    refine q_val (v := Nx (1 + (x5.toNat % 40))) rfl rfl rfl (e_assign) ?_
    refine q_val (v := Nx (1 + (x11.toNat % 40))) rfl rfl rfl (e_assign) ?_
    refine q_nil ?_
    refine f_then ?_
    refine c_seq ?_
    obtain ⟨nb, hnb⟩ : ∃ z, z = sbox xs n := ⟨_, rfl⟩
    refine c_any [⟨[], [], [0], [53], fun f => f 53 = .pointer (some ⟨b2, 0, none⟩)⟩, ⟨[0], [0], [], [54], fun f => f 54 = .slice p (n + 1) c⟩, ⟨[], [], [1], [55], fun f => f 55 = Nx (2 * n)⟩, ⟨[2], [2], [], [56], fun f => f 56 = Nx (1 + (2 * n))⟩, ⟨[], [], [2], [57], fun f => f 57 = .slice va (xs.length) (vc)⟩, ⟨[], [], [1], [58], fun f => f 58 = Nx (2 * n)⟩, ⟨[4, 5], [4, 5], [], [59], fun f => f 59 = .pointer (some ((ba va).add ((2 * n) * 1)))⟩, ⟨[4, 5, 6], [6], [], [60], fun f => f 60 = Bx (x5)⟩, ⟨[4, 5, 6, 7], [7], [], [61], fun f => f 61 = Nx (x5.toNat)⟩, ⟨[], [], [3], [62], fun f => f 62 = Nx (1 + (x5.toNat % 40))⟩, ⟨[9], [9], [], [63], fun f => f 63 = Nx ((1 + (x5.toNat % 40)) + 1)⟩, ⟨[4, 5, 6, 7, 8, 9, 10], [8, 10], [], [64], fun f => f 64 = Nx (x5.toNat % ((1 + (x5.toNat % 40)) + 1))⟩, ⟨[], [], [4], [65], fun f => f 65 = Ix (top xs n)⟩, ⟨[], [], [5], [66], fun f => f 66 = Nx (1 + (x11.toNat % 40))⟩, ⟨[12, 13], [12, 13], [], [67], fun f => f 67 = Ix ((top xs n) + ((1 + (x11.toNat % 40) : Nat) : Int))⟩, ⟨[], [], [3], [68], fun f => f 68 = Nx (1 + (x5.toNat % 40))⟩, ⟨[], [], [5], [69], fun f => f 69 = Nx (1 + (x11.toNat % 40))⟩, ⟨[2, 3, 4, 5, 6, 7, 8, 9, 10, 11, 12, 13, 14, 15, 16], [3, 11, 14, 15, 16], [], [70], fun f => f 70 = .agg (bC nb)⟩, ⟨[2, 3, 4, 5, 6, 7, 8, 9, 10, 11, 12, 13, 14, 15, 16, 17], [17], [], [71], fun f => f 71 = .slice (some ⟨(blk (f 71)), 0, none⟩) 1 1⟩, ⟨[0, 1, 2, 3, 4, 5, 6, 7, 8, 9, 10, 11, 12, 13, 14, 15, 16, 17, 18], [1, 18], [], [72], fun f => f 72 = .slice (sla (f 72)) (((stackTo xs n) ++ [nb]).length) (slc (f 72))⟩, ⟨[0, 1, 2, 3, 4, 5, 6, 7, 8, 9, 10, 11, 12, 13, 14, 15, 16, 17, 18, 19], [], [0], [73], fun f => f 73 = .pointer (some ⟨b2, 0, none⟩)⟩, ⟨[0, 1, 2, 3, 4, 5, 6, 7, 8, 9, 10, 11, 12, 13, 14, 15, 16, 17, 18, 19, 20], [20, 19], [], [], fun _ => True⟩] [⟨none, (some 21), [1, 21], [], fun _ => pt b2 (.cells #[.slice p (n + 1) c, .slice none 0 0, .int .i64 (0), Ix (gy)] 27)⟩, ⟨none, (some 19), [19], [], fun _ => rowF BodyF 31 p c (stackTo xs n)⟩, ⟨(some 18), none, [19], [71], fun f => pt (blk (f 71)) (.cells (bC nb) 31)⟩, ⟨(some 19), none, [], [72], fun f => rowF BodyF 31 (sla (f 72)) (slc (f 72)) ((stackTo xs n) ++ [nb])⟩, ⟨(some 21), none, [], [72], fun f => pt b2 (.cells #[.slice (sla (f 72)) (((stackTo xs n) ++ [nb]).length) (slc (f 72)), .slice none 0 0, .int .i64 (0), Ix (gy)] 27)⟩] [(5, .pointer (some ⟨b2, 0, none⟩)), (7, Nx (2 * n)), (0, .slice va (xs.length) (vc)), (8, Nx (1 + (x5.toNat % 40))), (6, Ix (top xs n)), (9, Nx (1 + (x11.toNat % 40)))] [2, 0, 4, 1, 5] [] (by kernel_rfl) (by kernel_rfl) (by kernel_rfl) (by kernel_rfl) rfl ⟨rfl, rfl, rfl, rfl, rfl, rfl, trivial⟩ ⟨?_, ?_, ?_, ?_, ?_, ?_, ?_, ?_, ?_, ?_, ?_, ?_, ?_, ?_, ?_, ?_, ?_, ?_, ?_, ?_, ?_, ?_, trivial⟩ ?_
    ·rintro f M - ⟨i0, -⟩
     have hs5 : f 5 = .pointer (some ⟨b2, 0, none⟩) := i0
     refine ob_start (L' := M) (by rfl) (up_cons rfl hs5) ?_
     refine l_val (v := .pointer (some ⟨b2, 0, none⟩)) rfl rfl rfl (e_fieldPt (b := b2) (o := 0) rfl tf49) ?_
     refine l_nil ?_
     exact f_owes_d (up_cons rfl hs5) rfl (List.Perm.refl _)
    ·rintro f M ⟨k0, -⟩ -
     have hs53 : f 53 = .pointer (some ⟨b2, 0, none⟩) := k0
     refine ob_start (L' := pt b2 (.cells #[.slice p (n + 1) c, .slice none 0 0, .int .i64 (0), Ix (gy)] 27) :: M) (by rfl) (up_cons rfl hs53) ?_
     refine l_val (v := .slice p (n + 1) c) rfl rfl rfl (e_load1 tf50 (v := .slice p (n + 1) c) rfl (k_pt 0 (cs := #[.slice p (n + 1) c, .slice none 0 0, .int .i64 (0), Ix (gy)]) (vs := [.slice p (n + 1) c]) rfl rfl)) ?_
     refine l_nil ?_
     exact f_owes_d (up_cons rfl hs53) rfl (perm_front 0 rfl)
    ·rintro f M - ⟨i0, -⟩
     have hs7 : f 7 = Nx (2 * n) := i0
     refine ob_start (L' := M) (by rfl) (up_cons rfl hs7) ?_
     refine l_val (v := Nx (2 * n)) rfl rfl rfl (e_move) ?_
     refine l_nil ?_
     exact f_owes_d (up_cons rfl hs7) rfl (List.Perm.refl _)
    ·rintro f M ⟨k0, -⟩ -
     have hs55 : f 55 = Nx (2 * n) := k0
     refine ob_start (L' := M) (by rfl) (up_cons rfl hs55) ?_
     refine l_val (v := Nx (1 + (2 * n))) rfl rfl rfl (e_add (a := (1 : Int)) (b := ((2 * n : Nat) : Int)) rfl rfl (i64n (by omega) (by omega))) ?_
     refine l_nil ?_
     exact f_owes_d (up_cons rfl hs55) rfl (List.Perm.refl _)
    ·rintro f M - ⟨i0, -⟩
     have hs0 : f 0 = .slice va (xs.length) (vc) := i0
     refine ob_start (L' := M) (by rfl) (up_cons rfl hs0) ?_
     refine l_val (v := .slice va (xs.length) (vc)) rfl rfl rfl (e_move) ?_
     refine l_nil ?_
     exact f_owes_d (up_cons rfl hs0) rfl (List.Perm.refl _)
    ·rintro f M - ⟨i0, -⟩
     have hs7 : f 7 = Nx (2 * n) := i0
     refine ob_start (L' := M) (by rfl) (up_cons rfl hs7) ?_
     refine l_val (v := Nx (2 * n)) rfl rfl rfl (e_move) ?_
     refine l_nil ?_
     exact f_owes_d (up_cons rfl hs7) rfl (List.Perm.refl _)
    ·rintro f M ⟨k0, k1, -⟩ -
     have hs57 : f 57 = .slice va (xs.length) (vc) := k0
     have hs58 : f 58 = Nx (2 * n) := k1
     refine ob_start (L' := M) (by rfl) (up_cons (up_cons rfl hs57) hs58) ?_
     refine l_val (v := .pointer (some ((ba va).add ((2 * n) * 1)))) rfl rfl rfl (e_indexAddr (k := 2 * n) (len := xs.length) (cap := vc) (a := va) rfl rfl tf120 (by omega) ha7) ?_
     refine l_nil ?_
     exact f_owes_d (up_cons (up_cons rfl hs57) hs58) rfl (List.Perm.refl _)
    ·rintro f M ⟨k0, -⟩ -
     have hs59 : f 59 = .pointer (some ((ba va).add ((2 * n) * 1))) := k0
     refine ob_start (L' := M) (by rfl) (up_cons rfl hs59) ?_
     refine l_val (v := Bx (x5)) rfl rfl rfl (e_load1 tf97 (v := Bx (x5)) rfl (Knows.of_base (Cs.mono _ _) hc9)) ?_
     refine l_nil ?_
     exact f_owes_d (up_cons rfl hs59) rfl (List.Perm.refl _)
    ·rintro f M ⟨k0, -⟩ -
     have hs60 : f 60 = Bx (x5) := k0
     refine ob_start (L' := M) (by rfl) (up_cons rfl hs60) ?_
     refine l_val (v := Nx (x5.toNat)) rfl rfl rfl (e_conv (a := ((x5).toNat : Int)) rfl ⟨_, tf121⟩ tf41 (i64n rfl (by have := (x5).toNat_lt; omega))) ?_
     refine l_nil ?_
     exact f_owes_d (up_cons rfl hs60) rfl (List.Perm.refl _)
    ·rintro f M - ⟨i0, -⟩
     have hs8 : f 8 = Nx (1 + (x5.toNat % 40)) := i0
     refine ob_start (L' := M) (by rfl) (up_cons rfl hs8) ?_
     refine l_val (v := Nx (1 + (x5.toNat % 40))) rfl rfl rfl (e_move) ?_
     refine l_nil ?_
     exact f_owes_d (up_cons rfl hs8) rfl (List.Perm.refl _)
    ·rintro f M ⟨k0, -⟩ -
     have hs62 : f 62 = Nx (1 + (x5.toNat % 40)) := k0
     refine ob_start (L' := M) (by rfl) (up_cons rfl hs62) ?_
     refine l_val (v := Nx ((1 + (x5.toNat % 40)) + 1)) rfl rfl rfl (e_add (a := ((1 + (x5.toNat % 40) : Nat) : Int)) (b := (1 : Int)) rfl rfl (i64n (by omega) (by omega))) ?_
     refine l_nil ?_
     exact f_owes_d (up_cons rfl hs62) rfl (List.Perm.refl _)
    ·rintro f M ⟨k0, k1, -⟩ -
     have hs61 : f 61 = Nx (x5.toNat) := k0
     have hs63 : f 63 = Nx ((1 + (x5.toNat % 40)) + 1) := k1
     refine ob_start (L' := M) (by rfl) (up_cons (up_cons rfl hs61) hs63) ?_
     refine l_val (v := Nx (x5.toNat % ((1 + (x5.toNat % 40)) + 1))) rfl rfl rfl (e_rem (a := ((x5.toNat : Nat) : Int)) (b := (((1 + (x5.toNat % 40)) + 1 : Nat) : Int)) rfl rfl (by omega) (nat_tmod _ _)) ?_
     refine l_nil ?_
     exact f_owes_d (up_cons (up_cons rfl hs61) hs63) rfl (List.Perm.refl _)
    ·rintro f M - ⟨i0, -⟩
     have hs6 : f 6 = Ix (top xs n) := i0
     refine ob_start (L' := M) (by rfl) (up_cons rfl hs6) ?_
     refine l_val (v := Ix (top xs n)) rfl rfl rfl (e_move) ?_
     refine l_nil ?_
     exact f_owes_d (up_cons rfl hs6) rfl (List.Perm.refl _)
    ·rintro f M - ⟨i0, -⟩
     have hs9 : f 9 = Nx (1 + (x11.toNat % 40)) := i0
     refine ob_start (L' := M) (by rfl) (up_cons rfl hs9) ?_
     refine l_val (v := Nx (1 + (x11.toNat % 40))) rfl rfl rfl (e_move) ?_
     refine l_nil ?_
     exact f_owes_d (up_cons rfl hs9) rfl (List.Perm.refl _)
    ·rintro f M ⟨k0, k1, -⟩ -
     have hs65 : f 65 = Ix (top xs n) := k0
     have hs66 : f 66 = Nx (1 + (x11.toNat % 40)) := k1
     refine ob_start (L' := M) (by rfl) (up_cons (up_cons rfl hs65) hs66) ?_
     refine l_val (v := Ix ((top xs n) + ((1 + (x11.toNat % 40) : Nat) : Int))) rfl rfl rfl (e_add (a := (top xs n)) (b := ((1 + (x11.toNat % 40) : Nat) : Int)) rfl rfl (i64w (by omega))) ?_
     refine l_nil ?_
     exact f_owes_d (up_cons (up_cons rfl hs65) hs66) rfl (List.Perm.refl _)
    ·rintro f M - ⟨i0, -⟩
     have hs8 : f 8 = Nx (1 + (x5.toNat % 40)) := i0
     refine ob_start (L' := M) (by rfl) (up_cons rfl hs8) ?_
     refine l_val (v := Nx (1 + (x5.toNat % 40))) rfl rfl rfl (e_move) ?_
     refine l_nil ?_
     exact f_owes_d (up_cons rfl hs8) rfl (List.Perm.refl _)
    ·rintro f M - ⟨i0, -⟩
     have hs9 : f 9 = Nx (1 + (x11.toNat % 40)) := i0
     refine ob_start (L' := M) (by rfl) (up_cons rfl hs9) ?_
     refine l_val (v := Nx (1 + (x11.toNat % 40))) rfl rfl rfl (e_move) ?_
     refine l_nil ?_
     exact f_owes_d (up_cons rfl hs9) rfl (List.Perm.refl _)
    ·rintro f M ⟨k0, k1, k2, k3, k4, -⟩ -
     have hs56 : f 56 = Nx (1 + (2 * n)) := k0
     have hs64 : f 64 = Nx (x5.toNat % ((1 + (x5.toNat % 40)) + 1)) := k1
     have hs67 : f 67 = Ix ((top xs n) + ((1 + (x11.toNat % 40) : Nat) : Int)) := k2
     have hs68 : f 68 = Nx (1 + (x5.toNat % 40)) := k3
     have hs69 : f 69 = Nx (1 + (x11.toNat % 40)) := k4
     refine ob_start (L' := M) (by rfl) (up_cons (up_cons (up_cons (up_cons (up_cons rfl hs56) hs64) hs67) hs68) hs69) ?_
     refine l_call rfl rfl rfl (cl_value (fst := []) (cap := []) (vs := [Nx (1 + (2 * n)), Nx (x5.toNat % ((1 + (x5.toNat % 40)) + 1)), Ix ((top xs n) + ((1 + (x11.toNat % 40) : Nat) : Int)), Nx (1 + (x5.toNat % 40)), Nx (1 + (x11.toNat % 40)), .int .i64 (0), .int .i64 (0)]) (all := [Nx (1 + (2 * n)), Nx (x5.toNat % ((1 + (x5.toNat % 40)) + 1)), Ix ((top xs n) + ((1 + (x11.toNat % 40) : Nat) : Int)), Nx (1 + (x5.toNat % 40)), Nx (1 + (x11.toNat % 40)), .int .i64 (0), .int .i64 (0)]) tf103 rfl rfl rfl) ?_
     intro w hw
     obtain ⟨β1, sb, kn, hw1, back⟩ := St.frame_all hw
     refine (boxS_ok β1 w hw1 xs n x5 x11 hx6 hx12 nb hnb).mono ?_
     rintro e w' ⟨rfl, hw'⟩
     refine ⟨_, rfl, _, back _ _ hw', ?_⟩
     clear hw hw1 hw' back kn sb
     refine l_nil ?_
     exact f_owes_d (up_cons (up_cons (up_cons (up_cons (up_cons rfl hs56) hs64) hs67) hs68) hs69) rfl (List.Perm.refl _)
    ·rintro f M ⟨k0, -⟩ -
     have hs70 : f 70 = .agg (bC nb) := k0
     refine ob_start (L' := M) (by rfl) (up_cons rfl hs70) ?_
     refine l_mv rfl rfl rfl (m_slices tf43 tf58 (vs := [(0, .agg (bC nb))]) (cells := (bC nb)) rfl rfl rfl (by kernel_rfl)) ?_
     rintro _ _ ⟨b18, rfl, rfl⟩
     refine l_nil ?_
     exact f_owes_d (up_cons rfl hs70) rfl (perm_front 0 rfl)
    ·rintro f M ⟨k0, k1, -⟩ -
     have hs54 : f 54 = .slice p (n + 1) c := k0
     have hs71 : f 71 = .slice (some ⟨(blk (f 71)), 0, none⟩) 1 1 := k1
     refine ob_start (L' := rowF BodyF 31 p c (stackTo xs n) :: pt (blk (f 71)) (.cells (bC nb) 31) :: M) (by rfl) (up_cons (up_cons rfl hs54) hs71) ?_
     refine l_mv rfl rfl rfl (m_appendFlN (F := BodyF) 0 tf43 tf83 (p := p) (m := n + 1) (xs := (stackTo xs n)) (ys := [nb]) (ao := (some ⟨(blk (f 71)), 0, none⟩)) (k := 1) (c := 1) rfl (by omega) rfl rfl rfl (k_ptFl (z := nb) 1 rfl rfl) (by first | omega | simp only [List.length_nil, List.length_cons, List.length_append, List.length_set]; omega) (by first | omega | simp only [List.length_nil, List.length_cons, List.length_append, List.length_set]; omega)) ?_
     rintro _ _ ⟨rp21, rc22, rfl, rfl⟩
     refine l_nil ?_
     exact f_owes_d (up_cons (up_cons rfl hs54) hs71) rfl ((perm_front 0 rfl).trans (perm_front 1 rfl))
    ·rintro f M - ⟨i0, -⟩
     have hs5 : f 5 = .pointer (some ⟨b2, 0, none⟩) := i0
     refine ob_start (L' := M) (by rfl) (up_cons rfl hs5) ?_
     refine l_val (v := .pointer (some ⟨b2, 0, none⟩)) rfl rfl rfl (e_fieldPt (b := b2) (o := 0) rfl tf49) ?_
     refine l_nil ?_
     exact f_owes_d (up_cons rfl hs5) rfl (List.Perm.refl _)
    ·rintro f M ⟨k0, k1, -⟩ -
     have hs73 : f 73 = .pointer (some ⟨b2, 0, none⟩) := k0
     have hs72 : f 72 = .slice (sla (f 72)) (((stackTo xs n) ++ [nb]).length) (slc (f 72)) := k1
     refine ob_start (L' := pt b2 (.cells #[.slice p (n + 1) c, .slice none 0 0, .int .i64 (0), Ix (gy)] 27) :: M) (by rfl) (up_cons (up_cons rfl hs73) hs72) ?_
     refine l_mu rfl rfl (m_store 0 tf50 (b := b2) (o := 0) (T := 27) (cs := #[.slice p (n + 1) c, .slice none 0 0, .int .i64 (0), Ix (gy)]) (cs' := #[.slice (sla (f 72)) (((stackTo xs n) ++ [nb]).length) (slc (f 72)), .slice none 0 0, .int .i64 (0), Ix (gy)]) (v := .slice (sla (f 72)) (((stackTo xs n) ++ [nb]).length) (slc (f 72))) rfl rfl rfl rfl rfl rfl rfl) ?_
     refine l_nil ?_
     exact f_owes_n (up_cons (up_cons rfl hs73) hs72) trivial (perm_front 0 rfl)
    rintro fa23 ⟨-, -, -, -, -, -, -, -, -, -, -, -, -, -, -, -, -, -, -, -, -, -, -⟩ ⟨j0, j1, j2, j3, j4, -⟩
    refine f_re (L' := [pt (blk (fa23 71)) (.cells (bC nb) 31), rowF BodyF 31 (sla (fa23 72)) (slc (fa23 72)) ((stackTo xs n) ++ [nb]), pt b2 (.cells #[.slice (sla (fa23 72)) (((stackTo xs n) ++ [nb]).length) (slc (fa23 72)), .slice none 0 0, .int .i64 (0), Ix (gy)] 27)]) (by rfl) ?_
    refine f_rebase (d := 0) (v := .slice va (xs.length) (vc)) j0 ?_
    refine f_rebase (d := 5) (v := .pointer (some ⟨b2, 0, none⟩)) j1 ?_
    refine f_rebase (d := 6) (v := Ix (top xs n)) j2 ?_
    refine f_rebase (d := 7) (v := Nx (2 * n)) j3 ?_
    refine f_rebase (d := 9) (v := Nx (1 + (x11.toNat % 40))) j4 ?_
    refine f_then ?_
    refine c_region ?_
    refine l_val (v := Ix (top xs n)) rfl rfl rfl (e_move) ?_
    refine l_val (v := Nx (1 + (x11.toNat % 40))) rfl rfl rfl (e_move) ?_
    refine l_val (v := Nx (2 * (1 + (x11.toNat % 40)))) rfl rfl rfl (e_mul (a := (2 : Int)) (b := ((1 + (x11.toNat % 40) : Nat) : Int)) rfl rfl (i64n (by omega) (by omega))) ?_
    refine l_val (v := Ix ((top xs n) + ((2 * (1 + (x11.toNat % 40)) : Nat) : Int))) rfl rfl rfl (e_add (a := (top xs n)) (b := ((2 * (1 + (x11.toNat % 40)) : Nat) : Int)) rfl rfl (i64w (by omega))) ?_
    refine l_val (v := Ix ((top xs n) + ((2 * (1 + (x11.toNat % 40)) : Nat) : Int))) rfl rfl rfl (e_assign) ?_
    refine l_nil ?_
    refine f_block ?_
    refine f_then ?_
    refine c_region ?_
    refine l_val (v := Nx (2 * n)) rfl rfl rfl (e_move) ?_
    refine l_val (v := Nx ((2 * n) + 2)) rfl rfl rfl (e_add (a := ((2 * n : Nat) : Int)) (b := (2 : Int)) rfl rfl (i64n (by omega) (by omega))) ?_
    refine l_val (v := Nx ((2 * n) + 2)) rfl rfl rfl (e_assign) ?_
    refine l_nil ?_
    refine f_perm (L' := [pt b2 (.cells #[.slice (sla (fa23 72)) (((stackTo xs n) ++ [nb]).length) (slc (fa23 72)), .slice none 0 0, .int .i64 (0), Ix (gy)] 27), rowF BodyF 31 (sla (fa23 72)) (slc (fa23 72)) ((stackTo xs n) ++ [nb]), pt (blk (fa23 71)) (.cells (bC nb) 31)]) (perm_ix [2, 1, 0] 3 rfl (by kernel_rfl) (by kernel_rfl)) ?_
    refine f_mask (L' := [pt b2 (.cells #[.slice (sla (fa23 72)) (((stackTo xs n) ++ [nb]).length) (slc (fa23 72)), .slice none 0 0, .int .i64 (0), Ix (gy)] 27), rowF BodyF 31 (sla (fa23 72)) (slc (fa23 72)) ((stackTo xs n) ++ [nb])]) [true, true, false] rfl ?_
    exact f_cut ⟨(n + 1, (sla (fa23 72)), (slc (fa23 72))), ⟨⟨rfl, rfl, (congrArg (Value.int .i64) (top_next hx12).symm), rfl⟩, (by rw [hnb, ← stackTo_succ, stackTo_len]), ⟨by omega, by omega⟩⟩, (show xs.length - 2 * (n + 1) < xs.length - 2 * n from by omega)⟩
   ·
    refine c_exit ?_
    refine f_then_exit ?_
    refine f_then_exit ?_
    refine f_exit ?_
    exact f_cut ⟨n, p, c, rfl, rfl, hn⟩
  ·
   refine l_skip rfl rfl rfl rfl rfl rfl ?_
   refine l_skip rfl rfl rfl rfl rfl rfl ?_
   refine l_val (v := .bool false) rfl rfl rfl (e_pick_f rfl) ?_
   refine l_nil ?_
   refine f_then ?_
   refine c_no rfl ?_
   refine c_exit ?_
   refine f_then_exit ?_
   refine f_then_exit ?_
   refine f_exit ?_
   exact f_cut ⟨n, p, c, rfl, rfl, hn⟩
 rintro f0 L0 ⟨n, p, c, hs5, hL, hn⟩
 subst L0
 refine rebase (d := 5) hs5 ?_
 clear hs5
 have hsl := stackTo_len xs n
 refine c_seq ?_
 refine c_any [⟨[], [], [0], [78], fun f => f 78 = .pointer (some ⟨b2, 0, none⟩)⟩, ⟨[0], [0], [], [79], fun f => f 79 = .slice p (n + 1) c⟩, ⟨[], [], [], [80], fun f => f 80 = .agg #[.int .i64 (50), .int .i64 (300), .int .i64 (5), .int .i64 (0), .int .i64 (0), .int .i64 (10), .int .i64 (5), .bool false, .bool false]⟩, ⟨[2], [], [], [81], fun f => f 81 = .agg #[.int .i64 (51), .int .i64 (340), .int .i64 (5), .int .i64 (0), .int .i64 (0), .int .i64 (10), .int .i64 (5), .bool false, .bool false]⟩, ⟨[2, 3], [], [], [82], fun f => f 82 = .agg #[.int .i64 (52), .int .i64 (320), .int .i64 (13), .int .i64 (0), .int .i64 (0), .int .i64 (30), .int .i64 (3), .bool false, .bool false]⟩, ⟨[2, 3, 4], [2, 3, 4], [], [83], fun f => f 83 = .slice (some ⟨(blk (f 83)), 0, none⟩) 3 3⟩, ⟨[0, 1, 2, 3, 4, 5], [1, 5], [], [84], fun f => f 84 = .slice (sla (f 84)) (((stackTo xs n) ++ [sb0, sb1, sb2]).length) (slc (f 84))⟩, ⟨[0, 1, 2, 3, 4, 5, 6], [], [0], [85], fun f => f 85 = .pointer (some ⟨b2, 0, none⟩)⟩, ⟨[0, 1, 2, 3, 4, 5, 6, 7], [7, 6], [], [], fun _ => True⟩] [⟨none, (some 8), [1, 8], [], fun _ => pt b2 (.cells #[.slice p (n + 1) c, .slice none 0 0, .int .i64 (0), Ix (gy)] 27)⟩, ⟨none, (some 6), [6], [], fun _ => rowF BodyF 31 p c (stackTo xs n)⟩, ⟨(some 5), none, [6], [83], fun f => pt (blk (f 83)) (.cells #[.int .i64 (50), .int .i64 (300), .int .i64 (5), .int .i64 (0), .int .i64 (0), .int .i64 (10), .int .i64 (5), .bool false, .bool false, .int .i64 (51), .int .i64 (340), .int .i64 (5), .int .i64 (0), .int .i64 (0), .int .i64 (10), .int .i64 (5), .bool false, .bool false, .int .i64 (52), .int .i64 (320), .int .i64 (13), .int .i64 (0), .int .i64 (0), .int .i64 (30), .int .i64 (3), .bool false, .bool false] 31)⟩, ⟨(some 6), none, [], [84], fun f => rowF BodyF 31 (sla (f 84)) (slc (f 84)) ((stackTo xs n) ++ [sb0, sb1, sb2])⟩, ⟨(some 8), none, [], [84], fun f => pt b2 (.cells #[.slice (sla (f 84)) (((stackTo xs n) ++ [sb0, sb1, sb2]).length) (slc (f 84)), .slice none 0 0, .int .i64 (0), Ix (gy)] 27)⟩] [(5, .pointer (some ⟨b2, 0, none⟩))] [0] [] (by kernel_rfl) (by kernel_rfl) (by kernel_rfl) (by kernel_rfl) rfl ⟨rfl, trivial⟩ ⟨?_, ?_, ?_, ?_, ?_, ?_, ?_, ?_, ?_, trivial⟩ ?_
 ·rintro f M - ⟨i0, -⟩
  have hs5 : f 5 = .pointer (some ⟨b2, 0, none⟩) := i0
  refine ob_start (L' := M) (by rfl) (up_cons rfl hs5) ?_
  refine l_val (v := .pointer (some ⟨b2, 0, none⟩)) rfl rfl rfl (e_fieldPt (b := b2) (o := 0) rfl tf49) ?_
  refine l_nil ?_
  exact f_owes_d (up_cons rfl hs5) rfl (List.Perm.refl _)
 ·rintro f M ⟨k0, -⟩ -
  have hs78 : f 78 = .pointer (some ⟨b2, 0, none⟩) := k0
  refine ob_start (L' := pt b2 (.cells #[.slice p (n + 1) c, .slice none 0 0, .int .i64 (0), Ix (gy)] 27) :: M) (by rfl) (up_cons rfl hs78) ?_
  refine l_val (v := .slice p (n + 1) c) rfl rfl rfl (e_load1 tf50 (v := .slice p (n + 1) c) rfl (k_pt 0 (cs := #[.slice p (n + 1) c, .slice none 0 0, .int .i64 (0), Ix (gy)]) (vs := [.slice p (n + 1) c]) rfl rfl)) ?_
  refine l_nil ?_
  exact f_owes_d (up_cons rfl hs78) rfl (perm_front 0 rfl)
 ·rintro f M - -
  refine ob_start (L' := M) (by rfl) rfl ?_
  refine l_call rfl rfl rfl (cl_value (fst := []) (cap := []) (vs := [.int .i64 (50), .int .i64 (300), .int .i64 (5), .int .i64 (10), .int .i64 (5), .int .i64 (0), .int .i64 (0)]) (all := [.int .i64 (50), .int .i64 (300), .int .i64 (5), .int .i64 (10), .int .i64 (5), .int .i64 (0), .int .i64 (0)]) tf103 rfl rfl rfl) ?_
  intro w hw
  obtain ⟨β1, sb, kn, hw1, back⟩ := St.frame_all hw
  refine (box_ok β1 w hw1 (50 : Int) (300 : Int) (5 : Int) (10 : Int) (5 : Int) (0 : Int) (0 : Int)).mono ?_
  rintro e w' ⟨rfl, hw'⟩
  refine ⟨_, rfl, _, back _ _ hw', ?_⟩
  clear hw hw1 hw' back kn sb
  refine l_nil ?_
  exact f_owes_d rfl rfl (List.Perm.refl _)
 ·rintro f M - -
  refine ob_start (L' := M) (by rfl) rfl ?_
  refine l_call rfl rfl rfl (cl_value (fst := []) (cap := []) (vs := [.int .i64 (51), .int .i64 (340), .int .i64 (5), .int .i64 (10), .int .i64 (5), .int .i64 (0), .int .i64 (0)]) (all := [.int .i64 (51), .int .i64 (340), .int .i64 (5), .int .i64 (10), .int .i64 (5), .int .i64 (0), .int .i64 (0)]) tf103 rfl rfl rfl) ?_
  intro w hw
  obtain ⟨β1, sb, kn, hw1, back⟩ := St.frame_all hw
  refine (box_ok β1 w hw1 (51 : Int) (340 : Int) (5 : Int) (10 : Int) (5 : Int) (0 : Int) (0 : Int)).mono ?_
  rintro e w' ⟨rfl, hw'⟩
  refine ⟨_, rfl, _, back _ _ hw', ?_⟩
  clear hw hw1 hw' back kn sb
  refine l_nil ?_
  exact f_owes_d rfl rfl (List.Perm.refl _)
 ·rintro f M - -
  refine ob_start (L' := M) (by rfl) rfl ?_
  refine l_call rfl rfl rfl (cl_value (fst := []) (cap := []) (vs := [.int .i64 (52), .int .i64 (320), .int .i64 (13), .int .i64 (30), .int .i64 (3), .int .i64 (0), .int .i64 (0)]) (all := [.int .i64 (52), .int .i64 (320), .int .i64 (13), .int .i64 (30), .int .i64 (3), .int .i64 (0), .int .i64 (0)]) tf103 rfl rfl rfl) ?_
  intro w hw
  obtain ⟨β1, sb, kn, hw1, back⟩ := St.frame_all hw
  refine (box_ok β1 w hw1 (52 : Int) (320 : Int) (13 : Int) (30 : Int) (3 : Int) (0 : Int) (0 : Int)).mono ?_
  rintro e w' ⟨rfl, hw'⟩
  refine ⟨_, rfl, _, back _ _ hw', ?_⟩
  clear hw hw1 hw' back kn sb
  refine l_nil ?_
  exact f_owes_d rfl rfl (List.Perm.refl _)
 ·rintro f M ⟨k0, k1, k2, -⟩ -
  have hs80 : f 80 = .agg #[.int .i64 (50), .int .i64 (300), .int .i64 (5), .int .i64 (0), .int .i64 (0), .int .i64 (10), .int .i64 (5), .bool false, .bool false] := k0
  have hs81 : f 81 = .agg #[.int .i64 (51), .int .i64 (340), .int .i64 (5), .int .i64 (0), .int .i64 (0), .int .i64 (10), .int .i64 (5), .bool false, .bool false] := k1
  have hs82 : f 82 = .agg #[.int .i64 (52), .int .i64 (320), .int .i64 (13), .int .i64 (0), .int .i64 (0), .int .i64 (30), .int .i64 (3), .bool false, .bool false] := k2
  refine ob_start (L' := M) (by rfl) (up_cons (up_cons (up_cons rfl hs80) hs81) hs82) ?_
  refine l_mv rfl rfl rfl (m_slices tf43 tf58 (vs := [(0, .agg #[.int .i64 (50), .int .i64 (300), .int .i64 (5), .int .i64 (0), .int .i64 (0), .int .i64 (10), .int .i64 (5), .bool false, .bool false]), (1, .agg #[.int .i64 (51), .int .i64 (340), .int .i64 (5), .int .i64 (0), .int .i64 (0), .int .i64 (10), .int .i64 (5), .bool false, .bool false]), (2, .agg #[.int .i64 (52), .int .i64 (320), .int .i64 (13), .int .i64 (0), .int .i64 (0), .int .i64 (30), .int .i64 (3), .bool false, .bool false])]) (cells := #[.int .i64 (50), .int .i64 (300), .int .i64 (5), .int .i64 (0), .int .i64 (0), .int .i64 (10), .int .i64 (5), .bool false, .bool false, .int .i64 (51), .int .i64 (340), .int .i64 (5), .int .i64 (0), .int .i64 (0), .int .i64 (10), .int .i64 (5), .bool false, .bool false, .int .i64 (52), .int .i64 (320), .int .i64 (13), .int .i64 (0), .int .i64 (0), .int .i64 (30), .int .i64 (3), .bool false, .bool false]) rfl rfl rfl (by kernel_rfl)) ?_
  rintro _ _ ⟨b25, rfl, rfl⟩
  refine l_nil ?_
  exact f_owes_d (up_cons (up_cons (up_cons rfl hs80) hs81) hs82) rfl (perm_front 0 rfl)
 ·rintro f M ⟨k0, k1, -⟩ -
  have hs79 : f 79 = .slice p (n + 1) c := k0
  have hs83 : f 83 = .slice (some ⟨(blk (f 83)), 0, none⟩) 3 3 := k1
  refine ob_start (L' := rowF BodyF 31 p c (stackTo xs n) :: pt (blk (f 83)) (.cells #[.int .i64 (50), .int .i64 (300), .int .i64 (5), .int .i64 (0), .int .i64 (0), .int .i64 (10), .int .i64 (5), .bool false, .bool false, .int .i64 (51), .int .i64 (340), .int .i64 (5), .int .i64 (0), .int .i64 (0), .int .i64 (10), .int .i64 (5), .bool false, .bool false, .int .i64 (52), .int .i64 (320), .int .i64 (13), .int .i64 (0), .int .i64 (0), .int .i64 (30), .int .i64 (3), .bool false, .bool false] 31) :: M) (by rfl) (up_cons (up_cons rfl hs79) hs83) ?_
  refine l_mv rfl rfl rfl (m_appendFlN (F := BodyF) 0 tf43 tf83 (p := p) (m := n + 1) (xs := (stackTo xs n)) (ys := [sb0, sb1, sb2]) (ao := (some ⟨(blk (f 83)), 0, none⟩)) (k := 3) (c := 3) rfl (by omega) rfl rfl rfl (Knows.imp (k_ptFls (F := BodyF) 1 (m := 3) (xs := [sb0, sb1, sb2]) rfl rfl rfl (by decide)) fun _ h => (Sl.parts h).2.2.2) (by first | omega | simp only [List.length_nil, List.length_cons, List.length_append, List.length_set]; omega) (by first | omega | simp only [List.length_nil, List.length_cons, List.length_append, List.length_set]; omega)) ?_
  rintro _ _ ⟨rp28, rc29, rfl, rfl⟩
  refine l_nil ?_
  exact f_owes_d (up_cons (up_cons rfl hs79) hs83) rfl ((perm_front 0 rfl).trans (perm_front 1 rfl))
 ·rintro f M - ⟨i0, -⟩
  have hs5 : f 5 = .pointer (some ⟨b2, 0, none⟩) := i0
  refine ob_start (L' := M) (by rfl) (up_cons rfl hs5) ?_
  refine l_val (v := .pointer (some ⟨b2, 0, none⟩)) rfl rfl rfl (e_fieldPt (b := b2) (o := 0) rfl tf49) ?_
  refine l_nil ?_
  exact f_owes_d (up_cons rfl hs5) rfl (List.Perm.refl _)
 ·rintro f M ⟨k0, k1, -⟩ -
  have hs85 : f 85 = .pointer (some ⟨b2, 0, none⟩) := k0
  have hs84 : f 84 = .slice (sla (f 84)) (((stackTo xs n) ++ [sb0, sb1, sb2]).length) (slc (f 84)) := k1
  refine ob_start (L' := pt b2 (.cells #[.slice p (n + 1) c, .slice none 0 0, .int .i64 (0), Ix (gy)] 27) :: M) (by rfl) (up_cons (up_cons rfl hs85) hs84) ?_
  refine l_mu rfl rfl (m_store 0 tf50 (b := b2) (o := 0) (T := 27) (cs := #[.slice p (n + 1) c, .slice none 0 0, .int .i64 (0), Ix (gy)]) (cs' := #[.slice (sla (f 84)) (((stackTo xs n) ++ [sb0, sb1, sb2]).length) (slc (f 84)), .slice none 0 0, .int .i64 (0), Ix (gy)]) (v := .slice (sla (f 84)) (((stackTo xs n) ++ [sb0, sb1, sb2]).length) (slc (f 84))) rfl rfl rfl rfl rfl rfl rfl) ?_
  refine l_nil ?_
  exact f_owes_n (up_cons (up_cons rfl hs85) hs84) trivial (perm_front 0 rfl)
 rintro fa30 ⟨-, -, -, -, -, -, -, -, -, -⟩ ⟨j0, -⟩
 refine f_re (L' := [pt (blk (fa30 83)) (.cells #[.int .i64 (50), .int .i64 (300), .int .i64 (5), .int .i64 (0), .int .i64 (0), .int .i64 (10), .int .i64 (5), .bool false, .bool false, .int .i64 (51), .int .i64 (340), .int .i64 (5), .int .i64 (0), .int .i64 (0), .int .i64 (10), .int .i64 (5), .bool false, .bool false, .int .i64 (52), .int .i64 (320), .int .i64 (13), .int .i64 (0), .int .i64 (0), .int .i64 (30), .int .i64 (3), .bool false, .bool false] 31), rowF BodyF 31 (sla (fa30 84)) (slc (fa30 84)) ((stackTo xs n) ++ [sb0, sb1, sb2]), pt b2 (.cells #[.slice (sla (fa30 84)) (((stackTo xs n) ++ [sb0, sb1, sb2]).length) (slc (fa30 84)), .slice none 0 0, .int .i64 (0), Ix (gy)] 27)]) (by rfl) ?_
 refine f_rebase (d := 5) (v := .pointer (some ⟨b2, 0, none⟩)) j0 ?_
 refine f_then ?_
 refine c_seq ?_
 obtain ⟨bs, S, hst, hsl, hokS, hS, hSl, hSi⟩ := rest_pack xs (n := n) (by omega) hg
 refine c_re (L' := [pt (blk (fa30 83)) (.cells #[.int .i64 (50), .int .i64 (300), .int .i64 (5), .int .i64 (0), .int .i64 (0), .int .i64 (10), .int .i64 (5), .bool false, .bool false, .int .i64 (51), .int .i64 (340), .int .i64 (5), .int .i64 (0), .int .i64 (0), .int .i64 (10), .int .i64 (5), .bool false, .bool false, .int .i64 (52), .int .i64 (320), .int .i64 (13), .int .i64 (0), .int .i64 (0), .int .i64 (30), .int .i64 (3), .bool false, .bool false] 31), rowF BodyF 31 (sla (fa30 84)) (slc (fa30 84)) bs, pt b2 (.cells #[.slice (sla (fa30 84)) (n + 4) (slc (fa30 84)), .slice none 0 0, .int .i64 (0), Ix (gy)] 27)]) (by rw [show ((stackTo xs n) ++ [sb0, sb1, sb2]) = stack xs n from rfl, hst, hsl]) ?_
 clear hst
 refine c_region ?_
 refine l_val (v := .agg #[.slice (sla (fa30 84)) (n + 4) (slc (fa30 84)), .slice none 0 0, .int .i64 (0), Ix (gy)]) rfl rfl rfl (e_load tf86 (cs := [.slice (sla (fa30 84)) (n + 4) (slc (fa30 84)), .slice none 0 0, .int .i64 (0), Ix (gy)]) rfl (k_pt 2 (cs := #[.slice (sla (fa30 84)) (n + 4) (slc (fa30 84)), .slice none 0 0, .int .i64 (0), Ix (gy)]) (vs := [.slice (sla (fa30 84)) (n + 4) (slc (fa30 84)), .slice none 0 0, .int .i64 (0), Ix (gy)]) rfl rfl) rfl) ?_
 refine l_call rfl rfl rfl (cl_value (fst := []) (cap := []) (vs := [.agg #[.slice (sla (fa30 84)) (n + 4) (slc (fa30 84)), .slice none 0 0, .int .i64 (0), Ix (gy)]]) (all := [.agg #[.slice (sla (fa30 84)) (n + 4) (slc (fa30 84)), .slice none 0 0, .int .i64 (0), Ix (gy)]]) tf104 rfl rfl rfl) ?_
 intro w hw
 obtain ⟨β1, sb, kn, hw1, back⟩ := St.frame_all hw
 refine (stepY_ok β1 w hw1 _ _ 0 gy bs [] (kn _ (k_flN 1 (F := BodyF) (m := n + 4) (xs := bs) rfl (by omega))) (Sl.nil KRR _) (by decide) (by omega) (GR.mono sb hG) hokS bs S hS).mono ?_
 rintro e w' ⟨p31, c32, p33, c34, p35, c36, rfl, hw'⟩
 refine ⟨_, rfl, _, back _ _ hw', ?_⟩
 clear hw hw1 hw' back kn sb
 refine l_val (v := .tuple #[.agg #[.slice p31 (bs.length) c32, .slice p33 (0) c34, .int .i64 (0), Ix (gy)], .slice p35 (S.length) c36, .int .i64 (0)]) rfl rfl rfl (e_move) ?_
 refine l_val (v := .agg #[.slice p31 (bs.length) c32, .slice p33 (0) c34, .int .i64 (0), Ix (gy)]) rfl rfl rfl (e_extract (vs := #[.agg #[.slice p31 (bs.length) c32, .slice p33 (0) c34, .int .i64 (0), Ix (gy)], .slice p35 (S.length) c36, .int .i64 (0)]) rfl rfl) ?_
 refine l_val (v := .slice p35 (S.length) c36) rfl rfl rfl (e_extract (vs := #[.agg #[.slice p31 (bs.length) c32, .slice p33 (0) c34, .int .i64 (0), Ix (gy)], .slice p35 (S.length) c36, .int .i64 (0)]) rfl rfl) ?_
 refine l_val (v := .int .i64 (0)) rfl rfl rfl (e_extract (vs := #[.agg #[.slice p31 (bs.length) c32, .slice p33 (0) c34, .int .i64 (0), Ix (gy)], .slice p35 (S.length) c36, .int .i64 (0)]) rfl rfl) ?_
 refine l_mv rfl rfl rfl (m_alloc tf85) ?_
 rintro _ _ ⟨b37, rfl, rfl⟩
 refine l_mu rfl rfl (m_store 0 tf86 (b := b37) (o := 0) (T := 27) (cs := #[.slice none 0 0, .slice none 0 0, .int .i64 (0), .int .i64 (0)]) (cs' := #[.slice p31 (bs.length) c32, .slice p33 (0) c34, .int .i64 (0), Ix (gy)]) (v := .agg #[.slice p31 (bs.length) c32, .slice p33 (0) c34, .int .i64 (0), Ix (gy)]) rfl rfl rfl rfl rfl rfl rfl) ?_
 refine l_val (v := .slice p35 (S.length) c36) rfl rfl rfl (e_assign) ?_
 refine l_val (v := .int .i64 (0)) rfl rfl rfl (e_assign) ?_
 refine l_nil ?_
 refine f_then ?_
 refine c_seq ?_
 refine c_seq ?_
 refine c_region ?_
 refine l_val (v := .int .i64 (0)) rfl rfl rfl (e_move) ?_
 refine l_val (v := .bool false) rfl rfl rfl (e_neq (a := (0 : Int)) (b := (0 : Int)) rfl rfl) ?_
 refine l_val (v := .bool false) rfl rfl rfl (e_move) ?_
 refine g_val (v := .pointer (some ⟨b37, 0, none⟩)) rfl rfl rfl rfl rfl (e_fieldPt (b := b37) (o := 0) rfl tf49) ?_
 refine g_val (v := .slice p31 (bs.length) c32) rfl rfl rfl rfl rfl (e_load1 tf50 (v := .slice p31 (bs.length) c32) rfl (k_pt 0 (cs := #[.slice p31 (bs.length) c32, .slice p33 (0) c34, .int .i64 (0), Ix (gy)]) (vs := [.slice p31 (bs.length) c32]) rfl rfl)) ?_
 refine g_val (v := .pointer (some ⟨b2, 0, none⟩)) rfl rfl rfl rfl rfl (e_fieldPt (b := b2) (o := 0) rfl tf49) ?_
 refine g_val (v := .slice (sla (fa30 84)) (n + 4) (slc (fa30 84))) rfl rfl rfl rfl rfl (e_load1 tf50 (v := .slice (sla (fa30 84)) (n + 4) (slc (fa30 84))) rfl (k_pt 6 (cs := #[.slice (sla (fa30 84)) (n + 4) (slc (fa30 84)), .slice none 0 0, .int .i64 (0), Ix (gy)]) (vs := [.slice (sla (fa30 84)) (n + 4) (slc (fa30 84))]) rfl rfl)) ?_
 refine g_call rfl rfl rfl rfl rfl (cl_value (fst := []) (cap := []) (vs := [.slice p31 (bs.length) c32, .slice (sla (fa30 84)) (n + 4) (slc (fa30 84))]) (all := [.slice p31 (bs.length) c32, .slice (sla (fa30 84)) (n + 4) (slc (fa30 84))]) tf122 rfl rfl rfl) ?_
 intro w hw
 obtain ⟨β1, sb, kn, hw1, back⟩ := St.frame_all hw
 refine (sameB_ok β1 w hw1 _ _ bs bs (kn _ (k_flN 1 (F := BodyF) (m := bs.length) (xs := bs) rfl rfl)) (kn _ (k_flN 5 (F := BodyF) (m := n + 4) (xs := bs) rfl (by omega)))).mono ?_
 rintro e w' ⟨rfl, hw'⟩
 refine ⟨_, rfl, _, back _ _ hw', ?_⟩
 clear hw hw1 hw' back kn sb
 refine g_val (v := .bool (decide (¬ (bs = bs)))) rfl rfl rfl rfl rfl (e_not_p (p := bs = bs) rfl) ?_
 refine l_val (v := .bool (decide (¬ (bs = bs)))) rfl rfl rfl (e_pick_f rfl) ?_
 refine l_val (v := .bool (decide (¬ (bs = bs)))) rfl rfl rfl (e_move) ?_
 refine l_split (s := 102) (p := ¬ (bs = bs)) rfl (fun h => ?_) (fun h => ?_)
 exact absurd h (fun h => h rfl)
 refine g_val (v := .slice p35 (S.length) c36) rfl rfl rfl rfl rfl (e_move) ?_
 refine g_val (v := Nx (S.length)) rfl rfl rfl rfl rfl (e_len (a := p35) (n := S.length) (c := c36) rfl tf105) ?_
 refine g_val (v := .pointer (some ⟨b2, 0, none⟩)) rfl rfl rfl rfl rfl (e_fieldPt (b := b2) (o := 0) rfl tf49) ?_
 refine g_val (v := .slice (sla (fa30 84)) (n + 4) (slc (fa30 84))) rfl rfl rfl rfl rfl (e_load1 tf50 (v := .slice (sla (fa30 84)) (n + 4) (slc (fa30 84))) rfl (k_pt 6 (cs := #[.slice (sla (fa30 84)) (n + 4) (slc (fa30 84)), .slice none 0 0, .int .i64 (0), Ix (gy)]) (vs := [.slice (sla (fa30 84)) (n + 4) (slc (fa30 84))]) rfl rfl)) ?_
 refine g_val (v := Nx (n + 4)) rfl rfl rfl rfl rfl (e_len (a := (sla (fa30 84))) (n := n + 4) (c := (slc (fa30 84))) rfl tf40) ?_
 refine g_val (v := Nx ((n + 4) - 1)) rfl rfl rfl rfl rfl (ev_eq (congrArg (Value.int .i64) (by omega)) (e_sub (a := ((n + 4 : Nat) : Int)) (b := (1 : Int)) rfl rfl (i64w (by omega)))) ?_
 refine g_val (v := .bool (decide (((S.length : Nat) : Int) ≠ (((n + 4) - 1 : Nat) : Int)))) rfl rfl rfl rfl rfl (e_neq (a := ((S.length : Nat) : Int)) (b := (((n + 4) - 1 : Nat) : Int)) rfl rfl) ?_
 refine l_val (v := .bool (decide (((S.length : Nat) : Int) ≠ (((n + 4) - 1 : Nat) : Int)))) rfl rfl rfl (e_pick_f rfl) ?_
 refine l_nil ?_
 refine f_then ?_
 refine c_if (((S.length : Nat) : Int) ≠ (((n + 4) - 1 : Nat) : Int)) rfl (fun hc38 => ?_) (fun hc38 => ?_)
 ·
  exact absurd hc38 (by omega)
 ·
  refine c_skip ?_
  refine f_then ?_
  refine c_seq ?_
  refine c_seq ?_
  refine c_region ?_
  refine l_val (v := .slice p35 (S.length) c36) rfl rfl rfl (e_move) ?_
  refine l_val (v := Nx (S.length)) rfl rfl rfl (e_len (a := p35) (n := S.length) (c := c36) rfl tf105) ?_
  refine l_val (v := .int .i64 (0)) rfl rfl rfl (e_move) ?_
  refine l_nil ?_
  refine f_then ?_
  refine c_block ?_
  refine c_mask [true, true, true, true, true, true, true] rfl ?_
  refine c_loop (fun (j : Nat) (f : Fm) (L : List Res) => (f 5 = .pointer (some ⟨b2, 0, none⟩) ∧ f 111 = .slice p35 (S.length) c36 ∧ f 112 = Nx (S.length) ∧ f 113 = Nx (j)) ∧ L = [pt b37 (.cells #[.slice p31 (bs.length) c32, .slice p33 (0) c34, .int .i64 (0), Ix (gy)] 27), rowF BodyF 31 p31 c32 bs, rowF RopeF 35 p33 c34 [], rowF StopF 45 p35 c36 S, pt (blk (fa30 83)) (.cells #[.int .i64 (50), .int .i64 (300), .int .i64 (5), .int .i64 (0), .int .i64 (0), .int .i64 (10), .int .i64 (5), .bool false, .bool false, .int .i64 (51), .int .i64 (340), .int .i64 (5), .int .i64 (0), .int .i64 (0), .int .i64 (10), .int .i64 (5), .bool false, .bool false, .int .i64 (52), .int .i64 (320), .int .i64 (13), .int .i64 (0), .int .i64 (0), .int .i64 (30), .int .i64 (3), .bool false, .bool false] 31), rowF BodyF 31 (sla (fa30 84)) (slc (fa30 84)) bs, pt b2 (.cells #[.slice (sla (fa30 84)) (n + 4) (slc (fa30 84)), .slice none 0 0, .int .i64 (0), Ix (gy)] 27)] ∧ (j ≤ n + 3)) (fun (j : Nat) => n + 3 - j) 0 ?_ ?_
  ·exact ⟨⟨rfl, rfl, rfl, rfl⟩, rfl, by omega⟩
  rintro j f0 L0 ⟨⟨hs5, hs111, hs112, hs113⟩, hL, hj⟩
  subst L0
  refine rebase (d := 5) hs5 ?_
  refine rebase (d := 111) hs111 ?_
  refine rebase (d := 112) hs112 ?_
  refine rebase (d := 113) hs113 ?_
  clear hs5 hs111 hs112 hs113
  refine c_seq ?_
  refine c_region ?_
  refine l_val (v := .bool (decide (((j : Nat) : Int) < ((S.length : Nat) : Int)))) rfl rfl rfl (e_lss (a := ((j : Nat) : Int)) (b := ((S.length : Nat) : Int)) rfl rfl) ?_
  refine l_nil ?_
  refine f_then ?_
  refine c_seq ?_
  refine c_if (((j : Nat) : Int) < ((S.length : Nat) : Int)) rfl (fun hc39 => ?_) (fun hc39 => ?_)
  ·
   refine c_skip ?_
   refine f_then ?_
   refine c_seq ?_
   refine c_block ?_
   refine c_seq ?_
   obtain ⟨b, hb⟩ : ∃ b, bs[j + 1]? = some b := ⟨_, List.getElem?_eq_getElem (by omega)⟩
   obtain ⟨a, ha⟩ : ∃ a, bs[j]? = some a := ⟨_, List.getElem?_eq_getElem (by omega)⟩
   obtain ⟨z, hz, hzi, hzv⟩ := hSi j a b (by omega) ha hb
   refine c_region ?_
   refine l_val (v := Nx (j)) rfl rfl rfl (e_move) ?_
   refine l_val (v := .pointer (some ((ba p35).add (j * 3)))) rfl rfl rfl (e_indexFlN 3 (F := StopF) (j := j) (m := S.length) (xs := S) rfl rfl rfl tf100 (by omega) rfl) ?_
   refine l_val (v := .agg #[Ix (z.id), Bx (z.along), Ix (z.by_)]) rfl rfl rfl (e_load tf106 (cs := [Ix (z.id), Bx (z.along), Ix (z.by_)]) rfl (k_flAt 3 (F := StopF) rfl hz) rfl) ?_
   refine l_mv rfl rfl rfl (m_alloc tf99) ?_
   rintro _ _ ⟨b40, rfl, rfl⟩
   refine l_val (v := Nx (j)) rfl rfl rfl (e_assign) ?_
   refine l_mu rfl rfl (m_store 0 tf106 (b := b40) (o := 0) (T := 45) (cs := #[.int .i64 (0), .int .u8 (0), .int .i64 (0)]) (cs' := #[Ix (z.id), Bx (z.along), Ix (z.by_)]) (v := .agg #[Ix (z.id), Bx (z.along), Ix (z.by_)]) rfl rfl rfl rfl rfl rfl rfl) ?_
   refine l_nil ?_
   refine f_then ?_
   refine c_seq ?_
   refine c_region ?_
   refine l_val (v := .pointer (some ⟨b2, 0, none⟩)) rfl rfl rfl (e_fieldPt (b := b2) (o := 0) rfl tf49) ?_
   refine l_val (v := .slice (sla (fa30 84)) (n + 4) (slc (fa30 84))) rfl rfl rfl (e_load1 tf50 (v := .slice (sla (fa30 84)) (n + 4) (slc (fa30 84))) rfl (k_pt 7 (cs := #[.slice (sla (fa30 84)) (n + 4) (slc (fa30 84)), .slice none 0 0, .int .i64 (0), Ix (gy)]) (vs := [.slice (sla (fa30 84)) (n + 4) (slc (fa30 84))]) rfl rfl)) ?_
   refine l_val (v := Nx (j)) rfl rfl rfl (e_move) ?_
   refine l_val (v := .pointer (some ((ba (sla (fa30 84))).add (j * 9)))) rfl rfl rfl (e_indexFlN 6 (F := BodyF) (j := j) (m := n + 4) (xs := bs) rfl (by omega) rfl tf43 (by omega) rfl) ?_
   refine l_val (v := .pointer (some ((ba (sla (fa30 84))).add (j * 9)))) rfl rfl rfl (ev_eq (congrArg (fun z => Value.pointer (some z)) (show ((ba (sla (fa30 84))).add (j * 9) : Addr).add 0 = (ba (sla (fa30 84))).add (j * 9) by rw [Addr.add_add']; rfl)) (e_fieldAddr (a := (ba (sla (fa30 84))).add (j * 9)) rfl tf3)) ?_
   refine l_val (v := Ix (a.id)) rfl rfl rfl (e_load1 tf2 (v := Ix (a.id)) rfl (k_flPart 6 (F := BodyF) (o := 0) (us := [Ix (a.id)]) rfl ha rfl)) ?_
   refine l_val (v := Ix (a.id)) rfl rfl rfl (e_assign) ?_
   refine l_nil ?_
   refine f_then ?_
   refine c_seq ?_
   refine c_seq ?_
   refine c_region ?_
   refine l_val (v := .pointer (some ⟨b40, 0, none⟩)) rfl rfl rfl (e_fieldPt (b := b40) (o := 0) rfl tf123) ?_
   refine l_val (v := Ix (z.id)) rfl rfl rfl (e_load1 tf2 (v := Ix (z.id)) rfl (k_pt 0 (cs := #[Ix (z.id), Bx (z.along), Ix (z.by_)]) (vs := [Ix (z.id)]) rfl rfl)) ?_
   refine l_val (v := .bool (decide ((z.id) = (50 : Int)))) rfl rfl rfl (e_eql (a := (z.id)) (b := (50 : Int)) rfl rfl) ?_
   refine l_val (v := .bool (decide ((z.id) = (50 : Int)))) rfl rfl rfl (e_move) ?_
   refine l_split (s := 127) (p := (z.id) = (50 : Int)) rfl (fun hg41 => ?_) (fun hg41 => ?_)
   ·
    refine l_skip rfl rfl rfl rfl rfl rfl ?_
    refine l_skip rfl rfl rfl rfl rfl rfl ?_
    refine l_skip rfl rfl rfl rfl rfl rfl ?_
    refine l_val (v := .bool true) rfl rfl rfl (e_pick_t rfl) ?_
    refine l_nil ?_
    refine f_then ?_
    refine c_yes rfl ?_
    refine c_region ?_
    refine l_val (v := .int .i64 (0)) rfl rfl rfl (e_assign) ?_
    refine l_nil ?_
    refine f_then ?_
    refine c_seq ?_
    refine c_seq ?_
    refine c_region ?_
    refine l_val (v := .pointer (some ⟨b40, 0, none⟩)) rfl rfl rfl (e_fieldPt (b := b40) (o := 0) rfl tf123) ?_
    refine l_val (v := Ix (z.id)) rfl rfl rfl (e_load1 tf2 (v := Ix (z.id)) rfl (k_pt 0 (cs := #[Ix (z.id), Bx (z.along), Ix (z.by_)]) (vs := [Ix (z.id)]) rfl rfl)) ?_
    refine l_val (v := .bool (decide ((z.id) = (52 : Int)))) rfl rfl rfl (e_eql (a := (z.id)) (b := (52 : Int)) rfl rfl) ?_
    refine l_nil ?_
    refine f_then ?_
    refine c_if ((z.id) = (52 : Int)) rfl (fun hc42 => ?_) (fun hc42 => ?_)
    ·
     refine c_region ?_
     refine l_val (v := .int .i64 (50)) rfl rfl rfl (e_assign) ?_
     refine l_nil ?_
     refine f_then ?_
     refine c_seq ?_
     refine c_quiet (by kernel_rfl) (by kernel_rfl) ?_
     refine q_val (v := .agg #[Ix (z.id), Bx (z.along), Ix (z.by_)]) rfl rfl rfl (e_load tf106 (cs := [Ix (z.id), Bx (z.along), Ix (z.by_)]) rfl (k_pt 0 (cs := #[Ix (z.id), Bx (z.along), Ix (z.by_)]) (vs := [Ix (z.id), Bx (z.along), Ix (z.by_)]) rfl rfl) rfl) ?_
     refine q_val (v := .pointer (some ⟨b2, 0, none⟩)) rfl rfl rfl (e_fieldPt (b := b2) (o := 0) rfl tf49) ?_
     refine q_val (v := .slice (sla (fa30 84)) (n + 4) (slc (fa30 84))) rfl rfl rfl (e_load1 tf50 (v := .slice (sla (fa30 84)) (n + 4) (slc (fa30 84))) rfl (k_pt 7 (cs := #[.slice (sla (fa30 84)) (n + 4) (slc (fa30 84)), .slice none 0 0, .int .i64 (0), Ix (gy)]) (vs := [.slice (sla (fa30 84)) (n + 4) (slc (fa30 84))]) rfl rfl)) ?_
     refine q_val (v := Nx (j)) rfl rfl rfl (e_move) ?_
     refine q_val (v := Nx (j + 1)) rfl rfl rfl (e_add (a := ((j : Nat) : Int)) (b := (1 : Int)) rfl rfl (i64n (by omega) (by omega))) ?_
     refine q_val (v := .pointer (some ((ba (sla (fa30 84))).add ((j + 1) * 9)))) rfl rfl rfl (e_indexFlN 6 (F := BodyF) (j := j + 1) (m := n + 4) (xs := bs) rfl (by omega) rfl tf43 (by omega) rfl) ?_
     refine q_val (v := .pointer (some ((ba (sla (fa30 84))).add ((j + 1) * 9)))) rfl rfl rfl (ev_eq (congrArg (fun z => Value.pointer (some z)) (show ((ba (sla (fa30 84))).add ((j + 1) * 9) : Addr).add 0 = (ba (sla (fa30 84))).add ((j + 1) * 9) by rw [Addr.add_add']; rfl)) (e_fieldAddr (a := (ba (sla (fa30 84))).add ((j + 1) * 9)) rfl tf3)) ?_
     refine q_val (v := Ix (b.id)) rfl rfl rfl (e_load1 tf2 (v := Ix (b.id)) rfl (k_flPart 6 (F := BodyF) (o := 0) (us := [Ix (b.id)]) rfl hb rfl)) ?_
     refine q_val (v := .int .i64 (50)) rfl rfl rfl (e_move) ?_
     refine q_val (v := .agg #[Ix (b.id), .int .u8 (2), .int .i64 (50)]) rfl rfl rfl (e_build tf99 tf98 (vs := [(0, Ix (b.id)), (1, .int .u8 (2)), (2, .int .i64 (50))]) (cells := #[Ix (b.id), .int .u8 (2), .int .i64 (50)]) rfl rfl) ?_
     refine q_val (v := .bool (decide (¬ (z = ⟨(b.id), (2 : UInt8), (50 : Int)⟩)))) rfl rfl rfl (e_neq_t (xs := [Ix (z.id), Bx (z.along), Ix (z.by_)]) (ys := [Ix (b.id), .int .u8 (2), .int .i64 (50)]) tf111 tf112 tf113 rfl rfl rfl rfl (not_congr (stop_eq (x := z) (y := ⟨(b.id), (2 : UInt8), (50 : Int)⟩)))) ?_
     refine q_nil ?_
     refine f_then ?_
     refine c_if (¬ (z = ⟨(b.id), (2 : UInt8), (50 : Int)⟩)) rfl (fun hc43 => ?_) (fun hc43 => ?_)
     ·
      exact absurd hc43 (fun hne => hne (hzv _ (by first | (rw [if_pos (by omega)]; done) | (rw [if_neg (by omega), if_pos (by omega)]; done) | rw [if_neg (by omega), if_neg (by omega)])))
     ·
      refine c_skip ?_
      refine f_block ?_
      refine f_then ?_
      refine c_region ?_
      refine l_val (v := Nx (j + 1)) rfl rfl rfl (e_add (a := ((j : Nat) : Int)) (b := (1 : Int)) rfl rfl (i64n (by omega) (by omega))) ?_
      refine l_val (v := Nx (j + 1)) rfl rfl rfl (e_move) ?_
      refine l_nil ?_
      refine f_mask (L' := [pt b37 (.cells #[.slice p31 (bs.length) c32, .slice p33 (0) c34, .int .i64 (0), Ix (gy)] 27), rowF BodyF 31 p31 c32 bs, rowF RopeF 35 p33 c34 [], rowF StopF 45 p35 c36 S, pt (blk (fa30 83)) (.cells #[.int .i64 (50), .int .i64 (300), .int .i64 (5), .int .i64 (0), .int .i64 (0), .int .i64 (10), .int .i64 (5), .bool false, .bool false, .int .i64 (51), .int .i64 (340), .int .i64 (5), .int .i64 (0), .int .i64 (0), .int .i64 (10), .int .i64 (5), .bool false, .bool false, .int .i64 (52), .int .i64 (320), .int .i64 (13), .int .i64 (0), .int .i64 (0), .int .i64 (30), .int .i64 (3), .bool false, .bool false] 31), rowF BodyF 31 (sla (fa30 84)) (slc (fa30 84)) bs, pt b2 (.cells #[.slice (sla (fa30 84)) (n + 4) (slc (fa30 84)), .slice none 0 0, .int .i64 (0), Ix (gy)] 27)]) [false, true, true, true, true, true, true, true] rfl ?_
      exact f_cut ⟨j + 1, ⟨⟨rfl, rfl, rfl, rfl⟩, rfl, (by omega)⟩, (show n + 3 - (j + 1) < n + 3 - j from by omega)⟩
    ·
     refine c_skip ?_
     refine f_then ?_
     refine c_seq ?_
     refine c_quiet (by kernel_rfl) (by kernel_rfl) ?_
     refine q_val (v := .agg #[Ix (z.id), Bx (z.along), Ix (z.by_)]) rfl rfl rfl (e_load tf106 (cs := [Ix (z.id), Bx (z.along), Ix (z.by_)]) rfl (k_pt 0 (cs := #[Ix (z.id), Bx (z.along), Ix (z.by_)]) (vs := [Ix (z.id), Bx (z.along), Ix (z.by_)]) rfl rfl) rfl) ?_
     refine q_val (v := .pointer (some ⟨b2, 0, none⟩)) rfl rfl rfl (e_fieldPt (b := b2) (o := 0) rfl tf49) ?_
     refine q_val (v := .slice (sla (fa30 84)) (n + 4) (slc (fa30 84))) rfl rfl rfl (e_load1 tf50 (v := .slice (sla (fa30 84)) (n + 4) (slc (fa30 84))) rfl (k_pt 7 (cs := #[.slice (sla (fa30 84)) (n + 4) (slc (fa30 84)), .slice none 0 0, .int .i64 (0), Ix (gy)]) (vs := [.slice (sla (fa30 84)) (n + 4) (slc (fa30 84))]) rfl rfl)) ?_
     refine q_val (v := Nx (j)) rfl rfl rfl (e_move) ?_
     refine q_val (v := Nx (j + 1)) rfl rfl rfl (e_add (a := ((j : Nat) : Int)) (b := (1 : Int)) rfl rfl (i64n (by omega) (by omega))) ?_
     refine q_val (v := .pointer (some ((ba (sla (fa30 84))).add ((j + 1) * 9)))) rfl rfl rfl (e_indexFlN 6 (F := BodyF) (j := j + 1) (m := n + 4) (xs := bs) rfl (by omega) rfl tf43 (by omega) rfl) ?_
     refine q_val (v := .pointer (some ((ba (sla (fa30 84))).add ((j + 1) * 9)))) rfl rfl rfl (ev_eq (congrArg (fun z => Value.pointer (some z)) (show ((ba (sla (fa30 84))).add ((j + 1) * 9) : Addr).add 0 = (ba (sla (fa30 84))).add ((j + 1) * 9) by rw [Addr.add_add']; rfl)) (e_fieldAddr (a := (ba (sla (fa30 84))).add ((j + 1) * 9)) rfl tf3)) ?_
     refine q_val (v := Ix (b.id)) rfl rfl rfl (e_load1 tf2 (v := Ix (b.id)) rfl (k_flPart 6 (F := BodyF) (o := 0) (us := [Ix (b.id)]) rfl hb rfl)) ?_
     refine q_val (v := .int .i64 (0)) rfl rfl rfl (e_move) ?_
     refine q_val (v := .agg #[Ix (b.id), .int .u8 (2), .int .i64 (0)]) rfl rfl rfl (e_build tf99 tf98 (vs := [(0, Ix (b.id)), (1, .int .u8 (2)), (2, .int .i64 (0))]) (cells := #[Ix (b.id), .int .u8 (2), .int .i64 (0)]) rfl rfl) ?_
     refine q_val (v := .bool (decide (¬ (z = ⟨(b.id), (2 : UInt8), (0 : Int)⟩)))) rfl rfl rfl (e_neq_t (xs := [Ix (z.id), Bx (z.along), Ix (z.by_)]) (ys := [Ix (b.id), .int .u8 (2), .int .i64 (0)]) tf111 tf112 tf113 rfl rfl rfl rfl (not_congr (stop_eq (x := z) (y := ⟨(b.id), (2 : UInt8), (0 : Int)⟩)))) ?_
     refine q_nil ?_
     refine f_then ?_
     refine c_if (¬ (z = ⟨(b.id), (2 : UInt8), (0 : Int)⟩)) rfl (fun hc44 => ?_) (fun hc44 => ?_)
     ·
      exact absurd hc44 (fun hne => hne (hzv _ (by first | (rw [if_pos (by omega)]; done) | (rw [if_neg (by omega), if_pos (by omega)]; done) | rw [if_neg (by omega), if_neg (by omega)])))
     ·
      refine c_skip ?_
      refine f_block ?_
      refine f_then ?_
      refine c_region ?_
      refine l_val (v := Nx (j + 1)) rfl rfl rfl (e_add (a := ((j : Nat) : Int)) (b := (1 : Int)) rfl rfl (i64n (by omega) (by omega))) ?_
      refine l_val (v := Nx (j + 1)) rfl rfl rfl (e_move) ?_
      refine l_nil ?_
      refine f_mask (L' := [pt b37 (.cells #[.slice p31 (bs.length) c32, .slice p33 (0) c34, .int .i64 (0), Ix (gy)] 27), rowF BodyF 31 p31 c32 bs, rowF RopeF 35 p33 c34 [], rowF StopF 45 p35 c36 S, pt (blk (fa30 83)) (.cells #[.int .i64 (50), .int .i64 (300), .int .i64 (5), .int .i64 (0), .int .i64 (0), .int .i64 (10), .int .i64 (5), .bool false, .bool false, .int .i64 (51), .int .i64 (340), .int .i64 (5), .int .i64 (0), .int .i64 (0), .int .i64 (10), .int .i64 (5), .bool false, .bool false, .int .i64 (52), .int .i64 (320), .int .i64 (13), .int .i64 (0), .int .i64 (0), .int .i64 (30), .int .i64 (3), .bool false, .bool false] 31), rowF BodyF 31 (sla (fa30 84)) (slc (fa30 84)) bs, pt b2 (.cells #[.slice (sla (fa30 84)) (n + 4) (slc (fa30 84)), .slice none 0 0, .int .i64 (0), Ix (gy)] 27)]) [false, true, true, true, true, true, true, true] rfl ?_
      exact f_cut ⟨j + 1, ⟨⟨rfl, rfl, rfl, rfl⟩, rfl, (by omega)⟩, (show n + 3 - (j + 1) < n + 3 - j from by omega)⟩
   ·
    refine g_val (v := .pointer (some ⟨b40, 0, none⟩)) rfl rfl rfl rfl rfl (e_fieldPt (b := b40) (o := 0) rfl tf123) ?_
    refine g_val (v := Ix (z.id)) rfl rfl rfl rfl rfl (e_load1 tf2 (v := Ix (z.id)) rfl (k_pt 0 (cs := #[Ix (z.id), Bx (z.along), Ix (z.by_)]) (vs := [Ix (z.id)]) rfl rfl)) ?_
    refine g_val (v := .bool (decide ((z.id) = (51 : Int)))) rfl rfl rfl rfl rfl (e_eql (a := (z.id)) (b := (51 : Int)) rfl rfl) ?_
    refine l_val (v := .bool (decide ((z.id) = (51 : Int)))) rfl rfl rfl (e_pick_f rfl) ?_
    refine l_nil ?_
    refine f_then ?_
    refine c_if ((z.id) = (51 : Int)) rfl (fun hc45 => ?_) (fun hc45 => ?_)
    ·
     refine c_region ?_
     refine l_val (v := .int .i64 (0)) rfl rfl rfl (e_assign) ?_
     refine l_nil ?_
     refine f_then ?_
     refine c_seq ?_
     refine c_seq ?_
     refine c_region ?_
     refine l_val (v := .pointer (some ⟨b40, 0, none⟩)) rfl rfl rfl (e_fieldPt (b := b40) (o := 0) rfl tf123) ?_
     refine l_val (v := Ix (z.id)) rfl rfl rfl (e_load1 tf2 (v := Ix (z.id)) rfl (k_pt 0 (cs := #[Ix (z.id), Bx (z.along), Ix (z.by_)]) (vs := [Ix (z.id)]) rfl rfl)) ?_
     refine l_val (v := .bool (decide ((z.id) = (52 : Int)))) rfl rfl rfl (e_eql (a := (z.id)) (b := (52 : Int)) rfl rfl) ?_
     refine l_nil ?_
     refine f_then ?_
     refine c_if ((z.id) = (52 : Int)) rfl (fun hc46 => ?_) (fun hc46 => ?_)
     ·
      refine c_region ?_
      refine l_val (v := .int .i64 (50)) rfl rfl rfl (e_assign) ?_
      refine l_nil ?_
      refine f_then ?_
      refine c_seq ?_
      refine c_quiet (by kernel_rfl) (by kernel_rfl) ?_
      refine q_val (v := .agg #[Ix (z.id), Bx (z.along), Ix (z.by_)]) rfl rfl rfl (e_load tf106 (cs := [Ix (z.id), Bx (z.along), Ix (z.by_)]) rfl (k_pt 0 (cs := #[Ix (z.id), Bx (z.along), Ix (z.by_)]) (vs := [Ix (z.id), Bx (z.along), Ix (z.by_)]) rfl rfl) rfl) ?_
      refine q_val (v := .pointer (some ⟨b2, 0, none⟩)) rfl rfl rfl (e_fieldPt (b := b2) (o := 0) rfl tf49) ?_
      refine q_val (v := .slice (sla (fa30 84)) (n + 4) (slc (fa30 84))) rfl rfl rfl (e_load1 tf50 (v := .slice (sla (fa30 84)) (n + 4) (slc (fa30 84))) rfl (k_pt 7 (cs := #[.slice (sla (fa30 84)) (n + 4) (slc (fa30 84)), .slice none 0 0, .int .i64 (0), Ix (gy)]) (vs := [.slice (sla (fa30 84)) (n + 4) (slc (fa30 84))]) rfl rfl)) ?_
      refine q_val (v := Nx (j)) rfl rfl rfl (e_move) ?_
      refine q_val (v := Nx (j + 1)) rfl rfl rfl (e_add (a := ((j : Nat) : Int)) (b := (1 : Int)) rfl rfl (i64n (by omega) (by omega))) ?_
      refine q_val (v := .pointer (some ((ba (sla (fa30 84))).add ((j + 1) * 9)))) rfl rfl rfl (e_indexFlN 6 (F := BodyF) (j := j + 1) (m := n + 4) (xs := bs) rfl (by omega) rfl tf43 (by omega) rfl) ?_
      refine q_val (v := .pointer (some ((ba (sla (fa30 84))).add ((j + 1) * 9)))) rfl rfl rfl (ev_eq (congrArg (fun z => Value.pointer (some z)) (show ((ba (sla (fa30 84))).add ((j + 1) * 9) : Addr).add 0 = (ba (sla (fa30 84))).add ((j + 1) * 9) by rw [Addr.add_add']; rfl)) (e_fieldAddr (a := (ba (sla (fa30 84))).add ((j + 1) * 9)) rfl tf3)) ?_
      refine q_val (v := Ix (b.id)) rfl rfl rfl (e_load1 tf2 (v := Ix (b.id)) rfl (k_flPart 6 (F := BodyF) (o := 0) (us := [Ix (b.id)]) rfl hb rfl)) ?_
      refine q_val (v := .int .i64 (50)) rfl rfl rfl (e_move) ?_
      refine q_val (v := .agg #[Ix (b.id), .int .u8 (2), .int .i64 (50)]) rfl rfl rfl (e_build tf99 tf98 (vs := [(0, Ix (b.id)), (1, .int .u8 (2)), (2, .int .i64 (50))]) (cells := #[Ix (b.id), .int .u8 (2), .int .i64 (50)]) rfl rfl) ?_
      refine q_val (v := .bool (decide (¬ (z = ⟨(b.id), (2 : UInt8), (50 : Int)⟩)))) rfl rfl rfl (e_neq_t (xs := [Ix (z.id), Bx (z.along), Ix (z.by_)]) (ys := [Ix (b.id), .int .u8 (2), .int .i64 (50)]) tf111 tf112 tf113 rfl rfl rfl rfl (not_congr (stop_eq (x := z) (y := ⟨(b.id), (2 : UInt8), (50 : Int)⟩)))) ?_
      refine q_nil ?_
      refine f_then ?_
      refine c_if (¬ (z = ⟨(b.id), (2 : UInt8), (50 : Int)⟩)) rfl (fun hc47 => ?_) (fun hc47 => ?_)
      ·
       exact absurd hc47 (fun hne => hne (hzv _ (by first | (rw [if_pos (by omega)]; done) | (rw [if_neg (by omega), if_pos (by omega)]; done) | rw [if_neg (by omega), if_neg (by omega)])))
      ·
       refine c_skip ?_
       refine f_block ?_
       refine f_then ?_
       refine c_region ?_
       refine l_val (v := Nx (j + 1)) rfl rfl rfl (e_add (a := ((j : Nat) : Int)) (b := (1 : Int)) rfl rfl (i64n (by omega) (by omega))) ?_
       refine l_val (v := Nx (j + 1)) rfl rfl rfl (e_move) ?_
       refine l_nil ?_
       refine f_mask (L' := [pt b37 (.cells #[.slice p31 (bs.length) c32, .slice p33 (0) c34, .int .i64 (0), Ix (gy)] 27), rowF BodyF 31 p31 c32 bs, rowF RopeF 35 p33 c34 [], rowF StopF 45 p35 c36 S, pt (blk (fa30 83)) (.cells #[.int .i64 (50), .int .i64 (300), .int .i64 (5), .int .i64 (0), .int .i64 (0), .int .i64 (10), .int .i64 (5), .bool false, .bool false, .int .i64 (51), .int .i64 (340), .int .i64 (5), .int .i64 (0), .int .i64 (0), .int .i64 (10), .int .i64 (5), .bool false, .bool false, .int .i64 (52), .int .i64 (320), .int .i64 (13), .int .i64 (0), .int .i64 (0), .int .i64 (30), .int .i64 (3), .bool false, .bool false] 31), rowF BodyF 31 (sla (fa30 84)) (slc (fa30 84)) bs, pt b2 (.cells #[.slice (sla (fa30 84)) (n + 4) (slc (fa30 84)), .slice none 0 0, .int .i64 (0), Ix (gy)] 27)]) [false, true, true, true, true, true, true, true] rfl ?_
       exact f_cut ⟨j + 1, ⟨⟨rfl, rfl, rfl, rfl⟩, rfl, (by omega)⟩, (show n + 3 - (j + 1) < n + 3 - j from by omega)⟩
     ·
      refine c_skip ?_
      refine f_then ?_
      refine c_seq ?_
      refine c_quiet (by kernel_rfl) (by kernel_rfl) ?_
      refine q_val (v := .agg #[Ix (z.id), Bx (z.along), Ix (z.by_)]) rfl rfl rfl (e_load tf106 (cs := [Ix (z.id), Bx (z.along), Ix (z.by_)]) rfl (k_pt 0 (cs := #[Ix (z.id), Bx (z.along), Ix (z.by_)]) (vs := [Ix (z.id), Bx (z.along), Ix (z.by_)]) rfl rfl) rfl) ?_
      refine q_val (v := .pointer (some ⟨b2, 0, none⟩)) rfl rfl rfl (e_fieldPt (b := b2) (o := 0) rfl tf49) ?_
      refine q_val (v := .slice (sla (fa30 84)) (n + 4) (slc (fa30 84))) rfl rfl rfl (e_load1 tf50 (v := .slice (sla (fa30 84)) (n + 4) (slc (fa30 84))) rfl (k_pt 7 (cs := #[.slice (sla (fa30 84)) (n + 4) (slc (fa30 84)), .slice none 0 0, .int .i64 (0), Ix (gy)]) (vs := [.slice (sla (fa30 84)) (n + 4) (slc (fa30 84))]) rfl rfl)) ?_
      refine q_val (v := Nx (j)) rfl rfl rfl (e_move) ?_
      refine q_val (v := Nx (j + 1)) rfl rfl rfl (e_add (a := ((j : Nat) : Int)) (b := (1 : Int)) rfl rfl (i64n (by omega) (by omega))) ?_
      refine q_val (v := .pointer (some ((ba (sla (fa30 84))).add ((j + 1) * 9)))) rfl rfl rfl (e_indexFlN 6 (F := BodyF) (j := j + 1) (m := n + 4) (xs := bs) rfl (by omega) rfl tf43 (by omega) rfl) ?_
      refine q_val (v := .pointer (some ((ba (sla (fa30 84))).add ((j + 1) * 9)))) rfl rfl rfl (ev_eq (congrArg (fun z => Value.pointer (some z)) (show ((ba (sla (fa30 84))).add ((j + 1) * 9) : Addr).add 0 = (ba (sla (fa30 84))).add ((j + 1) * 9) by rw [Addr.add_add']; rfl)) (e_fieldAddr (a := (ba (sla (fa30 84))).add ((j + 1) * 9)) rfl tf3)) ?_
      refine q_val (v := Ix (b.id)) rfl rfl rfl (e_load1 tf2 (v := Ix (b.id)) rfl (k_flPart 6 (F := BodyF) (o := 0) (us := [Ix (b.id)]) rfl hb rfl)) ?_
      refine q_val (v := .int .i64 (0)) rfl rfl rfl (e_move) ?_
      refine q_val (v := .agg #[Ix (b.id), .int .u8 (2), .int .i64 (0)]) rfl rfl rfl (e_build tf99 tf98 (vs := [(0, Ix (b.id)), (1, .int .u8 (2)), (2, .int .i64 (0))]) (cells := #[Ix (b.id), .int .u8 (2), .int .i64 (0)]) rfl rfl) ?_
      refine q_val (v := .bool (decide (¬ (z = ⟨(b.id), (2 : UInt8), (0 : Int)⟩)))) rfl rfl rfl (e_neq_t (xs := [Ix (z.id), Bx (z.along), Ix (z.by_)]) (ys := [Ix (b.id), .int .u8 (2), .int .i64 (0)]) tf111 tf112 tf113 rfl rfl rfl rfl (not_congr (stop_eq (x := z) (y := ⟨(b.id), (2 : UInt8), (0 : Int)⟩)))) ?_
      refine q_nil ?_
      refine f_then ?_
      refine c_if (¬ (z = ⟨(b.id), (2 : UInt8), (0 : Int)⟩)) rfl (fun hc48 => ?_) (fun hc48 => ?_)
      ·
       exact absurd hc48 (fun hne => hne (hzv _ (by first | (rw [if_pos (by omega)]; done) | (rw [if_neg (by omega), if_pos (by omega)]; done) | rw [if_neg (by omega), if_neg (by omega)])))
      ·
       refine c_skip ?_
       refine f_block ?_
       refine f_then ?_
       refine c_region ?_
       refine l_val (v := Nx (j + 1)) rfl rfl rfl (e_add (a := ((j : Nat) : Int)) (b := (1 : Int)) rfl rfl (i64n (by omega) (by omega))) ?_
       refine l_val (v := Nx (j + 1)) rfl rfl rfl (e_move) ?_
       refine l_nil ?_
       refine f_mask (L' := [pt b37 (.cells #[.slice p31 (bs.length) c32, .slice p33 (0) c34, .int .i64 (0), Ix (gy)] 27), rowF BodyF 31 p31 c32 bs, rowF RopeF 35 p33 c34 [], rowF StopF 45 p35 c36 S, pt (blk (fa30 83)) (.cells #[.int .i64 (50), .int .i64 (300), .int .i64 (5), .int .i64 (0), .int .i64 (0), .int .i64 (10), .int .i64 (5), .bool false, .bool false, .int .i64 (51), .int .i64 (340), .int .i64 (5), .int .i64 (0), .int .i64 (0), .int .i64 (10), .int .i64 (5), .bool false, .bool false, .int .i64 (52), .int .i64 (320), .int .i64 (13), .int .i64 (0), .int .i64 (0), .int .i64 (30), .int .i64 (3), .bool false, .bool false] 31), rowF BodyF 31 (sla (fa30 84)) (slc (fa30 84)) bs, pt b2 (.cells #[.slice (sla (fa30 84)) (n + 4) (slc (fa30 84)), .slice none 0 0, .int .i64 (0), Ix (gy)] 27)]) [false, true, true, true, true, true, true, true] rfl ?_
       exact f_cut ⟨j + 1, ⟨⟨rfl, rfl, rfl, rfl⟩, rfl, (by omega)⟩, (show n + 3 - (j + 1) < n + 3 - j from by omega)⟩
    ·
     refine c_skip ?_
     refine f_then ?_
     refine c_seq ?_
     refine c_seq ?_
     refine c_region ?_
     refine l_val (v := .pointer (some ⟨b40, 0, none⟩)) rfl rfl rfl (e_fieldPt (b := b40) (o := 0) rfl tf123) ?_
     refine l_val (v := Ix (z.id)) rfl rfl rfl (e_load1 tf2 (v := Ix (z.id)) rfl (k_pt 0 (cs := #[Ix (z.id), Bx (z.along), Ix (z.by_)]) (vs := [Ix (z.id)]) rfl rfl)) ?_
     refine l_val (v := .bool (decide ((z.id) = (52 : Int)))) rfl rfl rfl (e_eql (a := (z.id)) (b := (52 : Int)) rfl rfl) ?_
     refine l_nil ?_
     refine f_then ?_
     refine c_if ((z.id) = (52 : Int)) rfl (fun hc49 => ?_) (fun hc49 => ?_)
     ·
      refine c_region ?_
      refine l_val (v := .int .i64 (50)) rfl rfl rfl (e_assign) ?_
      refine l_nil ?_
      refine f_then ?_
      refine c_seq ?_
      refine c_quiet (by kernel_rfl) (by kernel_rfl) ?_
      refine q_val (v := .agg #[Ix (z.id), Bx (z.along), Ix (z.by_)]) rfl rfl rfl (e_load tf106 (cs := [Ix (z.id), Bx (z.along), Ix (z.by_)]) rfl (k_pt 0 (cs := #[Ix (z.id), Bx (z.along), Ix (z.by_)]) (vs := [Ix (z.id), Bx (z.along), Ix (z.by_)]) rfl rfl) rfl) ?_
      refine q_val (v := .pointer (some ⟨b2, 0, none⟩)) rfl rfl rfl (e_fieldPt (b := b2) (o := 0) rfl tf49) ?_
      refine q_val (v := .slice (sla (fa30 84)) (n + 4) (slc (fa30 84))) rfl rfl rfl (e_load1 tf50 (v := .slice (sla (fa30 84)) (n + 4) (slc (fa30 84))) rfl (k_pt 7 (cs := #[.slice (sla (fa30 84)) (n + 4) (slc (fa30 84)), .slice none 0 0, .int .i64 (0), Ix (gy)]) (vs := [.slice (sla (fa30 84)) (n + 4) (slc (fa30 84))]) rfl rfl)) ?_
      refine q_val (v := Nx (j)) rfl rfl rfl (e_move) ?_
      refine q_val (v := Nx (j + 1)) rfl rfl rfl (e_add (a := ((j : Nat) : Int)) (b := (1 : Int)) rfl rfl (i64n (by omega) (by omega))) ?_
      refine q_val (v := .pointer (some ((ba (sla (fa30 84))).add ((j + 1) * 9)))) rfl rfl rfl (e_indexFlN 6 (F := BodyF) (j := j + 1) (m := n + 4) (xs := bs) rfl (by omega) rfl tf43 (by omega) rfl) ?_
      refine q_val (v := .pointer (some ((ba (sla (fa30 84))).add ((j + 1) * 9)))) rfl rfl rfl (ev_eq (congrArg (fun z => Value.pointer (some z)) (show ((ba (sla (fa30 84))).add ((j + 1) * 9) : Addr).add 0 = (ba (sla (fa30 84))).add ((j + 1) * 9) by rw [Addr.add_add']; rfl)) (e_fieldAddr (a := (ba (sla (fa30 84))).add ((j + 1) * 9)) rfl tf3)) ?_
      refine q_val (v := Ix (b.id)) rfl rfl rfl (e_load1 tf2 (v := Ix (b.id)) rfl (k_flPart 6 (F := BodyF) (o := 0) (us := [Ix (b.id)]) rfl hb rfl)) ?_
      refine q_val (v := .int .i64 (50)) rfl rfl rfl (e_move) ?_
      refine q_val (v := .agg #[Ix (b.id), .int .u8 (2), .int .i64 (50)]) rfl rfl rfl (e_build tf99 tf98 (vs := [(0, Ix (b.id)), (1, .int .u8 (2)), (2, .int .i64 (50))]) (cells := #[Ix (b.id), .int .u8 (2), .int .i64 (50)]) rfl rfl) ?_
      refine q_val (v := .bool (decide (¬ (z = ⟨(b.id), (2 : UInt8), (50 : Int)⟩)))) rfl rfl rfl (e_neq_t (xs := [Ix (z.id), Bx (z.along), Ix (z.by_)]) (ys := [Ix (b.id), .int .u8 (2), .int .i64 (50)]) tf111 tf112 tf113 rfl rfl rfl rfl (not_congr (stop_eq (x := z) (y := ⟨(b.id), (2 : UInt8), (50 : Int)⟩)))) ?_
      refine q_nil ?_
      refine f_then ?_
      refine c_if (¬ (z = ⟨(b.id), (2 : UInt8), (50 : Int)⟩)) rfl (fun hc50 => ?_) (fun hc50 => ?_)
      ·
       exact absurd hc50 (fun hne => hne (hzv _ (by first | (rw [if_pos (by omega)]; done) | (rw [if_neg (by omega), if_pos (by omega)]; done) | rw [if_neg (by omega), if_neg (by omega)])))
      ·
       refine c_skip ?_
       refine f_block ?_
       refine f_then ?_
       refine c_region ?_
       refine l_val (v := Nx (j + 1)) rfl rfl rfl (e_add (a := ((j : Nat) : Int)) (b := (1 : Int)) rfl rfl (i64n (by omega) (by omega))) ?_
       refine l_val (v := Nx (j + 1)) rfl rfl rfl (e_move) ?_
       refine l_nil ?_
       refine f_mask (L' := [pt b37 (.cells #[.slice p31 (bs.length) c32, .slice p33 (0) c34, .int .i64 (0), Ix (gy)] 27), rowF BodyF 31 p31 c32 bs, rowF RopeF 35 p33 c34 [], rowF StopF 45 p35 c36 S, pt (blk (fa30 83)) (.cells #[.int .i64 (50), .int .i64 (300), .int .i64 (5), .int .i64 (0), .int .i64 (0), .int .i64 (10), .int .i64 (5), .bool false, .bool false, .int .i64 (51), .int .i64 (340), .int .i64 (5), .int .i64 (0), .int .i64 (0), .int .i64 (10), .int .i64 (5), .bool false, .bool false, .int .i64 (52), .int .i64 (320), .int .i64 (13), .int .i64 (0), .int .i64 (0), .int .i64 (30), .int .i64 (3), .bool false, .bool false] 31), rowF BodyF 31 (sla (fa30 84)) (slc (fa30 84)) bs, pt b2 (.cells #[.slice (sla (fa30 84)) (n + 4) (slc (fa30 84)), .slice none 0 0, .int .i64 (0), Ix (gy)] 27)]) [false, true, true, true, true, true, true, true] rfl ?_
       exact f_cut ⟨j + 1, ⟨⟨rfl, rfl, rfl, rfl⟩, rfl, (by omega)⟩, (show n + 3 - (j + 1) < n + 3 - j from by omega)⟩
     ·
      refine c_skip ?_
      refine f_then ?_
      refine c_seq ?_
      refine c_quiet (by kernel_rfl) (by kernel_rfl) ?_
      refine q_val (v := .agg #[Ix (z.id), Bx (z.along), Ix (z.by_)]) rfl rfl rfl (e_load tf106 (cs := [Ix (z.id), Bx (z.along), Ix (z.by_)]) rfl (k_pt 0 (cs := #[Ix (z.id), Bx (z.along), Ix (z.by_)]) (vs := [Ix (z.id), Bx (z.along), Ix (z.by_)]) rfl rfl) rfl) ?_
      refine q_val (v := .pointer (some ⟨b2, 0, none⟩)) rfl rfl rfl (e_fieldPt (b := b2) (o := 0) rfl tf49) ?_
      refine q_val (v := .slice (sla (fa30 84)) (n + 4) (slc (fa30 84))) rfl rfl rfl (e_load1 tf50 (v := .slice (sla (fa30 84)) (n + 4) (slc (fa30 84))) rfl (k_pt 7 (cs := #[.slice (sla (fa30 84)) (n + 4) (slc (fa30 84)), .slice none 0 0, .int .i64 (0), Ix (gy)]) (vs := [.slice (sla (fa30 84)) (n + 4) (slc (fa30 84))]) rfl rfl)) ?_
      refine q_val (v := Nx (j)) rfl rfl rfl (e_move) ?_
      refine q_val (v := Nx (j + 1)) rfl rfl rfl (e_add (a := ((j : Nat) : Int)) (b := (1 : Int)) rfl rfl (i64n (by omega) (by omega))) ?_
      refine q_val (v := .pointer (some ((ba (sla (fa30 84))).add ((j + 1) * 9)))) rfl rfl rfl (e_indexFlN 6 (F := BodyF) (j := j + 1) (m := n + 4) (xs := bs) rfl (by omega) rfl tf43 (by omega) rfl) ?_
      refine q_val (v := .pointer (some ((ba (sla (fa30 84))).add ((j + 1) * 9)))) rfl rfl rfl (ev_eq (congrArg (fun z => Value.pointer (some z)) (show ((ba (sla (fa30 84))).add ((j + 1) * 9) : Addr).add 0 = (ba (sla (fa30 84))).add ((j + 1) * 9) by rw [Addr.add_add']; rfl)) (e_fieldAddr (a := (ba (sla (fa30 84))).add ((j + 1) * 9)) rfl tf3)) ?_
      refine q_val (v := Ix (b.id)) rfl rfl rfl (e_load1 tf2 (v := Ix (b.id)) rfl (k_flPart 6 (F := BodyF) (o := 0) (us := [Ix (b.id)]) rfl hb rfl)) ?_
      refine q_val (v := Ix (a.id)) rfl rfl rfl (e_move) ?_
      refine q_val (v := .agg #[Ix (b.id), .int .u8 (2), Ix (a.id)]) rfl rfl rfl (e_build tf99 tf98 (vs := [(0, Ix (b.id)), (1, .int .u8 (2)), (2, Ix (a.id))]) (cells := #[Ix (b.id), .int .u8 (2), Ix (a.id)]) rfl rfl) ?_
      refine q_val (v := .bool (decide (¬ (z = ⟨(b.id), (2 : UInt8), (a.id)⟩)))) rfl rfl rfl (e_neq_t (xs := [Ix (z.id), Bx (z.along), Ix (z.by_)]) (ys := [Ix (b.id), .int .u8 (2), Ix (a.id)]) tf111 tf112 tf113 rfl rfl rfl rfl (not_congr (stop_eq (x := z) (y := ⟨(b.id), (2 : UInt8), (a.id)⟩)))) ?_
      refine q_nil ?_
      refine f_then ?_
      refine c_if (¬ (z = ⟨(b.id), (2 : UInt8), (a.id)⟩)) rfl (fun hc51 => ?_) (fun hc51 => ?_)
      ·
       exact absurd hc51 (fun hne => hne (hzv _ (by first | (rw [if_pos (by omega)]; done) | (rw [if_neg (by omega), if_pos (by omega)]; done) | rw [if_neg (by omega), if_neg (by omega)])))
      ·
       refine c_skip ?_
       refine f_block ?_
       refine f_then ?_
       refine c_region ?_
       refine l_val (v := Nx (j + 1)) rfl rfl rfl (e_add (a := ((j : Nat) : Int)) (b := (1 : Int)) rfl rfl (i64n (by omega) (by omega))) ?_
       refine l_val (v := Nx (j + 1)) rfl rfl rfl (e_move) ?_
       refine l_nil ?_
       refine f_mask (L' := [pt b37 (.cells #[.slice p31 (bs.length) c32, .slice p33 (0) c34, .int .i64 (0), Ix (gy)] 27), rowF BodyF 31 p31 c32 bs, rowF RopeF 35 p33 c34 [], rowF StopF 45 p35 c36 S, pt (blk (fa30 83)) (.cells #[.int .i64 (50), .int .i64 (300), .int .i64 (5), .int .i64 (0), .int .i64 (0), .int .i64 (10), .int .i64 (5), .bool false, .bool false, .int .i64 (51), .int .i64 (340), .int .i64 (5), .int .i64 (0), .int .i64 (0), .int .i64 (10), .int .i64 (5), .bool false, .bool false, .int .i64 (52), .int .i64 (320), .int .i64 (13), .int .i64 (0), .int .i64 (0), .int .i64 (30), .int .i64 (3), .bool false, .bool false] 31), rowF BodyF 31 (sla (fa30 84)) (slc (fa30 84)) bs, pt b2 (.cells #[.slice (sla (fa30 84)) (n + 4) (slc (fa30 84)), .slice none 0 0, .int .i64 (0), Ix (gy)] 27)]) [false, true, true, true, true, true, true, true] rfl ?_
       exact f_cut ⟨j + 1, ⟨⟨rfl, rfl, rfl, rfl⟩, rfl, (by omega)⟩, (show n + 3 - (j + 1) < n + 3 - j from by omega)⟩
  ·
   refine c_exit ?_
   refine f_then_exit ?_
   refine f_then_exit ?_
   refine f_exit ?_
   refine f_then ?_
   refine c_seq ?_
   refine c_region ?_
   refine l_val (v := .bool true) rfl rfl rfl (e_assign) ?_
   refine l_nil ?_
   refine f_then ?_
   refine c_ret ?_
   refine ret1 Tryd.results5 (v := .bool true) rfl ?_
   intro w hw
   exact ⟨rfl, st_mask [false, false, false, false, false, false, false] rfl hw⟩
end Go.Proofs
