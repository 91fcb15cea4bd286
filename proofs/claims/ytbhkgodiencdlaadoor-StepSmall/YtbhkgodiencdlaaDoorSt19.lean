/-
 The closed law: small scenes. Printed by a program of my own.
-/
import Derived.Test.YtbhkgodiencdlaaDoorSt18
namespace Go.Proofs
open Go Go.Sl Go.Stp

theorem stepRA_ok (β : Base) (w : World) (hw : St β [] w) (v rv : Value) (gx gy : Int) (bs : List KB) (rs : List KR) (hs : Sl KBR β.heap v bs) (hr : Sl KRR β.heap rv rs) (h1 : bs.length ≤ 10) (h2 : rs.length ≤ 6) (hgx : -4096 ≤ gx ∧ gx ≤ 4096) (hgy : -4096 ≤ gy ∧ gy ≤ 4096) : Calls Tryd.prog 17 #[.agg #[v, rv, Ix gx, Ix gy]] w fun r w' => ∃ (B : List KB) (R : List KR) (S : List KS) (p1 p2 sp : Option Addr) (c1 c2 sc : Nat) (x y e : Int), r = .returned (.tuple #[.agg #[.slice p1 B.length c1, .slice p2 R.length c2, Ix x, Ix y], .slice sp S.length sc, Ix e]) ∧ (B.length ≤ 10 ∧ R.length ≤ 6 ∧ (-4096 ≤ x ∧ x ≤ 4096) ∧ (-4096 ≤ y ∧ y ≤ 4096)) ∧ St β [rowF BodyF 31 p1 c1 B, rowF RopeF 35 p2 c2 R, rowF StopF 45 sp sc S] w' := by
 refine (step8_ok β w hw v rv gx gy bs rs hs hr).mono ?_
 rintro r w' (⟨hok, p1, c1, p2, c2, sp, sc, rfl, hw'⟩ | ⟨_, rfl, hw'⟩)
 ·have hl : (stepsTo rs gx gy bs bs.length).1.length = bs.length := (step_keeps hok.2.2.2.1 _).1.len
  exact ⟨_, _, _, p1, p2, sp, c1, c2, sc, gx, gy, 0, by rw [hl], ⟨by omega, h2, hgx, hgy⟩, hw'⟩
 ·exact ⟨[], [], [], none, none, none, 0, 0, 0, 0, 0, 2, rfl, ⟨by simp, by simp, by omega, by omega⟩, ((hw'.emp (row_nil _ _ _)).emp (row_nil _ _ _)).emp (row_nil _ _ _)⟩
set_option maxHeartbeats 4000000 in
theorem small_ok (β : Base) (w : World) (hw : St β [] w) (hG : GR β) : Calls Tryd.prog 4 #[] w fun r w' => r = .returned (.bool true) ∧ St β [] w' := by
 refine enter (n := 179) Tryd.func4 rfl Tryd.ntmps4 rfl ?_ hw
 refine c_seq ?_
 refine c_region ?_
 refine l_val (v := .bool false) rfl rfl rfl (e_assign) ?_
 refine l_nil ?_
 refine f_then ?_
 refine c_seq ?_
 refine c_seq ?_
 refine c_region ?_
 refine l_val (v := .int .i64 (0)) rfl rfl rfl (e_assign) ?_
 refine l_nil ?_
 refine f_then ?_
 refine c_block ?_
 refine c_loop (fun (k : Nat) (f : Fm) (L : List Res) => (f 1 = Nx (k)) ∧ L = [] ∧ (k ≤ 2592)) (fun (k : Nat) => 2592 - k) 0 ?_ ?_
 ·exact ⟨rfl, rfl, (by omega)⟩
 rintro k f0 L0 ⟨hs1, hL, hk⟩
 subst L0
 refine rebase (d := 1) hs1 ?_
 clear hs1
 refine c_seq ?_
 refine c_seq ?_
 refine c_region ?_
 refine l_val (v := Nx (k)) rfl rfl rfl (e_move) ?_
 refine l_val (v := .bool (decide (((k : Nat) : Int) < (2592 : Int)))) rfl rfl rfl (e_lss (a := ((k : Nat) : Int)) (b := (2592 : Int)) rfl rfl) ?_
 refine l_nil ?_
 refine f_then ?_
 refine c_if (((k : Nat) : Int) < (2592 : Int)) rfl (fun hc1 => ?_) (fun hc1 => ?_)
 ·
  refine c_skip ?_
  refine f_then ?_
  refine c_seq ?_
  refine c_block ?_
  refine c_seq ?_
  refine c_region ?_
  refine l_val (v := Nx (k)) rfl rfl rfl (e_move) ?_
  refine l_val (v := Nx (k % 9)) rfl rfl rfl (e_rem (a := ((k : Nat) : Int)) (b := (9 : Int)) rfl rfl (by decide) (nat_tmod _ 9)) ?_
  refine l_val (v := Ix (((k % 9 : Nat) : Int) - (1 : Int))) rfl rfl rfl (e_sub (a := ((k % 9 : Nat) : Int)) (b := (1 : Int)) rfl rfl (i64w (by omega))) ?_
  refine l_val (v := Nx (k)) rfl rfl rfl (e_move) ?_
  refine l_val (v := Nx (k / 9)) rfl rfl rfl (e_quo (a := ((k : Nat) : Int)) (b := (9 : Int)) rfl rfl (by decide) (i64n (nat_tdiv _ 9) (by omega))) ?_
  refine l_val (v := Nx ((k / 9) % 6)) rfl rfl rfl (e_rem (a := ((k / 9 : Nat) : Int)) (b := (6 : Int)) rfl rfl (by decide) (nat_tmod _ 6)) ?_
  refine l_val (v := Ix ((((k / 9) % 6 : Nat) : Int) - (1 : Int))) rfl rfl rfl (e_sub (a := (((k / 9) % 6 : Nat) : Int)) (b := (1 : Int)) rfl rfl (i64w (by omega))) ?_
  refine l_val (v := Ix (((k % 9 : Nat) : Int) - (1 : Int))) rfl rfl rfl (e_assign) ?_
  refine l_val (v := Ix ((((k / 9) % 6 : Nat) : Int) - (1 : Int))) rfl rfl rfl (e_assign) ?_
  refine l_nil ?_
  refine f_then ?_
  refine c_seq ?_
  refine c_region ?_
  refine l_val (v := Nx (k)) rfl rfl rfl (e_move) ?_
  refine l_val (v := Nx (k / 54)) rfl rfl rfl (e_quo (a := ((k : Nat) : Int)) (b := (54 : Int)) rfl rfl (by decide) (i64n (nat_tdiv _ 54) (by omega))) ?_
  refine l_val (v := Nx ((k / 54) % 4)) rfl rfl rfl (e_rem (a := ((k / 54 : Nat) : Int)) (b := (4 : Int)) rfl rfl (by decide) (nat_tmod _ 4)) ?_
  refine l_val (v := Nx (k)) rfl rfl rfl (e_move) ?_
  refine l_val (v := Nx (k / 216)) rfl rfl rfl (e_quo (a := ((k : Nat) : Int)) (b := (216 : Int)) rfl rfl (by decide) (i64n (nat_tdiv _ 216) (by omega))) ?_
  refine l_val (v := Nx ((k / 216) % 3)) rfl rfl rfl (e_rem (a := ((k / 216 : Nat) : Int)) (b := (3 : Int)) rfl rfl (by decide) (nat_tmod _ 3)) ?_
  refine l_val (v := Ix ((((k / 216) % 3 : Nat) : Int) - (1 : Int))) rfl rfl rfl (e_sub (a := (((k / 216) % 3 : Nat) : Int)) (b := (1 : Int)) rfl rfl (i64w (by omega))) ?_
  refine l_call rfl rfl rfl (cl_value (fst := []) (cap := []) (vs := [.int .i64 (1), .int .i64 (0), .int .i64 (0), .int .i64 (2), .int .i64 (2), Nx ((k / 54) % 4), Ix ((((k / 216) % 3 : Nat) : Int) - (1 : Int))]) (all := [.int .i64 (1), .int .i64 (0), .int .i64 (0), .int .i64 (2), .int .i64 (2), Nx ((k / 54) % 4), Ix ((((k / 216) % 3 : Nat) : Int) - (1 : Int))]) tf103 rfl rfl rfl) ?_
  intro w hw
  obtain ⟨β1, sb, kn, hw1, back⟩ := St.frame_all hw
  refine (box_ok β1 w hw1 (1 : Int) (0 : Int) (0 : Int) (2 : Int) (2 : Int) (((k / 54) % 4 : Nat) : Int) ((((k / 216) % 3 : Nat) : Int) - (1 : Int))).mono ?_
  rintro e w' ⟨rfl, hw'⟩
  refine ⟨_, rfl, _, back _ _ hw', ?_⟩
  clear hw hw1 hw' back kn sb
  refine l_val (v := Ix (((k % 9 : Nat) : Int) - (1 : Int))) rfl rfl rfl (e_move) ?_
  refine l_val (v := Ix ((((k / 9) % 6 : Nat) : Int) - (1 : Int))) rfl rfl rfl (e_move) ?_
  refine l_val (v := Nx (k)) rfl rfl rfl (e_move) ?_
  refine l_val (v := Nx (k % 3)) rfl rfl rfl (e_rem (a := ((k : Nat) : Int)) (b := (3 : Int)) rfl rfl (by decide) (nat_tmod _ 3)) ?_
  refine l_val (v := Ix (0 - ((k % 3 : Nat) : Int))) rfl rfl rfl (e_neg (a := ((k % 3 : Nat) : Int)) rfl (i64w (by omega))) ?_
  refine l_val (v := Nx (k)) rfl rfl rfl (e_move) ?_
  refine l_val (v := Nx (k / 648)) rfl rfl rfl (e_quo (a := ((k : Nat) : Int)) (b := (648 : Int)) rfl rfl (by decide) (i64n (nat_tdiv _ 648) (by omega))) ?_
  refine l_val (v := Nx ((k / 648) % 4)) rfl rfl rfl (e_rem (a := ((k / 648 : Nat) : Int)) (b := (4 : Int)) rfl rfl (by decide) (nat_tmod _ 4)) ?_
  refine l_val (v := Ix ((((k / 648) % 4 : Nat) : Int) - (2 : Int))) rfl rfl rfl (e_sub (a := (((k / 648) % 4 : Nat) : Int)) (b := (2 : Int)) rfl rfl (i64w (by omega))) ?_
  refine l_call rfl rfl rfl (cl_value (fst := []) (cap := []) (vs := [.int .i64 (2), Ix (((k % 9 : Nat) : Int) - (1 : Int)), Ix ((((k / 9) % 6 : Nat) : Int) - (1 : Int)), .int .i64 (1), .int .i64 (2), Ix (0 - ((k % 3 : Nat) : Int)), Ix ((((k / 648) % 4 : Nat) : Int) - (2 : Int))]) (all := [.int .i64 (2), Ix (((k % 9 : Nat) : Int) - (1 : Int)), Ix ((((k / 9) % 6 : Nat) : Int) - (1 : Int)), .int .i64 (1), .int .i64 (2), Ix (0 - ((k % 3 : Nat) : Int)), Ix ((((k / 648) % 4 : Nat) : Int) - (2 : Int))]) tf103 rfl rfl rfl) ?_
  intro w hw
  obtain ⟨β1, sb, kn, hw1, back⟩ := St.frame_all hw
  refine (box_ok β1 w hw1 (2 : Int) (((k % 9 : Nat) : Int) - (1 : Int)) ((((k / 9) % 6 : Nat) : Int) - (1 : Int)) (1 : Int) (2 : Int) (0 - ((k % 3 : Nat) : Int)) ((((k / 648) % 4 : Nat) : Int) - (2 : Int))).mono ?_
  rintro e w' ⟨rfl, hw'⟩
  refine ⟨_, rfl, _, back _ _ hw', ?_⟩
  clear hw hw1 hw' back kn sb
  refine l_mv rfl rfl rfl (m_alloc tf58) ?_
  rintro _ _ ⟨b2, rfl, rfl⟩
  refine l_mv rfl rfl rfl (m_alloc tf58) ?_
  rintro _ _ ⟨b3, rfl, rfl⟩
  refine l_mu rfl rfl (m_store 1 tf22 (b := b2) (o := 0) (T := 31) (cs := #[.int .i64 (0), .int .i64 (0), .int .i64 (0), .int .i64 (0), .int .i64 (0), .int .i64 (0), .int .i64 (0), .bool false, .bool false]) (cs' := #[.int .i64 (1), .int .i64 (0), .int .i64 (0), Nx ((k / 54) % 4), Ix ((((k / 216) % 3 : Nat) : Int) - (1 : Int)), .int .i64 (2), .int .i64 (2), .bool false, .bool false]) (v := .agg #[.int .i64 (1), .int .i64 (0), .int .i64 (0), Nx ((k / 54) % 4), Ix ((((k / 216) % 3 : Nat) : Int) - (1 : Int)), .int .i64 (2), .int .i64 (2), .bool false, .bool false]) rfl rfl rfl rfl rfl rfl rfl) ?_
  refine l_mu rfl rfl (m_store 0 tf22 (b := b3) (o := 0) (T := 31) (cs := #[.int .i64 (0), .int .i64 (0), .int .i64 (0), .int .i64 (0), .int .i64 (0), .int .i64 (0), .int .i64 (0), .bool false, .bool false]) (cs' := #[.int .i64 (2), Ix (((k % 9 : Nat) : Int) - (1 : Int)), Ix ((((k / 9) % 6 : Nat) : Int) - (1 : Int)), Ix (0 - ((k % 3 : Nat) : Int)), Ix ((((k / 648) % 4 : Nat) : Int) - (2 : Int)), .int .i64 (1), .int .i64 (2), .bool false, .bool false]) (v := .agg #[.int .i64 (2), Ix (((k % 9 : Nat) : Int) - (1 : Int)), Ix ((((k / 9) % 6 : Nat) : Int) - (1 : Int)), Ix (0 - ((k % 3 : Nat) : Int)), Ix ((((k / 648) % 4 : Nat) : Int) - (2 : Int)), .int .i64 (1), .int .i64 (2), .bool false, .bool false]) rfl rfl rfl rfl rfl rfl rfl) ?_
  refine l_nil ?_
  refine f_then ?_
  refine c_seq_cut (fun (f : Fm) (L : List Res) => ∃ (ba : KB), (f 1 = Nx (k) ∧ f 4 = .pointer (some ⟨b2, 0, none⟩) ∧ f 5 = .pointer (some ⟨b3, 0, none⟩)) ∧ L = [pt b3 (.cells #[.int .i64 (2), Ix (((k % 9 : Nat) : Int) - (1 : Int)), Ix ((((k / 9) % 6 : Nat) : Int) - (1 : Int)), Ix (0 - ((k % 3 : Nat) : Int)), Ix ((((k / 648) % 4 : Nat) : Int) - (2 : Int)), .int .i64 (1), .int .i64 (2), .bool false, .bool false] 31), pt b2 (.cells (bC ba) 31)] ∧ (True)) ?_ ?_
  ·
   refine c_seq ?_
   refine c_region ?_
   refine l_val (v := Nx (k)) rfl rfl rfl (e_move) ?_
   refine l_val (v := Nx (k % 2)) rfl rfl rfl (e_rem (a := ((k : Nat) : Int)) (b := (2 : Int)) rfl rfl (by decide) (nat_tmod _ 2)) ?_
   refine l_val (v := .bool (decide (((k % 2 : Nat) : Int) = (1 : Int)))) rfl rfl rfl (e_eql (a := ((k % 2 : Nat) : Int)) (b := (1 : Int)) rfl rfl) ?_
   refine l_nil ?_
   refine f_then ?_
   refine c_if (((k % 2 : Nat) : Int) = (1 : Int)) rfl (fun hc4 => ?_) (fun hc4 => ?_)
   ·
    refine c_region ?_
    refine l_val (v := .pointer (some ⟨b2, 7, none⟩)) rfl rfl rfl (e_fieldPt (b := b2) (o := 0) rfl tf12) ?_
    refine l_mu rfl rfl (m_store 1 tf13 (b := b2) (o := 7) (T := 31) (cs := #[.int .i64 (1), .int .i64 (0), .int .i64 (0), Nx ((k / 54) % 4), Ix ((((k / 216) % 3 : Nat) : Int) - (1 : Int)), .int .i64 (2), .int .i64 (2), .bool false, .bool false]) (cs' := #[.int .i64 (1), .int .i64 (0), .int .i64 (0), Nx ((k / 54) % 4), Ix ((((k / 216) % 3 : Nat) : Int) - (1 : Int)), .int .i64 (2), .int .i64 (2), .bool true, .bool false]) (v := .bool true) rfl rfl rfl rfl rfl rfl rfl) ?_
    refine l_nil ?_
    exact f_cut ⟨(⟨1, 0, 0, (((k / 54) % 4 : Nat) : Int), (((k / 216) % 3 : Nat) : Int) - (1 : Int), 2, 2, true, false⟩ : KB), ⟨rfl, rfl, rfl⟩, rfl, trivial⟩
   ·
    refine c_skip ?_
    exact f_cut ⟨(⟨1, 0, 0, (((k / 54) % 4 : Nat) : Int), (((k / 216) % 3 : Nat) : Int) - (1 : Int), 2, 2, false, false⟩ : KB), ⟨rfl, rfl, rfl⟩, rfl, trivial⟩
  rintro f0 L0 ⟨ba, ⟨hs1, hs4, hs5⟩, hL, -⟩
  subst L0
  refine rebase (d := 1) hs1 ?_
  refine rebase (d := 4) hs4 ?_
  refine rebase (d := 5) hs5 ?_
  clear hs1 hs4 hs5
  refine c_seq_cut (fun (f : Fm) (L : List Res) => ∃ (bb : KB), (f 1 = Nx (k) ∧ f 4 = .pointer (some ⟨b2, 0, none⟩) ∧ f 5 = .pointer (some ⟨b3, 0, none⟩)) ∧ L = [pt b3 (.cells (bC bb) 31), pt b2 (.cells (bC ba) 31)] ∧ (True)) ?_ ?_
  ·
   refine c_seq ?_
   refine c_region ?_
   refine l_val (v := Nx (k)) rfl rfl rfl (e_move) ?_
   refine l_val (v := Nx (k % 5)) rfl rfl rfl (e_rem (a := ((k : Nat) : Int)) (b := (5 : Int)) rfl rfl (by decide) (nat_tmod _ 5)) ?_
   refine l_val (v := .bool (decide (((k % 5 : Nat) : Int) < (2 : Int)))) rfl rfl rfl (e_lss (a := ((k % 5 : Nat) : Int)) (b := (2 : Int)) rfl rfl) ?_
   refine l_nil ?_
   refine f_then ?_
   refine c_if (((k % 5 : Nat) : Int) < (2 : Int)) rfl (fun hc5 => ?_) (fun hc5 => ?_)
   ·
    refine c_region ?_
    refine l_val (v := .pointer (some ⟨b3, 5, none⟩)) rfl rfl rfl (e_fieldPt (b := b3) (o := 0) rfl tf10) ?_
    refine l_val (v := .int .i64 (1)) rfl rfl rfl (e_load1 tf2 (v := .int .i64 (1)) rfl (k_pt 0 (cs := #[.int .i64 (2), Ix (((k % 9 : Nat) : Int) - (1 : Int)), Ix ((((k / 9) % 6 : Nat) : Int) - (1 : Int)), Ix (0 - ((k % 3 : Nat) : Int)), Ix ((((k / 648) % 4 : Nat) : Int) - (2 : Int)), .int .i64 (1), .int .i64 (2), .bool false, .bool false]) (vs := [.int .i64 (1)]) rfl rfl)) ?_
    refine l_val (v := .pointer (some ⟨b3, 7, none⟩)) rfl rfl rfl (e_fieldPt (b := b3) (o := 0) rfl tf12) ?_
    refine l_mu rfl rfl (m_store 0 tf13 (b := b3) (o := 7) (T := 31) (cs := #[.int .i64 (2), Ix (((k % 9 : Nat) : Int) - (1 : Int)), Ix ((((k / 9) % 6 : Nat) : Int) - (1 : Int)), Ix (0 - ((k % 3 : Nat) : Int)), Ix ((((k / 648) % 4 : Nat) : Int) - (2 : Int)), .int .i64 (1), .int .i64 (2), .bool false, .bool false]) (cs' := #[.int .i64 (2), Ix (((k % 9 : Nat) : Int) - (1 : Int)), Ix ((((k / 9) % 6 : Nat) : Int) - (1 : Int)), Ix (0 - ((k % 3 : Nat) : Int)), Ix ((((k / 648) % 4 : Nat) : Int) - (2 : Int)), .int .i64 (1), .int .i64 (2), .bool true, .bool false]) (v := .bool true) rfl rfl rfl rfl rfl rfl rfl) ?_
    refine l_val (v := .pointer (some ⟨b3, 6, none⟩)) rfl rfl rfl (e_fieldPt (b := b3) (o := 0) rfl tf11) ?_
    refine l_mu rfl rfl (m_store 0 tf2 (b := b3) (o := 6) (T := 31) (cs := #[.int .i64 (2), Ix (((k % 9 : Nat) : Int) - (1 : Int)), Ix ((((k / 9) % 6 : Nat) : Int) - (1 : Int)), Ix (0 - ((k % 3 : Nat) : Int)), Ix ((((k / 648) % 4 : Nat) : Int) - (2 : Int)), .int .i64 (1), .int .i64 (2), .bool true, .bool false]) (cs' := #[.int .i64 (2), Ix (((k % 9 : Nat) : Int) - (1 : Int)), Ix ((((k / 9) % 6 : Nat) : Int) - (1 : Int)), Ix (0 - ((k % 3 : Nat) : Int)), Ix ((((k / 648) % 4 : Nat) : Int) - (2 : Int)), .int .i64 (1), .int .i64 (1), .bool true, .bool false]) (v := .int .i64 (1)) rfl rfl rfl rfl rfl rfl rfl) ?_
    refine l_nil ?_
    exact f_cut ⟨(⟨2, ((k % 9 : Nat) : Int) - (1 : Int), (((k / 9) % 6 : Nat) : Int) - (1 : Int), 0 - ((k % 3 : Nat) : Int), (((k / 648) % 4 : Nat) : Int) - (2 : Int), 1, 1, true, false⟩ : KB), ⟨rfl, rfl, rfl⟩, rfl, trivial⟩
   ·
    refine c_skip ?_
    exact f_cut ⟨(⟨2, ((k % 9 : Nat) : Int) - (1 : Int), (((k / 9) % 6 : Nat) : Int) - (1 : Int), 0 - ((k % 3 : Nat) : Int), (((k / 648) % 4 : Nat) : Int) - (2 : Int), 1, 2, false, false⟩ : KB), ⟨rfl, rfl, rfl⟩, rfl, trivial⟩
  rintro f0 L0 ⟨bb, ⟨hs1, hs4, hs5⟩, hL, -⟩
  subst L0
  refine rebase (d := 1) hs1 ?_
  refine rebase (d := 4) hs4 ?_
  refine rebase (d := 5) hs5 ?_
  clear hs1 hs4 hs5
  refine c_seq_cut (fun (f : Fm) (L : List Res) => ∃ (bc : KB), (f 1 = Nx (k) ∧ f 4 = .pointer (some ⟨b2, 0, none⟩) ∧ f 5 = .pointer (some ⟨b3, 0, none⟩)) ∧ L = [pt b3 (.cells (bC bc) 31), pt b2 (.cells (bC ba) 31)] ∧ (True)) ?_ ?_
  ·
   refine c_seq ?_
   refine c_region ?_
   refine l_val (v := Nx (k)) rfl rfl rfl (e_move) ?_
   refine l_val (v := Nx (k % 7)) rfl rfl rfl (e_rem (a := ((k : Nat) : Int)) (b := (7 : Int)) rfl rfl (by decide) (nat_tmod _ 7)) ?_
   refine l_val (v := .bool (decide (((k % 7 : Nat) : Int) = (0 : Int)))) rfl rfl rfl (e_eql (a := ((k % 7 : Nat) : Int)) (b := (0 : Int)) rfl rfl) ?_
   refine l_nil ?_
   refine f_then ?_
   refine c_if (((k % 7 : Nat) : Int) = (0 : Int)) rfl (fun hc6 => ?_) (fun hc6 => ?_)
   ·
    refine c_region ?_
    refine l_val (v := .agg (bC bb)) rfl rfl rfl (e_load tf22 (cs := (bodyE bb)) rfl (k_pt 0 (cs := (bC bb)) (vs := (bodyE bb)) rfl rfl) rfl) ?_
    refine l_call rfl rfl rfl (cl_value (fst := []) (cap := []) (vs := [.agg (bC bb)]) (all := [.agg (bC bb)]) tf107 rfl rfl rfl) ?_
    intro w hw
    obtain ⟨β1, sb, kn, hw1, back⟩ := St.frame_all hw
    refine (fixed_ok β1 w hw1 bb).mono ?_
    rintro e w' ⟨rfl, hw'⟩
    refine ⟨_, rfl, _, back _ _ hw', ?_⟩
    clear hw hw1 hw' back kn sb
    refine l_mu rfl rfl (m_store 0 tf22 (b := b3) (o := 0) (T := 31) (cs := (bC bb)) (cs' := #[Ix (bb.id), Ix (bb.x), Ix (bb.y), .int .i64 (0), .int .i64 (0), Ix (bb.w), Ix (bb.h), .bool (bb.round), .bool true]) (v := .agg #[Ix (bb.id), Ix (bb.x), Ix (bb.y), .int .i64 (0), .int .i64 (0), Ix (bb.w), Ix (bb.h), .bool (bb.round), .bool true]) rfl rfl rfl rfl rfl rfl rfl) ?_
    refine l_nil ?_
    exact f_cut ⟨(⟨bb.id, bb.x, bb.y, 0, 0, bb.w, bb.h, bb.round, true⟩ : KB), ⟨rfl, rfl, rfl⟩, rfl, trivial⟩
   ·
    refine c_skip ?_
    exact f_cut ⟨bb, ⟨rfl, rfl, rfl⟩, rfl, trivial⟩
  rintro f0 L0 ⟨bc, ⟨hs1, hs4, hs5⟩, hL, -⟩
  subst L0
  refine rebase (d := 1) hs1 ?_
  refine rebase (d := 4) hs4 ?_
  refine rebase (d := 5) hs5 ?_
  clear hs1 hs4 hs5
  refine c_seq ?_
  refine c_region ?_
  refine l_val (v := .agg (bC ba)) rfl rfl rfl (e_load tf22 (cs := (bodyE ba)) rfl (k_pt 1 (cs := (bC ba)) (vs := (bodyE ba)) rfl rfl) rfl) ?_
  refine l_val (v := .agg (bC bc)) rfl rfl rfl (e_load tf22 (cs := (bodyE bc)) rfl (k_pt 0 (cs := (bC bc)) (vs := (bodyE bc)) rfl rfl) rfl) ?_
  refine l_mv rfl rfl rfl (m_slices tf43 tf58 (vs := [(0, .agg (bC ba)), (1, .agg (bC bc))]) (cells := #[Ix (ba.id), Ix (ba.x), Ix (ba.y), Ix (ba.vx), Ix (ba.vy), Ix (ba.w), Ix (ba.h), .bool (ba.round), .bool (ba.fixed), Ix (bc.id), Ix (bc.x), Ix (bc.y), Ix (bc.vx), Ix (bc.vy), Ix (bc.w), Ix (bc.h), .bool (bc.round), .bool (bc.fixed)]) rfl rfl rfl (by kernel_rfl)) ?_
  rintro _ _ ⟨b7, rfl, rfl⟩
  refine l_val (v := Nx (k)) rfl rfl rfl (e_move) ?_
  refine l_val (v := Nx (k % 4)) rfl rfl rfl (e_rem (a := ((k : Nat) : Int)) (b := (4 : Int)) rfl rfl (by decide) (nat_tmod _ 4)) ?_
  refine l_val (v := Ix (((k % 4 : Nat) : Int) - (2 : Int))) rfl rfl rfl (e_sub (a := ((k % 4 : Nat) : Int)) (b := (2 : Int)) rfl rfl (i64w (by omega))) ?_
  refine l_val (v := .agg #[.int .i64 (0), Ix (((k % 4 : Nat) : Int) - (2 : Int))]) rfl rfl rfl (e_build tf17 tf16 (vs := [(1, Ix (((k % 4 : Nat) : Int) - (2 : Int)))]) (cells := #[.int .i64 (0), Ix (((k % 4 : Nat) : Int) - (2 : Int))]) rfl rfl) ?_
  refine l_val (v := .agg #[.slice (some ⟨b7, 0, none⟩) 2 2, .slice none 0 0, .int .i64 (0), Ix (((k % 4 : Nat) : Int) - (2 : Int))]) rfl rfl rfl (e_build tf85 tf88 (vs := [(0, .slice (some ⟨b7, 0, none⟩) 2 2), (2, .agg #[.int .i64 (0), Ix (((k % 4 : Nat) : Int) - (2 : Int))])]) (cells := #[.slice (some ⟨b7, 0, none⟩) 2 2, .slice none 0 0, .int .i64 (0), Ix (((k % 4 : Nat) : Int) - (2 : Int))]) rfl rfl) ?_
  refine l_mv rfl rfl rfl (m_alloc tf85) ?_
  rintro _ _ ⟨b8, rfl, rfl⟩
  refine l_mu rfl rfl (m_store 0 tf86 (b := b8) (o := 0) (T := 27) (cs := #[.slice none 0 0, .slice none 0 0, .int .i64 (0), .int .i64 (0)]) (cs' := #[.slice (some ⟨b7, 0, none⟩) 2 2, .slice none 0 0, .int .i64 (0), Ix (((k % 4 : Nat) : Int) - (2 : Int))]) (v := .agg #[.slice (some ⟨b7, 0, none⟩) 2 2, .slice none 0 0, .int .i64 (0), Ix (((k % 4 : Nat) : Int) - (2 : Int))]) rfl rfl rfl rfl rfl rfl rfl) ?_
  refine l_nil ?_
  refine f_then ?_
  refine c_seq ?_
  refine c_seq ?_
  refine c_region ?_
  refine l_val (v := Nx (k)) rfl rfl rfl (e_move) ?_
  refine l_val (v := Nx (k % 3)) rfl rfl rfl (e_rem (a := ((k : Nat) : Int)) (b := (3 : Int)) rfl rfl (by decide) (nat_tmod _ 3)) ?_
  refine l_val (v := .bool (decide (((k % 3 : Nat) : Int) = (0 : Int)))) rfl rfl rfl (e_eql (a := ((k % 3 : Nat) : Int)) (b := (0 : Int)) rfl rfl) ?_
  refine l_nil ?_
  refine f_then ?_
  refine c_if (((k % 3 : Nat) : Int) = (0 : Int)) rfl (fun hc9 => ?_) (fun hc9 => ?_)
  ·
   refine c_region ?_
   refine l_val (v := Nx (k)) rfl rfl rfl (e_move) ?_
   refine l_val (v := Nx (k % 10)) rfl rfl rfl (e_rem (a := ((k : Nat) : Int)) (b := (10 : Int)) rfl rfl (by decide) (nat_tmod _ 10)) ?_
   refine l_val (v := .agg #[.int .i64 (1), .int .i64 (2), Nx (k % 10)]) rfl rfl rfl (e_build tf77 tf110 (vs := [(0, .int .i64 (1)), (1, .int .i64 (2)), (2, Nx (k % 10))]) (cells := #[.int .i64 (1), .int .i64 (2), Nx (k % 10)]) rfl rfl) ?_
   refine l_mv rfl rfl rfl (m_slices tf46 tf77 (vs := [(0, .agg #[.int .i64 (1), .int .i64 (2), Nx (k % 10)])]) (cells := #[.int .i64 (1), .int .i64 (2), Nx (k % 10)]) rfl rfl rfl rfl) ?_
   rintro _ _ ⟨b10, rfl, rfl⟩
   refine l_val (v := .pointer (some ⟨b8, 1, none⟩)) rfl rfl rfl (e_fieldPt (b := b8) (o := 0) rfl tf55) ?_
   refine l_mu rfl rfl (m_store 1 tf56 (b := b8) (o := 1) (T := 27) (cs := #[.slice (some ⟨b7, 0, none⟩) 2 2, .slice none 0 0, .int .i64 (0), Ix (((k % 4 : Nat) : Int) - (2 : Int))]) (cs' := #[.slice (some ⟨b7, 0, none⟩) 2 2, .slice (some ⟨b10, 0, none⟩) 1 1, .int .i64 (0), Ix (((k % 4 : Nat) : Int) - (2 : Int))]) (v := .slice (some ⟨b10, 0, none⟩) 1 1) rfl rfl rfl rfl rfl rfl rfl) ?_
   refine l_nil ?_
   refine f_then ?_
   refine c_seq ?_
   refine c_region ?_
   refine l_val (v := .agg #[.slice (some ⟨b7, 0, none⟩) 2 2, .slice (some ⟨b10, 0, none⟩) 1 1, .int .i64 (0), Ix (((k % 4 : Nat) : Int) - (2 : Int))]) rfl rfl rfl (e_load tf86 (cs := [.slice (some ⟨b7, 0, none⟩) 2 2, .slice (some ⟨b10, 0, none⟩) 1 1, .int .i64 (0), Ix (((k % 4 : Nat) : Int) - (2 : Int))]) rfl (k_pt 1 (cs := #[.slice (some ⟨b7, 0, none⟩) 2 2, .slice (some ⟨b10, 0, none⟩) 1 1, .int .i64 (0), Ix (((k % 4 : Nat) : Int) - (2 : Int))]) (vs := [.slice (some ⟨b7, 0, none⟩) 2 2, .slice (some ⟨b10, 0, none⟩) 1 1, .int .i64 (0), Ix (((k % 4 : Nat) : Int) - (2 : Int))]) rfl rfl) rfl) ?_
   refine l_call rfl rfl rfl (cl_value (fst := []) (cap := []) (vs := [.agg #[.slice (some ⟨b7, 0, none⟩) 2 2, .slice (some ⟨b10, 0, none⟩) 1 1, .int .i64 (0), Ix (((k % 4 : Nat) : Int) - (2 : Int))]]) (all := [.agg #[.slice (some ⟨b7, 0, none⟩) 2 2, .slice (some ⟨b10, 0, none⟩) 1 1, .int .i64 (0), Ix (((k % 4 : Nat) : Int) - (2 : Int))]]) tf156 rfl rfl rfl) ?_
   intro w hw
   obtain ⟨β1, sb, kn, hw1, back⟩ := St.frame_all hw
   refine (steps_ok β1 w hw1 _ _ (0 : Int) (((k % 4 : Nat) : Int) - (2 : Int)) [ba, bc] [(⟨1, 2, ((k % 10 : Nat) : Int)⟩ : KR)] (kn _ (k_ptFls (F := BodyF) 2 (m := 2) (xs := [ba, bc]) rfl rfl rfl (by simp))) (kn _ (k_ptFls (F := RopeF) 0 (m := 1) (xs := [(⟨1, 2, ((k % 10 : Nat) : Int)⟩ : KR)]) rfl rfl rfl (by simp))) (by omega) (by omega) (GR.mono sb hG) (by simp) (by simp)).mono ?_
   rintro e w' ⟨rfl, hw'⟩
   refine ⟨_, rfl, _, back _ _ hw', ?_⟩
   clear hw hw1 hw' back kn sb
   refine l_val (v := .bool false) rfl rfl rfl (e_not (a := true) rfl) ?_
   refine l_nil ?_
   refine f_then ?_
   refine c_no rfl ?_
   refine c_skip ?_
   refine f_block ?_
   refine f_then ?_
   refine c_region ?_
   refine l_val (v := Nx (k)) rfl rfl rfl (e_move) ?_
   refine l_val (v := Nx (k + 1)) rfl rfl rfl (e_add (a := ((k : Nat) : Int)) (b := (1 : Int)) rfl rfl (i64n (by omega) (by omega))) ?_
   refine l_val (v := Nx (k + 1)) rfl rfl rfl (e_assign) ?_
   refine l_nil ?_
   refine f_mask (L' := []) [false, false, false, false, false] rfl ?_
   exact f_cut ⟨k + 1, ⟨rfl, rfl, (by omega)⟩, (show 2592 - (k + 1) < 2592 - k from by omega)⟩
  ·
   refine c_skip ?_
   refine f_then ?_
   refine c_seq ?_
   refine c_region ?_
   refine l_val (v := .agg #[.slice (some ⟨b7, 0, none⟩) 2 2, .slice none 0 0, .int .i64 (0), Ix (((k % 4 : Nat) : Int) - (2 : Int))]) rfl rfl rfl (e_load tf86 (cs := [.slice (some ⟨b7, 0, none⟩) 2 2, .slice none 0 0, .int .i64 (0), Ix (((k % 4 : Nat) : Int) - (2 : Int))]) rfl (k_pt 0 (cs := #[.slice (some ⟨b7, 0, none⟩) 2 2, .slice none 0 0, .int .i64 (0), Ix (((k % 4 : Nat) : Int) - (2 : Int))]) (vs := [.slice (some ⟨b7, 0, none⟩) 2 2, .slice none 0 0, .int .i64 (0), Ix (((k % 4 : Nat) : Int) - (2 : Int))]) rfl rfl) rfl) ?_
   refine l_call rfl rfl rfl (cl_value (fst := []) (cap := []) (vs := [.agg #[.slice (some ⟨b7, 0, none⟩) 2 2, .slice none 0 0, .int .i64 (0), Ix (((k % 4 : Nat) : Int) - (2 : Int))]]) (all := [.agg #[.slice (some ⟨b7, 0, none⟩) 2 2, .slice none 0 0, .int .i64 (0), Ix (((k % 4 : Nat) : Int) - (2 : Int))]]) tf156 rfl rfl rfl) ?_
   intro w hw
   obtain ⟨β1, sb, kn, hw1, back⟩ := St.frame_all hw
   refine (steps_ok β1 w hw1 _ _ (0 : Int) (((k % 4 : Nat) : Int) - (2 : Int)) [ba, bc] [] (kn _ (k_ptFls (F := BodyF) 1 (m := 2) (xs := [ba, bc]) rfl rfl rfl (by simp))) (Sl.nil _ _) (by omega) (by omega) (GR.mono sb hG) (by simp) (by simp)).mono ?_
   rintro e w' ⟨rfl, hw'⟩
   refine ⟨_, rfl, _, back _ _ hw', ?_⟩
   clear hw hw1 hw' back kn sb
   refine l_val (v := .bool false) rfl rfl rfl (e_not (a := true) rfl) ?_
   refine l_nil ?_
   refine f_then ?_
   refine c_no rfl ?_
   refine c_skip ?_
   refine f_block ?_
   refine f_then ?_
   refine c_region ?_
   refine l_val (v := Nx (k)) rfl rfl rfl (e_move) ?_
   refine l_val (v := Nx (k + 1)) rfl rfl rfl (e_add (a := ((k : Nat) : Int)) (b := (1 : Int)) rfl rfl (i64n (by omega) (by omega))) ?_
   refine l_val (v := Nx (k + 1)) rfl rfl rfl (e_assign) ?_
   refine l_nil ?_
   refine f_mask (L' := []) [false, false, false, false] rfl ?_
   exact f_cut ⟨k + 1, ⟨rfl, rfl, (by omega)⟩, (show 2592 - (k + 1) < 2592 - k from by omega)⟩
 ·
  refine c_exit ?_
  refine f_then_exit ?_
  refine f_then_exit ?_
  refine f_exit ?_
  refine f_then ?_
  refine c_seq ?_
  refine c_region ?_
  refine l_call rfl rfl rfl (cl_value (fst := []) (cap := []) (vs := [.int .i64 (0), .int .i64 (0), .int .i64 (-10), .int .i64 (100), .int .i64 (10), .int .i64 (0), .int .i64 (0)]) (all := [.int .i64 (0), .int .i64 (0), .int .i64 (-10), .int .i64 (100), .int .i64 (10), .int .i64 (0), .int .i64 (0)]) tf103 rfl rfl rfl) ?_
  intro w hw
  obtain ⟨β1, sb, kn, hw1, back⟩ := St.frame_all hw
  refine (box_ok β1 w hw1 (0 : Int) (0 : Int) (-10 : Int) (100 : Int) (10 : Int) (0 : Int) (0 : Int)).mono ?_
  rintro e w' ⟨rfl, hw'⟩
  refine ⟨_, rfl, _, back _ _ hw', ?_⟩
  clear hw hw1 hw' back kn sb
  refine l_call rfl rfl rfl (cl_value (fst := []) (cap := []) (vs := [.agg #[.int .i64 (0), .int .i64 (0), .int .i64 (-10), .int .i64 (0), .int .i64 (0), .int .i64 (100), .int .i64 (10), .bool false, .bool false]]) (all := [.agg #[.int .i64 (0), .int .i64 (0), .int .i64 (-10), .int .i64 (0), .int .i64 (0), .int .i64 (100), .int .i64 (10), .bool false, .bool false]]) tf107 rfl rfl rfl) ?_
  intro w hw
  obtain ⟨β1, sb, kn, hw1, back⟩ := St.frame_all hw
  refine (fixed_ok β1 w hw1 (⟨0, 0, -10, 0, 0, 100, 10, false, false⟩ : KB)).mono ?_
  rintro e w' ⟨rfl, hw'⟩
  refine ⟨_, rfl, _, back _ _ hw', ?_⟩
  clear hw hw1 hw' back kn sb
  refine l_mv rfl rfl rfl (m_slices tf43 tf58 (vs := [(0, .agg #[.int .i64 (0), .int .i64 (0), .int .i64 (-10), .int .i64 (0), .int .i64 (0), .int .i64 (100), .int .i64 (10), .bool false, .bool true])]) (cells := #[.int .i64 (0), .int .i64 (0), .int .i64 (-10), .int .i64 (0), .int .i64 (0), .int .i64 (100), .int .i64 (10), .bool false, .bool true]) rfl rfl rfl (by kernel_rfl)) ?_
  rintro _ _ ⟨b11, rfl, rfl⟩
  refine l_val (v := .agg #[.int .i64 (1), .int .i64 (-9)]) rfl rfl rfl (e_build tf17 tf16 (vs := [(0, .int .i64 (1)), (1, .int .i64 (-9))]) (cells := #[.int .i64 (1), .int .i64 (-9)]) rfl rfl) ?_
  refine l_val (v := .agg #[.slice (some ⟨b11, 0, none⟩) 1 1, .slice none 0 0, .int .i64 (1), .int .i64 (-9)]) rfl rfl rfl (e_build tf85 tf88 (vs := [(0, .slice (some ⟨b11, 0, none⟩) 1 1), (2, .agg #[.int .i64 (1), .int .i64 (-9)])]) (cells := #[.slice (some ⟨b11, 0, none⟩) 1 1, .slice none 0 0, .int .i64 (1), .int .i64 (-9)]) rfl rfl) ?_
  refine l_mv rfl rfl rfl (m_alloc tf85) ?_
  rintro _ _ ⟨b12, rfl, rfl⟩
  refine l_mu rfl rfl (m_store 0 tf86 (b := b12) (o := 0) (T := 27) (cs := #[.slice none 0 0, .slice none 0 0, .int .i64 (0), .int .i64 (0)]) (cs' := #[.slice (some ⟨b11, 0, none⟩) 1 1, .slice none 0 0, .int .i64 (1), .int .i64 (-9)]) (v := .agg #[.slice (some ⟨b11, 0, none⟩) 1 1, .slice none 0 0, .int .i64 (1), .int .i64 (-9)]) rfl rfl rfl rfl rfl rfl rfl) ?_
  refine l_nil ?_
  refine f_then ?_
  refine c_seq ?_
  refine c_seq ?_
  refine c_conseq 1 (r' := rowF BodyF 31 (some ⟨b11, 0, none⟩) 1 [(⟨0, 0, -10, 0, 0, 100, 10, false, true⟩ : KB)]) rfl (pt_rowF (F := BodyF) (xs := [(⟨0, 0, -10, 0, 0, 100, 10, false, true⟩ : KB)]) rfl (by decide)) ?_
  refine c_region ?_
  refine l_val (v := .int .i64 (1)) rfl rfl rfl (e_assign) ?_
  refine l_nil ?_
  refine f_then ?_
  refine c_block ?_
  refine c_loop (fun (x_ : Nat × Option Addr × Nat × List KB) (f : Fm) (L : List Res) => match x_ with | (j, p, c, ys) => (f 7 = .pointer (some ⟨b12, 0, none⟩) ∧ f 8 = Nx (j)) ∧ L = [pt b12 (.cells #[.slice p (ys.length) c, .slice none 0 0, .int .i64 (1), .int .i64 (-9)] 27), rowF BodyF 31 p c ys] ∧ (ys.length = j ∧ 1 ≤ j ∧ j ≤ 6)) (fun (x_ : Nat × Option Addr × Nat × List KB) => match x_ with | (j, p, c, ys) => 6 - j) (1, (some ⟨b11, 0, none⟩), 1, [(⟨0, 0, -10, 0, 0, 100, 10, false, true⟩ : KB)]) ?_ ?_
  ·exact ⟨⟨rfl, rfl⟩, rfl, ⟨rfl, by omega, by omega⟩⟩
  rintro ⟨j, p, c, ys⟩ f0 L0 ⟨⟨hs7, hs8⟩, hL, ⟨hyl, hj1, hj⟩⟩
  subst L0
  refine rebase (d := 7) hs7 ?_
  refine rebase (d := 8) hs8 ?_
  clear hs7 hs8
  refine c_seq ?_
  refine c_seq ?_
  refine c_region ?_
  refine l_val (v := Nx (j)) rfl rfl rfl (e_move) ?_
  refine l_val (v := .bool (decide (((j : Nat) : Int) ≤ (5 : Int)))) rfl rfl rfl (e_leq (a := ((j : Nat) : Int)) (b := (5 : Int)) rfl rfl) ?_
  refine l_nil ?_
  refine f_then ?_
  refine c_if (((j : Nat) : Int) ≤ (5 : Int)) rfl (fun hc13 => ?_) (fun hc13 => ?_)
  ·
   refine c_skip ?_
   refine f_then ?_
   refine c_seq ?_
   refine c_block ?_
   refine c_any [⟨[], [], [0], [87], fun f => f 87 = .pointer (some ⟨b12, 0, none⟩)⟩, ⟨[0], [0], [], [88], fun f => f 88 = .slice p (ys.length) c⟩, ⟨[], [], [1], [89], fun f => f 89 = Nx (j)⟩, ⟨[], [], [1], [90], fun f => f 90 = Nx (j)⟩, ⟨[3], [3], [], [91], fun f => f 91 = Nx (j % 2)⟩, ⟨[3, 4], [4], [], [92], fun f => f 92 = Nx ((j % 2) * 3)⟩, ⟨[], [], [1], [93], fun f => f 93 = Nx (j)⟩, ⟨[6], [6], [], [94], fun f => f 94 = Nx (j * 10)⟩, ⟨[6, 7], [7], [], [95], fun f => f 95 = Ix (((j * 10 : Nat) : Int) - (5 : Int))⟩, ⟨[], [], [1], [96], fun f => f 96 = Nx (j)⟩, ⟨[9], [9], [], [97], fun f => f 97 = Ix (((j : Nat) : Int) - (3 : Int))⟩, ⟨[9, 10], [10], [], [98], fun f => f 98 = Ix ((2 : Int) * (((j : Nat) : Int) - (3 : Int)))⟩, ⟨[], [], [1], [99], fun f => f 99 = Nx (j)⟩, ⟨[12], [12], [], [100], fun f => f 100 = Ix (0 - ((j : Nat) : Int))⟩, ⟨[2, 3, 4, 5, 6, 7, 8, 9, 10, 11, 12, 13], [2, 5, 8, 11, 13], [], [101], fun f => f 101 = .agg #[Nx (j), Nx ((j % 2) * 3), Ix (((j * 10 : Nat) : Int) - (5 : Int)), Ix ((2 : Int) * (((j : Nat) : Int) - (3 : Int))), Ix (0 - ((j : Nat) : Int)), .int .i64 (6), .int .i64 (5), .bool false, .bool false]⟩, ⟨[2, 3, 4, 5, 6, 7, 8, 9, 10, 11, 12, 13, 14], [14], [], [102], fun f => f 102 = .slice (some ⟨(blk (f 102)), 0, none⟩) 1 1⟩, ⟨[0, 1, 2, 3, 4, 5, 6, 7, 8, 9, 10, 11, 12, 13, 14, 15], [1, 15], [], [103], fun f => f 103 = .slice (sla (f 103)) ((ys ++ [(⟨((j : Nat) : Int), (((j % 2) * 3 : Nat) : Int), ((j * 10 : Nat) : Int) - (5 : Int), (2 : Int) * (((j : Nat) : Int) - (3 : Int)), 0 - ((j : Nat) : Int), 6, 5, false, false⟩ : KB)]).length) (slc (f 103))⟩, ⟨[0, 1, 2, 3, 4, 5, 6, 7, 8, 9, 10, 11, 12, 13, 14, 15, 16], [], [0], [104], fun f => f 104 = .pointer (some ⟨b12, 0, none⟩)⟩, ⟨[0, 1, 2, 3, 4, 5, 6, 7, 8, 9, 10, 11, 12, 13, 14, 15, 16, 17], [17, 16], [], [], fun _ => True⟩] [⟨none, (some 18), [1, 18], [], fun _ => pt b12 (.cells #[.slice p (ys.length) c, .slice none 0 0, .int .i64 (1), .int .i64 (-9)] 27)⟩, ⟨none, (some 16), [16], [], fun _ => rowF BodyF 31 p c ys⟩, ⟨(some 15), none, [16], [102], fun f => pt (blk (f 102)) (.cells #[Nx (j), Nx ((j % 2) * 3), Ix (((j * 10 : Nat) : Int) - (5 : Int)), Ix ((2 : Int) * (((j : Nat) : Int) - (3 : Int))), Ix (0 - ((j : Nat) : Int)), .int .i64 (6), .int .i64 (5), .bool false, .bool false] 31)⟩, ⟨(some 16), none, [], [103], fun f => rowF BodyF 31 (sla (f 103)) (slc (f 103)) (ys ++ [(⟨((j : Nat) : Int), (((j % 2) * 3 : Nat) : Int), ((j * 10 : Nat) : Int) - (5 : Int), (2 : Int) * (((j : Nat) : Int) - (3 : Int)), 0 - ((j : Nat) : Int), 6, 5, false, false⟩ : KB)])⟩, ⟨(some 18), none, [], [103], fun f => pt b12 (.cells #[.slice (sla (f 103)) ((ys ++ [(⟨((j : Nat) : Int), (((j % 2) * 3 : Nat) : Int), ((j * 10 : Nat) : Int) - (5 : Int), (2 : Int) * (((j : Nat) : Int) - (3 : Int)), 0 - ((j : Nat) : Int), 6, 5, false, false⟩ : KB)]).length) (slc (f 103)), .slice none 0 0, .int .i64 (1), .int .i64 (-9)] 27)⟩] [(7, .pointer (some ⟨b12, 0, none⟩)), (8, Nx (j))] [0, 1] [] (by kernel_rfl) (by kernel_rfl) (by kernel_rfl) (by kernel_rfl) rfl ⟨rfl, rfl, trivial⟩ ⟨?_, ?_, ?_, ?_, ?_, ?_, ?_, ?_, ?_, ?_, ?_, ?_, ?_, ?_, ?_, ?_, ?_, ?_, ?_, trivial⟩ ?_
   ·rintro f M - ⟨i0, -⟩
    have hs7 : f 7 = .pointer (some ⟨b12, 0, none⟩) := i0
    refine ob_start (L' := M) (by rfl) (up_cons rfl hs7) ?_
    refine l_val (v := .pointer (some ⟨b12, 0, none⟩)) rfl rfl rfl (e_fieldPt (b := b12) (o := 0) rfl tf49) ?_
    refine l_nil ?_
    exact f_owes_d (up_cons rfl hs7) rfl (List.Perm.refl _)
   ·rintro f M ⟨k0, -⟩ -
    have hs87 : f 87 = .pointer (some ⟨b12, 0, none⟩) := k0
    refine ob_start (L' := pt b12 (.cells #[.slice p (ys.length) c, .slice none 0 0, .int .i64 (1), .int .i64 (-9)] 27) :: M) (by rfl) (up_cons rfl hs87) ?_
    refine l_val (v := .slice p (ys.length) c) rfl rfl rfl (e_load1 tf50 (v := .slice p (ys.length) c) rfl (k_pt 0 (cs := #[.slice p (ys.length) c, .slice none 0 0, .int .i64 (1), .int .i64 (-9)]) (vs := [.slice p (ys.length) c]) rfl rfl)) ?_
    refine l_nil ?_
    exact f_owes_d (up_cons rfl hs87) rfl (perm_front 0 rfl)
   ·rintro f M - ⟨i0, -⟩
    have hs8 : f 8 = Nx (j) := i0
    refine ob_start (L' := M) (by rfl) (up_cons rfl hs8) ?_
    refine l_val (v := Nx (j)) rfl rfl rfl (e_move) ?_
    refine l_nil ?_
    exact f_owes_d (up_cons rfl hs8) rfl (List.Perm.refl _)
   ·rintro f M - ⟨i0, -⟩
    have hs8 : f 8 = Nx (j) := i0
    refine ob_start (L' := M) (by rfl) (up_cons rfl hs8) ?_
    refine l_val (v := Nx (j)) rfl rfl rfl (e_move) ?_
    refine l_nil ?_
    exact f_owes_d (up_cons rfl hs8) rfl (List.Perm.refl _)
   ·rintro f M ⟨k0, -⟩ -
    have hs90 : f 90 = Nx (j) := k0
    refine ob_start (L' := M) (by rfl) (up_cons rfl hs90) ?_
    refine l_val (v := Nx (j % 2)) rfl rfl rfl (e_rem (a := ((j : Nat) : Int)) (b := (2 : Int)) rfl rfl (by decide) (nat_tmod _ 2)) ?_
    refine l_nil ?_
    exact f_owes_d (up_cons rfl hs90) rfl (List.Perm.refl _)
   ·rintro f M ⟨k0, -⟩ -
    have hs91 : f 91 = Nx (j % 2) := k0
    refine ob_start (L' := M) (by rfl) (up_cons rfl hs91) ?_
    refine l_val (v := Nx ((j % 2) * 3)) rfl rfl rfl (e_mul (a := ((j % 2 : Nat) : Int)) (b := (3 : Int)) rfl rfl (i64n (by omega) (by omega))) ?_
    refine l_nil ?_
    exact f_owes_d (up_cons rfl hs91) rfl (List.Perm.refl _)
   ·rintro f M - ⟨i0, -⟩
    have hs8 : f 8 = Nx (j) := i0
    refine ob_start (L' := M) (by rfl) (up_cons rfl hs8) ?_
    refine l_val (v := Nx (j)) rfl rfl rfl (e_move) ?_
    refine l_nil ?_
    exact f_owes_d (up_cons rfl hs8) rfl (List.Perm.refl _)
   ·rintro f M ⟨k0, -⟩ -
    have hs93 : f 93 = Nx (j) := k0
    refine ob_start (L' := M) (by rfl) (up_cons rfl hs93) ?_
    refine l_val (v := Nx (j * 10)) rfl rfl rfl (e_mul (a := ((j : Nat) : Int)) (b := (10 : Int)) rfl rfl (i64n (by omega) (by omega))) ?_
    refine l_nil ?_
    exact f_owes_d (up_cons rfl hs93) rfl (List.Perm.refl _)
   ·rintro f M ⟨k0, -⟩ -
    have hs94 : f 94 = Nx (j * 10) := k0
    refine ob_start (L' := M) (by rfl) (up_cons rfl hs94) ?_
    refine l_val (v := Ix (((j * 10 : Nat) : Int) - (5 : Int))) rfl rfl rfl (e_sub (a := ((j * 10 : Nat) : Int)) (b := (5 : Int)) rfl rfl (i64w (by omega))) ?_
    refine l_nil ?_
    exact f_owes_d (up_cons rfl hs94) rfl (List.Perm.refl _)
   ·rintro f M - ⟨i0, -⟩
    have hs8 : f 8 = Nx (j) := i0
    refine ob_start (L' := M) (by rfl) (up_cons rfl hs8) ?_
    refine l_val (v := Nx (j)) rfl rfl rfl (e_move) ?_
    refine l_nil ?_
    exact f_owes_d (up_cons rfl hs8) rfl (List.Perm.refl _)
   ·rintro f M ⟨k0, -⟩ -
    have hs96 : f 96 = Nx (j) := k0
    refine ob_start (L' := M) (by rfl) (up_cons rfl hs96) ?_
    refine l_val (v := Ix (((j : Nat) : Int) - (3 : Int))) rfl rfl rfl (e_sub (a := ((j : Nat) : Int)) (b := (3 : Int)) rfl rfl (i64w (by omega))) ?_
    refine l_nil ?_
    exact f_owes_d (up_cons rfl hs96) rfl (List.Perm.refl _)
   ·rintro f M ⟨k0, -⟩ -
    have hs97 : f 97 = Ix (((j : Nat) : Int) - (3 : Int)) := k0
    refine ob_start (L' := M) (by rfl) (up_cons rfl hs97) ?_
    refine l_val (v := Ix ((2 : Int) * (((j : Nat) : Int) - (3 : Int)))) rfl rfl rfl (e_mul (a := (2 : Int)) (b := (((j : Nat) : Int) - (3 : Int))) rfl rfl (i64w (by omega))) ?_
    refine l_nil ?_
    exact f_owes_d (up_cons rfl hs97) rfl (List.Perm.refl _)
   ·rintro f M - ⟨i0, -⟩
    have hs8 : f 8 = Nx (j) := i0
    refine ob_start (L' := M) (by rfl) (up_cons rfl hs8) ?_
    refine l_val (v := Nx (j)) rfl rfl rfl (e_move) ?_
    refine l_nil ?_
    exact f_owes_d (up_cons rfl hs8) rfl (List.Perm.refl _)
   ·rintro f M ⟨k0, -⟩ -
    have hs99 : f 99 = Nx (j) := k0
    refine ob_start (L' := M) (by rfl) (up_cons rfl hs99) ?_
    refine l_val (v := Ix (0 - ((j : Nat) : Int))) rfl rfl rfl (e_neg (a := ((j : Nat) : Int)) rfl (i64w (by omega))) ?_
    refine l_nil ?_
    exact f_owes_d (up_cons rfl hs99) rfl (List.Perm.refl _)
   ·rintro f M ⟨k0, k1, k2, k3, k4, -⟩ -
    have hs89 : f 89 = Nx (j) := k0
    have hs92 : f 92 = Nx ((j % 2) * 3) := k1
    have hs95 : f 95 = Ix (((j * 10 : Nat) : Int) - (5 : Int)) := k2
    have hs98 : f 98 = Ix ((2 : Int) * (((j : Nat) : Int) - (3 : Int))) := k3
    have hs100 : f 100 = Ix (0 - ((j : Nat) : Int)) := k4
    refine ob_start (L' := M) (by rfl) (up_cons (up_cons (up_cons (up_cons (up_cons rfl hs89) hs92) hs95) hs98) hs100) ?_
    refine l_call rfl rfl rfl (cl_value (fst := []) (cap := []) (vs := [Nx (j), Nx ((j % 2) * 3), Ix (((j * 10 : Nat) : Int) - (5 : Int)), .int .i64 (6), .int .i64 (5), Ix ((2 : Int) * (((j : Nat) : Int) - (3 : Int))), Ix (0 - ((j : Nat) : Int))]) (all := [Nx (j), Nx ((j % 2) * 3), Ix (((j * 10 : Nat) : Int) - (5 : Int)), .int .i64 (6), .int .i64 (5), Ix ((2 : Int) * (((j : Nat) : Int) - (3 : Int))), Ix (0 - ((j : Nat) : Int))]) tf103 rfl rfl rfl) ?_
    intro w hw
    obtain ⟨β1, sb, kn, hw1, back⟩ := St.frame_all hw
    refine (box_ok β1 w hw1 ((j : Nat) : Int) (((j % 2) * 3 : Nat) : Int) (((j * 10 : Nat) : Int) - (5 : Int)) (6 : Int) (5 : Int) ((2 : Int) * (((j : Nat) : Int) - (3 : Int))) (0 - ((j : Nat) : Int))).mono ?_
    rintro e w' ⟨rfl, hw'⟩
    refine ⟨_, rfl, _, back _ _ hw', ?_⟩
    clear hw hw1 hw' back kn sb
    refine l_nil ?_
    exact f_owes_d (up_cons (up_cons (up_cons (up_cons (up_cons rfl hs89) hs92) hs95) hs98) hs100) rfl (List.Perm.refl _)
   ·rintro f M ⟨k0, -⟩ -
    have hs101 : f 101 = .agg #[Nx (j), Nx ((j % 2) * 3), Ix (((j * 10 : Nat) : Int) - (5 : Int)), Ix ((2 : Int) * (((j : Nat) : Int) - (3 : Int))), Ix (0 - ((j : Nat) : Int)), .int .i64 (6), .int .i64 (5), .bool false, .bool false] := k0
    refine ob_start (L' := M) (by rfl) (up_cons rfl hs101) ?_
    refine l_mv rfl rfl rfl (m_slices tf43 tf58 (vs := [(0, .agg #[Nx (j), Nx ((j % 2) * 3), Ix (((j * 10 : Nat) : Int) - (5 : Int)), Ix ((2 : Int) * (((j : Nat) : Int) - (3 : Int))), Ix (0 - ((j : Nat) : Int)), .int .i64 (6), .int .i64 (5), .bool false, .bool false])]) (cells := #[Nx (j), Nx ((j % 2) * 3), Ix (((j * 10 : Nat) : Int) - (5 : Int)), Ix ((2 : Int) * (((j : Nat) : Int) - (3 : Int))), Ix (0 - ((j : Nat) : Int)), .int .i64 (6), .int .i64 (5), .bool false, .bool false]) rfl rfl rfl (by kernel_rfl)) ?_
    rintro _ _ ⟨b15, rfl, rfl⟩
    refine l_nil ?_
    exact f_owes_d (up_cons rfl hs101) rfl (perm_front 0 rfl)
   ·rintro f M ⟨k0, k1, -⟩ -
    have hs88 : f 88 = .slice p (ys.length) c := k0
    have hs102 : f 102 = .slice (some ⟨(blk (f 102)), 0, none⟩) 1 1 := k1
    refine ob_start (L' := rowF BodyF 31 p c ys :: pt (blk (f 102)) (.cells #[Nx (j), Nx ((j % 2) * 3), Ix (((j * 10 : Nat) : Int) - (5 : Int)), Ix ((2 : Int) * (((j : Nat) : Int) - (3 : Int))), Ix (0 - ((j : Nat) : Int)), .int .i64 (6), .int .i64 (5), .bool false, .bool false] 31) :: M) (by rfl) (up_cons (up_cons rfl hs88) hs102) ?_
    refine l_mv rfl rfl rfl (m_appendFlN (F := BodyF) 0 tf43 tf83 (p := p) (m := ys.length) (xs := ys) (ys := [(⟨((j : Nat) : Int), (((j % 2) * 3 : Nat) : Int), ((j * 10 : Nat) : Int) - (5 : Int), (2 : Int) * (((j : Nat) : Int) - (3 : Int)), 0 - ((j : Nat) : Int), 6, 5, false, false⟩ : KB)]) (ao := (some ⟨(blk (f 102)), 0, none⟩)) (k := 1) (c := 1) rfl rfl rfl rfl rfl (k_ptFl (z := (⟨((j : Nat) : Int), (((j % 2) * 3 : Nat) : Int), ((j * 10 : Nat) : Int) - (5 : Int), (2 : Int) * (((j : Nat) : Int) - (3 : Int)), 0 - ((j : Nat) : Int), 6, 5, false, false⟩ : KB)) 1 rfl rfl) (by first | omega | simp only [List.length_nil, List.length_cons, List.length_append, List.length_set]; omega) (by first | omega | simp only [List.length_nil, List.length_cons, List.length_append, List.length_set]; omega)) ?_
    rintro _ _ ⟨rp18, rc19, rfl, rfl⟩
    refine l_nil ?_
    exact f_owes_d (up_cons (up_cons rfl hs88) hs102) rfl ((perm_front 0 rfl).trans (perm_front 1 rfl))
   ·rintro f M - ⟨i0, -⟩
    have hs7 : f 7 = .pointer (some ⟨b12, 0, none⟩) := i0
    refine ob_start (L' := M) (by rfl) (up_cons rfl hs7) ?_
    refine l_val (v := .pointer (some ⟨b12, 0, none⟩)) rfl rfl rfl (e_fieldPt (b := b12) (o := 0) rfl tf49) ?_
    refine l_nil ?_
    exact f_owes_d (up_cons rfl hs7) rfl (List.Perm.refl _)
   ·rintro f M ⟨k0, k1, -⟩ -
    have hs104 : f 104 = .pointer (some ⟨b12, 0, none⟩) := k0
    have hs103 : f 103 = .slice (sla (f 103)) ((ys ++ [(⟨((j : Nat) : Int), (((j % 2) * 3 : Nat) : Int), ((j * 10 : Nat) : Int) - (5 : Int), (2 : Int) * (((j : Nat) : Int) - (3 : Int)), 0 - ((j : Nat) : Int), 6, 5, false, false⟩ : KB)]).length) (slc (f 103)) := k1
    refine ob_start (L' := pt b12 (.cells #[.slice p (ys.length) c, .slice none 0 0, .int .i64 (1), .int .i64 (-9)] 27) :: M) (by rfl) (up_cons (up_cons rfl hs104) hs103) ?_
    refine l_mu rfl rfl (m_store 0 tf50 (b := b12) (o := 0) (T := 27) (cs := #[.slice p (ys.length) c, .slice none 0 0, .int .i64 (1), .int .i64 (-9)]) (cs' := #[.slice (sla (f 103)) ((ys ++ [(⟨((j : Nat) : Int), (((j % 2) * 3 : Nat) : Int), ((j * 10 : Nat) : Int) - (5 : Int), (2 : Int) * (((j : Nat) : Int) - (3 : Int)), 0 - ((j : Nat) : Int), 6, 5, false, false⟩ : KB)]).length) (slc (f 103)), .slice none 0 0, .int .i64 (1), .int .i64 (-9)]) (v := .slice (sla (f 103)) ((ys ++ [(⟨((j : Nat) : Int), (((j % 2) * 3 : Nat) : Int), ((j * 10 : Nat) : Int) - (5 : Int), (2 : Int) * (((j : Nat) : Int) - (3 : Int)), 0 - ((j : Nat) : Int), 6, 5, false, false⟩ : KB)]).length) (slc (f 103))) rfl rfl rfl rfl rfl rfl rfl) ?_
    refine l_nil ?_
    exact f_owes_n (up_cons (up_cons rfl hs104) hs103) trivial (perm_front 0 rfl)
   rintro fa20 ⟨-, -, -, -, -, -, -, -, -, -, -, -, -, -, -, -, -, -, -, -⟩ ⟨j0, j1, -⟩
   refine f_re (L' := [pt (blk (fa20 102)) (.cells #[Nx (j), Nx ((j % 2) * 3), Ix (((j * 10 : Nat) : Int) - (5 : Int)), Ix ((2 : Int) * (((j : Nat) : Int) - (3 : Int))), Ix (0 - ((j : Nat) : Int)), .int .i64 (6), .int .i64 (5), .bool false, .bool false] 31), rowF BodyF 31 (sla (fa20 103)) (slc (fa20 103)) (ys ++ [(⟨((j : Nat) : Int), (((j % 2) * 3 : Nat) : Int), ((j * 10 : Nat) : Int) - (5 : Int), (2 : Int) * (((j : Nat) : Int) - (3 : Int)), 0 - ((j : Nat) : Int), 6, 5, false, false⟩ : KB)]), pt b12 (.cells #[.slice (sla (fa20 103)) ((ys ++ [(⟨((j : Nat) : Int), (((j % 2) * 3 : Nat) : Int), ((j * 10 : Nat) : Int) - (5 : Int), (2 : Int) * (((j : Nat) : Int) - (3 : Int)), 0 - ((j : Nat) : Int), 6, 5, false, false⟩ : KB)]).length) (slc (fa20 103)), .slice none 0 0, .int .i64 (1), .int .i64 (-9)] 27)]) (by rfl) ?_
   refine f_rebase (d := 7) (v := .pointer (some ⟨b12, 0, none⟩)) j0 ?_
   refine f_rebase (d := 8) (v := Nx (j)) j1 ?_
   refine f_block ?_
   refine f_then ?_
   refine c_region ?_
   refine l_val (v := Nx (j)) rfl rfl rfl (e_move) ?_
   refine l_val (v := Nx (j + 1)) rfl rfl rfl (e_add (a := ((j : Nat) : Int)) (b := (1 : Int)) rfl rfl (i64n (by omega) (by omega))) ?_
   refine l_val (v := Nx (j + 1)) rfl rfl rfl (e_assign) ?_
   refine l_nil ?_
   refine f_perm (L' := [pt b12 (.cells #[.slice (sla (fa20 103)) ((ys ++ [(⟨((j : Nat) : Int), (((j % 2) * 3 : Nat) : Int), ((j * 10 : Nat) : Int) - (5 : Int), (2 : Int) * (((j : Nat) : Int) - (3 : Int)), 0 - ((j : Nat) : Int), 6, 5, false, false⟩ : KB)]).length) (slc (fa20 103)), .slice none 0 0, .int .i64 (1), .int .i64 (-9)] 27), rowF BodyF 31 (sla (fa20 103)) (slc (fa20 103)) (ys ++ [(⟨((j : Nat) : Int), (((j % 2) * 3 : Nat) : Int), ((j * 10 : Nat) : Int) - (5 : Int), (2 : Int) * (((j : Nat) : Int) - (3 : Int)), 0 - ((j : Nat) : Int), 6, 5, false, false⟩ : KB)]), pt (blk (fa20 102)) (.cells #[Nx (j), Nx ((j % 2) * 3), Ix (((j * 10 : Nat) : Int) - (5 : Int)), Ix ((2 : Int) * (((j : Nat) : Int) - (3 : Int))), Ix (0 - ((j : Nat) : Int)), .int .i64 (6), .int .i64 (5), .bool false, .bool false] 31)]) (perm_ix [2, 1, 0] 3 rfl (by kernel_rfl) (by kernel_rfl)) ?_
   refine f_mask (L' := [pt b12 (.cells #[.slice (sla (fa20 103)) ((ys ++ [(⟨((j : Nat) : Int), (((j % 2) * 3 : Nat) : Int), ((j * 10 : Nat) : Int) - (5 : Int), (2 : Int) * (((j : Nat) : Int) - (3 : Int)), 0 - ((j : Nat) : Int), 6, 5, false, false⟩ : KB)]).length) (slc (fa20 103)), .slice none 0 0, .int .i64 (1), .int .i64 (-9)] 27), rowF BodyF 31 (sla (fa20 103)) (slc (fa20 103)) (ys ++ [(⟨((j : Nat) : Int), (((j % 2) * 3 : Nat) : Int), ((j * 10 : Nat) : Int) - (5 : Int), (2 : Int) * (((j : Nat) : Int) - (3 : Int)), 0 - ((j : Nat) : Int), 6, 5, false, false⟩ : KB)])]) [true, true, false] rfl ?_
   exact f_cut ⟨(j + 1, (sla (fa20 103)), (slc (fa20 103)), (ys ++ [(⟨((j : Nat) : Int), (((j % 2) * 3 : Nat) : Int), ((j * 10 : Nat) : Int) - (5 : Int), (2 : Int) * (((j : Nat) : Int) - (3 : Int)), 0 - ((j : Nat) : Int), 6, 5, false, false⟩ : KB)])), ⟨⟨rfl, rfl⟩, rfl, ⟨by rw [List.length_append, hyl]; rfl, by omega, by omega⟩⟩, (show 6 - (j + 1) < 6 - j from by omega)⟩
  ·
   refine c_exit ?_
   refine f_then_exit ?_
   refine f_then_exit ?_
   refine f_exit ?_
   refine f_then ?_
   refine c_seq ?_
   refine c_seq ?_
   refine c_emp (r := rowF RopeF 35 none 0 []) (row_nil _ _ _) ?_
   refine c_region ?_
   refine l_val (v := .int .i64 (0)) rfl rfl rfl (e_assign) ?_
   refine l_nil ?_
   refine f_then ?_
   refine c_block ?_
   refine c_loop (fun (x_ : Nat × Option Addr × Nat × Option Addr × Nat × List KB × List KR × Int × Int) (f : Fm) (L : List Res) => match x_ with | (i, p, c, q, d, B, R, x, y) => (f 7 = .pointer (some ⟨b12, 0, none⟩) ∧ f 9 = Nx (i)) ∧ L = [rowF RopeF 35 q d R, pt b12 (.cells #[.slice p (B.length) c, .slice q (R.length) d, Ix (x), Ix (y)] 27), rowF BodyF 31 p c B] ∧ (i ≤ 30 ∧ B.length ≤ 10 ∧ R.length ≤ 6 ∧ (-4096 ≤ x ∧ x ≤ 4096) ∧ (-4096 ≤ y ∧ y ≤ 4096))) (fun (x_ : Nat × Option Addr × Nat × Option Addr × Nat × List KB × List KR × Int × Int) => match x_ with | (i, p, c, q, d, B, R, x, y) => 30 - i) (0, p, c, none, 0, ys, [], 1, (-9)) ?_ ?_
   ·exact ⟨⟨rfl, rfl⟩, rfl, ⟨by omega, by omega, by simp, by omega, by omega⟩⟩
   rintro ⟨i, p, c, q, d, B, R, x, y⟩ f0 L0 ⟨⟨hs7, hs9⟩, hL, ⟨hi, hB10, hR6, hx4, hy4⟩⟩
   subst L0
   refine rebase (d := 7) hs7 ?_
   refine rebase (d := 9) hs9 ?_
   clear hs7 hs9
   refine c_seq ?_
   refine c_seq ?_
   refine c_region ?_
   refine l_val (v := Nx (i)) rfl rfl rfl (e_move) ?_
   refine l_val (v := .bool (decide (((i : Nat) : Int) < (30 : Int)))) rfl rfl rfl (e_lss (a := ((i : Nat) : Int)) (b := (30 : Int)) rfl rfl) ?_
   refine l_nil ?_
   refine f_then ?_
   refine c_if (((i : Nat) : Int) < (30 : Int)) rfl (fun hc21 => ?_) (fun hc21 => ?_)
   ·
    refine c_skip ?_
    refine f_then ?_
    refine c_seq ?_
    refine c_block ?_
    refine c_seq ?_
    refine c_seq ?_
    refine c_region ?_
    refine l_val (v := .agg #[.slice p (B.length) c, .slice q (R.length) d, Ix (x), Ix (y)]) rfl rfl rfl (e_load tf86 (cs := [.slice p (B.length) c, .slice q (R.length) d, Ix (x), Ix (y)]) rfl (k_pt 1 (cs := #[.slice p (B.length) c, .slice q (R.length) d, Ix (x), Ix (y)]) (vs := [.slice p (B.length) c, .slice q (R.length) d, Ix (x), Ix (y)]) rfl rfl) rfl) ?_
    refine l_call rfl rfl rfl (cl_value (fst := []) (cap := []) (vs := [.agg #[.slice p (B.length) c, .slice q (R.length) d, Ix (x), Ix (y)]]) (all := [.agg #[.slice p (B.length) c, .slice q (R.length) d, Ix (x), Ix (y)]]) tf156 rfl rfl rfl) ?_
    intro w hw
    obtain ⟨β1, sb, kn, hw1, back⟩ := St.frame_all hw
    refine (steps_ok β1 w hw1 _ _ (x) (y) B R (kn _ (k_flN 2 (F := BodyF) (m := B.length) (xs := B) rfl rfl)) (kn _ (k_flN 0 (F := RopeF) (m := R.length) (xs := R) rfl rfl)) (by omega) (by omega) (GR.mono sb hG) (by omega) (by omega)).mono ?_
    rintro e w' ⟨rfl, hw'⟩
    refine ⟨_, rfl, _, back _ _ hw', ?_⟩
    clear hw hw1 hw' back kn sb
    refine l_val (v := .bool false) rfl rfl rfl (e_not (a := true) rfl) ?_
    refine l_nil ?_
    refine f_then ?_
    refine c_no rfl ?_
    refine c_skip ?_
    refine f_then ?_
    refine c_region ?_
    refine l_val (v := .agg #[.slice p (B.length) c, .slice q (R.length) d, Ix (x), Ix (y)]) rfl rfl rfl (e_load tf86 (cs := [.slice p (B.length) c, .slice q (R.length) d, Ix (x), Ix (y)]) rfl (k_pt 1 (cs := #[.slice p (B.length) c, .slice q (R.length) d, Ix (x), Ix (y)]) (vs := [.slice p (B.length) c, .slice q (R.length) d, Ix (x), Ix (y)]) rfl rfl) rfl) ?_
    refine l_call rfl rfl rfl (cl_value (fst := []) (cap := []) (vs := [.agg #[.slice p (B.length) c, .slice q (R.length) d, Ix (x), Ix (y)]]) (all := [.agg #[.slice p (B.length) c, .slice q (R.length) d, Ix (x), Ix (y)]]) tf150 rfl rfl rfl) ?_
    intro w hw
    obtain ⟨β1, sb, kn, hw1, back⟩ := St.frame_all hw
    refine (stepRA_ok β1 w hw1 _ _ (x) (y) B R (kn _ (k_flN 2 (F := BodyF) (m := B.length) (xs := B) rfl rfl)) (kn _ (k_flN 0 (F := RopeF) (m := R.length) (xs := R) rfl rfl)) (by omega) (by omega) (by omega) (by omega)).mono ?_
    rintro e w' ⟨B22, R23, S24, p25, p26, p27, c28, c29, c30, x31, y32, e33, rfl, hb34, hw'⟩
    refine ⟨_, rfl, _, back _ _ hw', ?_⟩
    clear hw hw1 hw' back kn sb
    refine l_val (v := .tuple #[.agg #[.slice p25 (B22.length) c28, .slice p26 (R23.length) c29, Ix (x31), Ix (y32)], .slice p27 (S24.length) c30, Ix (e33)]) rfl rfl rfl (e_move) ?_
    refine l_val (v := .agg #[.slice p25 (B22.length) c28, .slice p26 (R23.length) c29, Ix (x31), Ix (y32)]) rfl rfl rfl (e_extract (vs := #[.agg #[.slice p25 (B22.length) c28, .slice p26 (R23.length) c29, Ix (x31), Ix (y32)], .slice p27 (S24.length) c30, Ix (e33)]) rfl rfl) ?_
    refine l_val (v := .slice p27 (S24.length) c30) rfl rfl rfl (e_extract (vs := #[.agg #[.slice p25 (B22.length) c28, .slice p26 (R23.length) c29, Ix (x31), Ix (y32)], .slice p27 (S24.length) c30, Ix (e33)]) rfl rfl) ?_
    refine l_val (v := Ix (e33)) rfl rfl rfl (e_extract (vs := #[.agg #[.slice p25 (B22.length) c28, .slice p26 (R23.length) c29, Ix (x31), Ix (y32)], .slice p27 (S24.length) c30, Ix (e33)]) rfl rfl) ?_
    refine l_mu rfl rfl (m_store 4 tf86 (b := b12) (o := 0) (T := 27) (cs := #[.slice p (B.length) c, .slice q (R.length) d, Ix (x), Ix (y)]) (cs' := #[.slice p25 (B22.length) c28, .slice p26 (R23.length) c29, Ix (x31), Ix (y32)]) (v := .agg #[.slice p25 (B22.length) c28, .slice p26 (R23.length) c29, Ix (x31), Ix (y32)]) rfl rfl rfl rfl rfl rfl rfl) ?_
    refine l_nil ?_
    refine f_block ?_
    refine f_then ?_
    refine c_region ?_
    refine l_val (v := Nx (i)) rfl rfl rfl (e_move) ?_
    refine l_val (v := Nx (i + 1)) rfl rfl rfl (e_add (a := ((i : Nat) : Int)) (b := (1 : Int)) rfl rfl (i64n (by omega) (by omega))) ?_
    refine l_val (v := Nx (i + 1)) rfl rfl rfl (e_assign) ?_
    refine l_nil ?_
    refine f_perm (L' := [rowF RopeF 35 p26 c29 R23, pt b12 (.cells #[.slice p25 (B22.length) c28, .slice p26 (R23.length) c29, Ix (x31), Ix (y32)] 27), rowF BodyF 31 p25 c28 B22, rowF StopF 45 p27 c30 S24, rowF RopeF 35 q d R, rowF BodyF 31 p c B]) (perm_ix [1, 4, 0, 2, 3, 5] 6 rfl (by kernel_rfl) (by kernel_rfl)) ?_
    refine f_mask (L' := [rowF RopeF 35 p26 c29 R23, pt b12 (.cells #[.slice p25 (B22.length) c28, .slice p26 (R23.length) c29, Ix (x31), Ix (y32)] 27), rowF BodyF 31 p25 c28 B22]) [true, true, true, false, false, false] rfl ?_
    exact f_cut ⟨(i + 1, p25, c28, p26, c29, B22, R23, x31, y32), ⟨⟨rfl, rfl⟩, rfl, ⟨by omega, hb34⟩⟩, (show 30 - (i + 1) < 30 - i from by omega)⟩
   ·
    refine c_exit ?_
    refine f_then_exit ?_
    refine f_then_exit ?_
    refine f_exit ?_
    refine f_then ?_
    refine c_seq ?_
    refine c_region ?_
    refine l_val (v := .int .i64 (1048576)) rfl rfl rfl (e_assign) ?_
    refine l_nil ?_
    refine f_then ?_
    refine c_seq ?_
    refine c_seq ?_
    refine c_region ?_
    refine l_val (v := .int .i64 (0)) rfl rfl rfl (e_assign) ?_
    refine l_nil ?_
    refine f_then ?_
    refine c_block ?_
    refine c_mask [false, false, false] rfl ?_
    refine c_loop (fun (l : Nat) (f : Fm) (L : List Res) => (f 10 = .int .i64 (1048576) ∧ f 11 = Nx (l)) ∧ L = [] ∧ (l ≤ 81)) (fun (l : Nat) => 81 - l) 0 ?_ ?_
    ·exact ⟨⟨rfl, rfl⟩, rfl, (by omega)⟩
    rintro l f0 L0 ⟨⟨hs10, hs11⟩, hL, hl⟩
    subst L0
    refine rebase (d := 10) hs10 ?_
    refine rebase (d := 11) hs11 ?_
    clear hs10 hs11
    refine c_seq ?_
    refine c_seq ?_
    refine c_region ?_
    refine l_val (v := Nx (l)) rfl rfl rfl (e_move) ?_
    refine l_val (v := .bool (decide (((l : Nat) : Int) < (81 : Int)))) rfl rfl rfl (e_lss (a := ((l : Nat) : Int)) (b := (81 : Int)) rfl rfl) ?_
    refine l_nil ?_
    refine f_then ?_
    refine c_if (((l : Nat) : Int) < (81 : Int)) rfl (fun hc35 => ?_) (fun hc35 => ?_)
    ·
     refine c_skip ?_
     refine f_then ?_
     refine c_seq ?_
     refine c_block ?_
     refine c_seq ?_
     refine c_region ?_
     refine l_val (v := Nx (l)) rfl rfl rfl (e_move) ?_
     refine l_val (v := Nx (l % 3)) rfl rfl rfl (e_rem (a := ((l : Nat) : Int)) (b := (3 : Int)) rfl rfl (by decide) (nat_tmod _ 3)) ?_
     refine l_val (v := Ix (((l % 3 : Nat) : Int) - (1 : Int))) rfl rfl rfl (e_sub (a := ((l % 3 : Nat) : Int)) (b := (1 : Int)) rfl rfl (i64w (by omega))) ?_
     refine l_val (v := .int .i64 (1048576)) rfl rfl rfl (e_move) ?_
     refine l_val (v := Ix ((((l % 3 : Nat) : Int) - (1 : Int)) * (1048576 : Int))) rfl rfl rfl (e_mul (a := (((l % 3 : Nat) : Int) - (1 : Int))) (b := (1048576 : Int)) rfl rfl (i64w (by omega))) ?_
     refine l_val (v := Nx (l)) rfl rfl rfl (e_move) ?_
     refine l_val (v := Nx (l / 3)) rfl rfl rfl (e_quo (a := ((l : Nat) : Int)) (b := (3 : Int)) rfl rfl (by decide) (i64n (nat_tdiv _ 3) (by omega))) ?_
     refine l_val (v := Nx ((l / 3) % 3)) rfl rfl rfl (e_rem (a := ((l / 3 : Nat) : Int)) (b := (3 : Int)) rfl rfl (by decide) (nat_tmod _ 3)) ?_
     refine l_val (v := Ix ((((l / 3) % 3 : Nat) : Int) - (1 : Int))) rfl rfl rfl (e_sub (a := (((l / 3) % 3 : Nat) : Int)) (b := (1 : Int)) rfl rfl (i64w (by omega))) ?_
     refine l_val (v := .int .i64 (1048576)) rfl rfl rfl (e_move) ?_
     refine l_val (v := Ix (((((l / 3) % 3 : Nat) : Int) - (1 : Int)) * (1048576 : Int))) rfl rfl rfl (e_mul (a := ((((l / 3) % 3 : Nat) : Int) - (1 : Int))) (b := (1048576 : Int)) rfl rfl (i64w (by omega))) ?_
     refine l_val (v := Nx (l)) rfl rfl rfl (e_move) ?_
     refine l_val (v := Nx (l / 9)) rfl rfl rfl (e_quo (a := ((l : Nat) : Int)) (b := (9 : Int)) rfl rfl (by decide) (i64n (nat_tdiv _ 9) (by omega))) ?_
     refine l_val (v := Nx ((l / 9) % 3)) rfl rfl rfl (e_rem (a := ((l / 9 : Nat) : Int)) (b := (3 : Int)) rfl rfl (by decide) (nat_tmod _ 3)) ?_
     refine l_val (v := Ix ((((l / 9) % 3 : Nat) : Int) - (1 : Int))) rfl rfl rfl (e_sub (a := (((l / 9) % 3 : Nat) : Int)) (b := (1 : Int)) rfl rfl (i64w (by omega))) ?_
     refine l_val (v := Ix (((((l / 9) % 3 : Nat) : Int) - (1 : Int)) * (4096 : Int))) rfl rfl rfl (e_mul (a := ((((l / 9) % 3 : Nat) : Int) - (1 : Int))) (b := (4096 : Int)) rfl rfl (i64w (by omega))) ?_
     refine l_val (v := Ix (((((l / 9) % 3 : Nat) : Int) - (1 : Int)) * 512)) rfl rfl rfl (e_quo (a := (((((l / 9) % 3 : Nat) : Int) - (1 : Int)) * (4096 : Int))) (b := (8 : Int)) rfl rfl (by decide) ((congrArg _ ((congrArg (fun z : Int => z.tdiv 8) (show ((((l / 9) % 3 : Nat) : Int) - (1 : Int)) * (4096 : Int) = (((((l / 9) % 3 : Nat) : Int) - (1 : Int)) * 512) * 8 by omega)).trans (Int.mul_tdiv_cancel (((((l / 9) % 3 : Nat) : Int) - (1 : Int)) * 512) (by decide)))).trans (i64w (by omega)))) ?_
     refine l_val (v := Nx (l)) rfl rfl rfl (e_move) ?_
     refine l_val (v := Nx (l / 27)) rfl rfl rfl (e_quo (a := ((l : Nat) : Int)) (b := (27 : Int)) rfl rfl (by decide) (i64n (nat_tdiv _ 27) (by omega))) ?_
     refine l_val (v := Ix (((l / 27 : Nat) : Int) - (1 : Int))) rfl rfl rfl (e_sub (a := ((l / 27 : Nat) : Int)) (b := (1 : Int)) rfl rfl (i64w (by omega))) ?_
     refine l_val (v := Ix ((((l / 27 : Nat) : Int) - (1 : Int)) * (7 : Int))) rfl rfl rfl (e_mul (a := (((l / 27 : Nat) : Int) - (1 : Int))) (b := (7 : Int)) rfl rfl (i64w (by omega))) ?_
     refine l_call rfl rfl rfl (cl_value (fst := []) (cap := []) (vs := [.int .i64 (1), Ix ((((l % 3 : Nat) : Int) - (1 : Int)) * (1048576 : Int)), Ix (((((l / 3) % 3 : Nat) : Int) - (1 : Int)) * (1048576 : Int)), .int .i64 (4), .int .i64 (4), Ix (((((l / 9) % 3 : Nat) : Int) - (1 : Int)) * 512), Ix ((((l / 27 : Nat) : Int) - (1 : Int)) * (7 : Int))]) (all := [.int .i64 (1), Ix ((((l % 3 : Nat) : Int) - (1 : Int)) * (1048576 : Int)), Ix (((((l / 3) % 3 : Nat) : Int) - (1 : Int)) * (1048576 : Int)), .int .i64 (4), .int .i64 (4), Ix (((((l / 9) % 3 : Nat) : Int) - (1 : Int)) * 512), Ix ((((l / 27 : Nat) : Int) - (1 : Int)) * (7 : Int))]) tf103 rfl rfl rfl) ?_
     intro w hw
     obtain ⟨β1, sb, kn, hw1, back⟩ := St.frame_all hw
     refine (box_ok β1 w hw1 (1 : Int) ((((l % 3 : Nat) : Int) - (1 : Int)) * (1048576 : Int)) (((((l / 3) % 3 : Nat) : Int) - (1 : Int)) * (1048576 : Int)) (4 : Int) (4 : Int) (((((l / 9) % 3 : Nat) : Int) - (1 : Int)) * 512) ((((l / 27 : Nat) : Int) - (1 : Int)) * (7 : Int))).mono ?_
     rintro e w' ⟨rfl, hw'⟩
     refine ⟨_, rfl, _, back _ _ hw', ?_⟩
     clear hw hw1 hw' back kn sb
     refine l_mv rfl rfl rfl (m_alloc tf58) ?_
     rintro _ _ ⟨b36, rfl, rfl⟩
     refine l_mu rfl rfl (m_store 0 tf22 (b := b36) (o := 0) (T := 31) (cs := #[.int .i64 (0), .int .i64 (0), .int .i64 (0), .int .i64 (0), .int .i64 (0), .int .i64 (0), .int .i64 (0), .bool false, .bool false]) (cs' := #[.int .i64 (1), Ix ((((l % 3 : Nat) : Int) - (1 : Int)) * (1048576 : Int)), Ix (((((l / 3) % 3 : Nat) : Int) - (1 : Int)) * (1048576 : Int)), Ix (((((l / 9) % 3 : Nat) : Int) - (1 : Int)) * 512), Ix ((((l / 27 : Nat) : Int) - (1 : Int)) * (7 : Int)), .int .i64 (4), .int .i64 (4), .bool false, .bool false]) (v := .agg #[.int .i64 (1), Ix ((((l % 3 : Nat) : Int) - (1 : Int)) * (1048576 : Int)), Ix (((((l / 3) % 3 : Nat) : Int) - (1 : Int)) * (1048576 : Int)), Ix (((((l / 9) % 3 : Nat) : Int) - (1 : Int)) * 512), Ix ((((l / 27 : Nat) : Int) - (1 : Int)) * (7 : Int)), .int .i64 (4), .int .i64 (4), .bool false, .bool false]) rfl rfl rfl rfl rfl rfl rfl) ?_
     refine l_nil ?_
     refine f_then ?_
     refine c_seq ?_
     refine c_any [⟨[], [], [0], [144], fun f => f 144 = .agg #[.int .i64 (1), Ix ((((l % 3 : Nat) : Int) - (1 : Int)) * (1048576 : Int)), Ix (((((l / 3) % 3 : Nat) : Int) - (1 : Int)) * (1048576 : Int)), Ix (((((l / 9) % 3 : Nat) : Int) - (1 : Int)) * 512), Ix ((((l / 27 : Nat) : Int) - (1 : Int)) * (7 : Int)), .int .i64 (4), .int .i64 (4), .bool false, .bool false]⟩, ⟨[], [], [0], [145], fun f => f 145 = .pointer (some ⟨b36, 1, none⟩)⟩, ⟨[1], [1], [], [146], fun f => f 146 = .pointer (some ⟨b36, 1, none⟩)⟩, ⟨[1, 2], [2], [], [147], fun f => f 147 = Ix ((((l % 3 : Nat) : Int) - (1 : Int)) * (1048576 : Int))⟩, ⟨[], [], [1], [148], fun f => f 148 = .int .i64 (1048576)⟩, ⟨[1, 2, 3, 4], [3, 4], [], [149], fun f => f 149 = Ix ((((l % 3 : Nat) : Int) - (1 : Int)))⟩, ⟨[], [], [1], [150], fun f => f 150 = .int .i64 (1048576)⟩, ⟨[6], [6], [], [151], fun f => f 151 = .int .i64 (1048567)⟩, ⟨[1, 2, 3, 4, 5, 6, 7], [5, 7], [], [152], fun f => f 152 = Ix (((((l % 3 : Nat) : Int) - (1 : Int))) * (1048567 : Int))⟩, ⟨[], [], [0], [153], fun f => f 153 = .pointer (some ⟨b36, 1, none⟩)⟩, ⟨[9], [9], [], [154], fun f => f 154 = .pointer (some ⟨b36, 2, none⟩)⟩, ⟨[9, 10], [10], [], [155], fun f => f 155 = Ix (((((l / 3) % 3 : Nat) : Int) - (1 : Int)) * (1048576 : Int))⟩, ⟨[], [], [1], [156], fun f => f 156 = .int .i64 (1048576)⟩, ⟨[9, 10, 11, 12], [11, 12], [], [157], fun f => f 157 = Ix (((((l / 3) % 3 : Nat) : Int) - (1 : Int)))⟩, ⟨[], [], [1], [158], fun f => f 158 = .int .i64 (1048576)⟩, ⟨[14], [14], [], [159], fun f => f 159 = .int .i64 (1048567)⟩, ⟨[9, 10, 11, 12, 13, 14, 15], [13, 15], [], [160], fun f => f 160 = Ix ((((((l / 3) % 3 : Nat) : Int) - (1 : Int))) * (1048567 : Int))⟩, ⟨[1, 2, 3, 4, 5, 6, 7, 8, 9, 10, 11, 12, 13, 14, 15, 16], [8, 16], [], [161], fun f => f 161 = .agg #[.int .i64 (2), Ix (((((l % 3 : Nat) : Int) - (1 : Int))) * (1048567 : Int)), Ix ((((((l / 3) % 3 : Nat) : Int) - (1 : Int))) * (1048567 : Int)), .int .i64 (60), .int .i64 (-60), .int .i64 (3), .int .i64 (3), .bool true, .bool false]⟩, ⟨[0, 1, 2, 3, 4, 5, 6, 7, 8, 9, 10, 11, 12, 13, 14, 15, 16, 17], [0, 17], [], [162], fun f => f 162 = .slice (some ⟨(blk (f 162)), 0, none⟩) 2 2⟩, ⟨[], [], [], [163], fun f => f 163 = .agg #[.int .i64 (5), .int .i64 (-5)]⟩, ⟨[0, 1, 2, 3, 4, 5, 6, 7, 8, 9, 10, 11, 12, 13, 14, 15, 16, 17, 18, 19], [18, 19], [], [162, 164], fun f => f 164 = .agg #[.slice (some ⟨(blk (f 162)), 0, none⟩) 2 2, .slice none 0 0, .int .i64 (5), .int .i64 (-5)]⟩, ⟨[], [], [], [13], fun f => f 13 = .pointer (some ⟨(blk (f 13)), 0, none⟩)⟩, ⟨[0, 1, 2, 3, 4, 5, 6, 7, 8, 9, 10, 11, 12, 13, 14, 15, 16, 17, 18, 19, 20, 21], [21, 20], [], [], fun _ => True⟩] [⟨none, none, [0, 3, 11], [], fun _ => pt b36 (.cells #[.int .i64 (1), Ix ((((l % 3 : Nat) : Int) - (1 : Int)) * (1048576 : Int)), Ix (((((l / 3) % 3 : Nat) : Int) - (1 : Int)) * (1048576 : Int)), Ix (((((l / 9) % 3 : Nat) : Int) - (1 : Int)) * 512), Ix ((((l / 27 : Nat) : Int) - (1 : Int)) * (7 : Int)), .int .i64 (4), .int .i64 (4), .bool false, .bool false] 31)⟩, ⟨(some 18), none, [], [162], fun f => pt (blk (f 162)) (.cells #[.int .i64 (1), Ix ((((l % 3 : Nat) : Int) - (1 : Int)) * (1048576 : Int)), Ix (((((l / 3) % 3 : Nat) : Int) - (1 : Int)) * (1048576 : Int)), Ix (((((l / 9) % 3 : Nat) : Int) - (1 : Int)) * 512), Ix ((((l / 27 : Nat) : Int) - (1 : Int)) * (7 : Int)), .int .i64 (4), .int .i64 (4), .bool false, .bool false, .int .i64 (2), Ix (((((l % 3 : Nat) : Int) - (1 : Int))) * (1048567 : Int)), Ix ((((((l / 3) % 3 : Nat) : Int) - (1 : Int))) * (1048567 : Int)), .int .i64 (60), .int .i64 (-60), .int .i64 (3), .int .i64 (3), .bool true, .bool false] 31)⟩, ⟨(some 21), (some 22), [22], [13], fun f => pt (blk (f 13)) (.cells #[.slice none 0 0, .slice none 0 0, .int .i64 (0), .int .i64 (0)] 27)⟩, ⟨(some 22), none, [], [13, 162], fun f => pt (blk (f 13)) (.cells #[.slice (some ⟨(blk (f 162)), 0, none⟩) 2 2, .slice none 0 0, .int .i64 (5), .int .i64 (-5)] 27)⟩] [(12, .pointer (some ⟨b36, 0, none⟩)), (10, .int .i64 (1048576)), (11, Nx (l))] [1, 2] [] (by kernel_rfl) (by kernel_rfl) (by kernel_rfl) (by kernel_rfl) rfl ⟨rfl, rfl, rfl, trivial⟩ ⟨?_, ?_, ?_, ?_, ?_, ?_, ?_, ?_, ?_, ?_, ?_, ?_, ?_, ?_, ?_, ?_, ?_, ?_, ?_, ?_, ?_, ?_, ?_, trivial⟩ ?_
     ·rintro f M - ⟨i0, -⟩
      have hs12 : f 12 = .pointer (some ⟨b36, 0, none⟩) := i0
      refine ob_start (L' := pt b36 (.cells #[.int .i64 (1), Ix ((((l % 3 : Nat) : Int) - (1 : Int)) * (1048576 : Int)), Ix (((((l / 3) % 3 : Nat) : Int) - (1 : Int)) * (1048576 : Int)), Ix (((((l / 9) % 3 : Nat) : Int) - (1 : Int)) * 512), Ix ((((l / 27 : Nat) : Int) - (1 : Int)) * (7 : Int)), .int .i64 (4), .int .i64 (4), .bool false, .bool false] 31) :: M) (by rfl) (up_cons rfl hs12) ?_
      refine l_val (v := .agg #[.int .i64 (1), Ix ((((l % 3 : Nat) : Int) - (1 : Int)) * (1048576 : Int)), Ix (((((l / 3) % 3 : Nat) : Int) - (1 : Int)) * (1048576 : Int)), Ix (((((l / 9) % 3 : Nat) : Int) - (1 : Int)) * 512), Ix ((((l / 27 : Nat) : Int) - (1 : Int)) * (7 : Int)), .int .i64 (4), .int .i64 (4), .bool false, .bool false]) rfl rfl rfl (e_load tf22 (cs := [.int .i64 (1), Ix ((((l % 3 : Nat) : Int) - (1 : Int)) * (1048576 : Int)), Ix (((((l / 3) % 3 : Nat) : Int) - (1 : Int)) * (1048576 : Int)), Ix (((((l / 9) % 3 : Nat) : Int) - (1 : Int)) * 512), Ix ((((l / 27 : Nat) : Int) - (1 : Int)) * (7 : Int)), .int .i64 (4), .int .i64 (4), .bool false, .bool false]) rfl (k_pt 0 (cs := #[.int .i64 (1), Ix ((((l % 3 : Nat) : Int) - (1 : Int)) * (1048576 : Int)), Ix (((((l / 3) % 3 : Nat) : Int) - (1 : Int)) * (1048576 : Int)), Ix (((((l / 9) % 3 : Nat) : Int) - (1 : Int)) * 512), Ix ((((l / 27 : Nat) : Int) - (1 : Int)) * (7 : Int)), .int .i64 (4), .int .i64 (4), .bool false, .bool false]) (vs := [.int .i64 (1), Ix ((((l % 3 : Nat) : Int) - (1 : Int)) * (1048576 : Int)), Ix (((((l / 3) % 3 : Nat) : Int) - (1 : Int)) * (1048576 : Int)), Ix (((((l / 9) % 3 : Nat) : Int) - (1 : Int)) * 512), Ix ((((l / 27 : Nat) : Int) - (1 : Int)) * (7 : Int)), .int .i64 (4), .int .i64 (4), .bool false, .bool false]) rfl rfl) rfl) ?_
      refine l_nil ?_
      exact f_owes_d (up_cons rfl hs12) rfl (perm_front 0 rfl)
     ·rintro f M - ⟨i0, -⟩
      have hs12 : f 12 = .pointer (some ⟨b36, 0, none⟩) := i0
      refine ob_start (L' := M) (by rfl) (up_cons rfl hs12) ?_
      refine l_val (v := .pointer (some ⟨b36, 1, none⟩)) rfl rfl rfl (e_fieldPt (b := b36) (o := 0) rfl tf6) ?_
      refine l_nil ?_
      exact f_owes_d (up_cons rfl hs12) rfl (List.Perm.refl _)
     ·rintro f M ⟨k0, -⟩ -
      have hs145 : f 145 = .pointer (some ⟨b36, 1, none⟩) := k0
      refine ob_start (L' := M) (by rfl) (up_cons rfl hs145) ?_
      refine l_val (v := .pointer (some ⟨b36, 1, none⟩)) rfl rfl rfl (e_fieldPt (b := b36) (o := 1) rfl tf7) ?_
      refine l_nil ?_
      exact f_owes_d (up_cons rfl hs145) rfl (List.Perm.refl _)
     ·rintro f M ⟨k0, -⟩ -
      have hs146 : f 146 = .pointer (some ⟨b36, 1, none⟩) := k0
      refine ob_start (L' := pt b36 (.cells #[.int .i64 (1), Ix ((((l % 3 : Nat) : Int) - (1 : Int)) * (1048576 : Int)), Ix (((((l / 3) % 3 : Nat) : Int) - (1 : Int)) * (1048576 : Int)), Ix (((((l / 9) % 3 : Nat) : Int) - (1 : Int)) * 512), Ix ((((l / 27 : Nat) : Int) - (1 : Int)) * (7 : Int)), .int .i64 (4), .int .i64 (4), .bool false, .bool false] 31) :: M) (by rfl) (up_cons rfl hs146) ?_
      refine l_val (v := Ix ((((l % 3 : Nat) : Int) - (1 : Int)) * (1048576 : Int))) rfl rfl rfl (e_load1 tf2 (v := Ix ((((l % 3 : Nat) : Int) - (1 : Int)) * (1048576 : Int))) rfl (k_pt 0 (cs := #[.int .i64 (1), Ix ((((l % 3 : Nat) : Int) - (1 : Int)) * (1048576 : Int)), Ix (((((l / 3) % 3 : Nat) : Int) - (1 : Int)) * (1048576 : Int)), Ix (((((l / 9) % 3 : Nat) : Int) - (1 : Int)) * 512), Ix ((((l / 27 : Nat) : Int) - (1 : Int)) * (7 : Int)), .int .i64 (4), .int .i64 (4), .bool false, .bool false]) (vs := [Ix ((((l % 3 : Nat) : Int) - (1 : Int)) * (1048576 : Int))]) rfl rfl)) ?_
      refine l_nil ?_
      exact f_owes_d (up_cons rfl hs146) rfl (perm_front 0 rfl)
     ·rintro f M - ⟨i0, -⟩
      have hs10 : f 10 = .int .i64 (1048576) := i0
      refine ob_start (L' := M) (by rfl) (up_cons rfl hs10) ?_
      refine l_val (v := .int .i64 (1048576)) rfl rfl rfl (e_move) ?_
      refine l_nil ?_
      exact f_owes_d (up_cons rfl hs10) rfl (List.Perm.refl _)
     ·rintro f M ⟨k0, k1, -⟩ -
      have hs147 : f 147 = Ix ((((l % 3 : Nat) : Int) - (1 : Int)) * (1048576 : Int)) := k0
      have hs148 : f 148 = .int .i64 (1048576) := k1
      refine ob_start (L' := M) (by rfl) (up_cons (up_cons rfl hs147) hs148) ?_
      refine l_val (v := Ix ((((l % 3 : Nat) : Int) - (1 : Int)))) rfl rfl rfl (e_quo (a := ((((l % 3 : Nat) : Int) - (1 : Int)) * (1048576 : Int))) (b := (1048576 : Int)) rfl rfl (by decide) ((congrArg _ (Int.mul_tdiv_cancel (((l % 3 : Nat) : Int) - (1 : Int)) (by decide))).trans (i64w (by omega)))) ?_
      refine l_nil ?_
      exact f_owes_d (up_cons (up_cons rfl hs147) hs148) rfl (List.Perm.refl _)
     ·rintro f M - ⟨i0, -⟩
      have hs10 : f 10 = .int .i64 (1048576) := i0
      refine ob_start (L' := M) (by rfl) (up_cons rfl hs10) ?_
      refine l_val (v := .int .i64 (1048576)) rfl rfl rfl (e_move) ?_
      refine l_nil ?_
      exact f_owes_d (up_cons rfl hs10) rfl (List.Perm.refl _)
     ·rintro f M ⟨k0, -⟩ -
      have hs150 : f 150 = .int .i64 (1048576) := k0
      refine ob_start (L' := M) (by rfl) (up_cons rfl hs150) ?_
      refine l_val (v := .int .i64 (1048567)) rfl rfl rfl (e_sub (a := (1048576 : Int)) (b := (9 : Int)) rfl rfl (by decide)) ?_
      refine l_nil ?_
      exact f_owes_d (up_cons rfl hs150) rfl (List.Perm.refl _)
     ·rintro f M ⟨k0, k1, -⟩ -
      have hs149 : f 149 = Ix ((((l % 3 : Nat) : Int) - (1 : Int))) := k0
      have hs151 : f 151 = .int .i64 (1048567) := k1
      refine ob_start (L' := M) (by rfl) (up_cons (up_cons rfl hs149) hs151) ?_
      refine l_val (v := Ix (((((l % 3 : Nat) : Int) - (1 : Int))) * (1048567 : Int))) rfl rfl rfl (e_mul (a := ((((l % 3 : Nat) : Int) - (1 : Int)))) (b := (1048567 : Int)) rfl rfl (i64w (by omega))) ?_
      refine l_nil ?_
      exact f_owes_d (up_cons (up_cons rfl hs149) hs151) rfl (List.Perm.refl _)
     ·rintro f M - ⟨i0, -⟩
      have hs12 : f 12 = .pointer (some ⟨b36, 0, none⟩) := i0
      refine ob_start (L' := M) (by rfl) (up_cons rfl hs12) ?_
      refine l_val (v := .pointer (some ⟨b36, 1, none⟩)) rfl rfl rfl (e_fieldPt (b := b36) (o := 0) rfl tf6) ?_
      refine l_nil ?_
      exact f_owes_d (up_cons rfl hs12) rfl (List.Perm.refl _)
     ·rintro f M ⟨k0, -⟩ -
      have hs153 : f 153 = .pointer (some ⟨b36, 1, none⟩) := k0
      refine ob_start (L' := M) (by rfl) (up_cons rfl hs153) ?_
      refine l_val (v := .pointer (some ⟨b36, 2, none⟩)) rfl rfl rfl (e_fieldPt (b := b36) (o := 1) rfl tf8) ?_
      refine l_nil ?_
      exact f_owes_d (up_cons rfl hs153) rfl (List.Perm.refl _)
     ·rintro f M ⟨k0, -⟩ -
      have hs154 : f 154 = .pointer (some ⟨b36, 2, none⟩) := k0
      refine ob_start (L' := pt b36 (.cells #[.int .i64 (1), Ix ((((l % 3 : Nat) : Int) - (1 : Int)) * (1048576 : Int)), Ix (((((l / 3) % 3 : Nat) : Int) - (1 : Int)) * (1048576 : Int)), Ix (((((l / 9) % 3 : Nat) : Int) - (1 : Int)) * 512), Ix ((((l / 27 : Nat) : Int) - (1 : Int)) * (7 : Int)), .int .i64 (4), .int .i64 (4), .bool false, .bool false] 31) :: M) (by rfl) (up_cons rfl hs154) ?_
      refine l_val (v := Ix (((((l / 3) % 3 : Nat) : Int) - (1 : Int)) * (1048576 : Int))) rfl rfl rfl (e_load1 tf2 (v := Ix (((((l / 3) % 3 : Nat) : Int) - (1 : Int)) * (1048576 : Int))) rfl (k_pt 0 (cs := #[.int .i64 (1), Ix ((((l % 3 : Nat) : Int) - (1 : Int)) * (1048576 : Int)), Ix (((((l / 3) % 3 : Nat) : Int) - (1 : Int)) * (1048576 : Int)), Ix (((((l / 9) % 3 : Nat) : Int) - (1 : Int)) * 512), Ix ((((l / 27 : Nat) : Int) - (1 : Int)) * (7 : Int)), .int .i64 (4), .int .i64 (4), .bool false, .bool false]) (vs := [Ix (((((l / 3) % 3 : Nat) : Int) - (1 : Int)) * (1048576 : Int))]) rfl rfl)) ?_
      refine l_nil ?_
      exact f_owes_d (up_cons rfl hs154) rfl (perm_front 0 rfl)
     ·rintro f M - ⟨i0, -⟩
      have hs10 : f 10 = .int .i64 (1048576) := i0
      refine ob_start (L' := M) (by rfl) (up_cons rfl hs10) ?_
      refine l_val (v := .int .i64 (1048576)) rfl rfl rfl (e_move) ?_
      refine l_nil ?_
      exact f_owes_d (up_cons rfl hs10) rfl (List.Perm.refl _)
     ·rintro f M ⟨k0, k1, -⟩ -
      have hs155 : f 155 = Ix (((((l / 3) % 3 : Nat) : Int) - (1 : Int)) * (1048576 : Int)) := k0
      have hs156 : f 156 = .int .i64 (1048576) := k1
      refine ob_start (L' := M) (by rfl) (up_cons (up_cons rfl hs155) hs156) ?_
      refine l_val (v := Ix (((((l / 3) % 3 : Nat) : Int) - (1 : Int)))) rfl rfl rfl (e_quo (a := (((((l / 3) % 3 : Nat) : Int) - (1 : Int)) * (1048576 : Int))) (b := (1048576 : Int)) rfl rfl (by decide) ((congrArg _ (Int.mul_tdiv_cancel ((((l / 3) % 3 : Nat) : Int) - (1 : Int)) (by decide))).trans (i64w (by omega)))) ?_
      refine l_nil ?_
      exact f_owes_d (up_cons (up_cons rfl hs155) hs156) rfl (List.Perm.refl _)
     ·rintro f M - ⟨i0, -⟩
      have hs10 : f 10 = .int .i64 (1048576) := i0
      refine ob_start (L' := M) (by rfl) (up_cons rfl hs10) ?_
      refine l_val (v := .int .i64 (1048576)) rfl rfl rfl (e_move) ?_
      refine l_nil ?_
      exact f_owes_d (up_cons rfl hs10) rfl (List.Perm.refl _)
     ·rintro f M ⟨k0, -⟩ -
      have hs158 : f 158 = .int .i64 (1048576) := k0
      refine ob_start (L' := M) (by rfl) (up_cons rfl hs158) ?_
      refine l_val (v := .int .i64 (1048567)) rfl rfl rfl (e_sub (a := (1048576 : Int)) (b := (9 : Int)) rfl rfl (by decide)) ?_
      refine l_nil ?_
      exact f_owes_d (up_cons rfl hs158) rfl (List.Perm.refl _)
     ·rintro f M ⟨k0, k1, -⟩ -
      have hs157 : f 157 = Ix (((((l / 3) % 3 : Nat) : Int) - (1 : Int))) := k0
      have hs159 : f 159 = .int .i64 (1048567) := k1
      refine ob_start (L' := M) (by rfl) (up_cons (up_cons rfl hs157) hs159) ?_
      refine l_val (v := Ix ((((((l / 3) % 3 : Nat) : Int) - (1 : Int))) * (1048567 : Int))) rfl rfl rfl (e_mul (a := (((((l / 3) % 3 : Nat) : Int) - (1 : Int)))) (b := (1048567 : Int)) rfl rfl (i64w (by omega))) ?_
      refine l_nil ?_
      exact f_owes_d (up_cons (up_cons rfl hs157) hs159) rfl (List.Perm.refl _)
     ·rintro f M ⟨k0, k1, -⟩ -
      have hs152 : f 152 = Ix (((((l % 3 : Nat) : Int) - (1 : Int))) * (1048567 : Int)) := k0
      have hs160 : f 160 = Ix ((((((l / 3) % 3 : Nat) : Int) - (1 : Int))) * (1048567 : Int)) := k1
      refine ob_start (L' := M) (by rfl) (up_cons (up_cons rfl hs152) hs160) ?_
      refine l_call rfl rfl rfl (cl_value (fst := []) (cap := []) (vs := [.int .i64 (2), Ix (((((l % 3 : Nat) : Int) - (1 : Int))) * (1048567 : Int)), Ix ((((((l / 3) % 3 : Nat) : Int) - (1 : Int))) * (1048567 : Int)), .int .i64 (3), .int .i64 (60), .int .i64 (-60)]) (all := [.int .i64 (2), Ix (((((l % 3 : Nat) : Int) - (1 : Int))) * (1048567 : Int)), Ix ((((((l / 3) % 3 : Nat) : Int) - (1 : Int))) * (1048567 : Int)), .int .i64 (3), .int .i64 (60), .int .i64 (-60)]) tf109 rfl rfl rfl) ?_
      intro w hw
      obtain ⟨β1, sb, kn, hw1, back⟩ := St.frame_all hw
      refine (ball_ok β1 w hw1 (2 : Int) (((((l % 3 : Nat) : Int) - (1 : Int))) * (1048567 : Int)) ((((((l / 3) % 3 : Nat) : Int) - (1 : Int))) * (1048567 : Int)) (3 : Int) (60 : Int) (-60 : Int)).mono ?_
      rintro e w' ⟨rfl, hw'⟩
      refine ⟨_, rfl, _, back _ _ hw', ?_⟩
      clear hw hw1 hw' back kn sb
      refine l_nil ?_
      exact f_owes_d (up_cons (up_cons rfl hs152) hs160) rfl (List.Perm.refl _)
     ·rintro f M ⟨k0, k1, -⟩ -
      have hs144 : f 144 = .agg #[.int .i64 (1), Ix ((((l % 3 : Nat) : Int) - (1 : Int)) * (1048576 : Int)), Ix (((((l / 3) % 3 : Nat) : Int) - (1 : Int)) * (1048576 : Int)), Ix (((((l / 9) % 3 : Nat) : Int) - (1 : Int)) * 512), Ix ((((l / 27 : Nat) : Int) - (1 : Int)) * (7 : Int)), .int .i64 (4), .int .i64 (4), .bool false, .bool false] := k0
      have hs161 : f 161 = .agg #[.int .i64 (2), Ix (((((l % 3 : Nat) : Int) - (1 : Int))) * (1048567 : Int)), Ix ((((((l / 3) % 3 : Nat) : Int) - (1 : Int))) * (1048567 : Int)), .int .i64 (60), .int .i64 (-60), .int .i64 (3), .int .i64 (3), .bool true, .bool false] := k1
      refine ob_start (L' := M) (by rfl) (up_cons (up_cons rfl hs144) hs161) ?_
      refine l_mv rfl rfl rfl (m_slices tf43 tf58 (vs := [(0, .agg #[.int .i64 (1), Ix ((((l % 3 : Nat) : Int) - (1 : Int)) * (1048576 : Int)), Ix (((((l / 3) % 3 : Nat) : Int) - (1 : Int)) * (1048576 : Int)), Ix (((((l / 9) % 3 : Nat) : Int) - (1 : Int)) * 512), Ix ((((l / 27 : Nat) : Int) - (1 : Int)) * (7 : Int)), .int .i64 (4), .int .i64 (4), .bool false, .bool false]), (1, .agg #[.int .i64 (2), Ix (((((l % 3 : Nat) : Int) - (1 : Int))) * (1048567 : Int)), Ix ((((((l / 3) % 3 : Nat) : Int) - (1 : Int))) * (1048567 : Int)), .int .i64 (60), .int .i64 (-60), .int .i64 (3), .int .i64 (3), .bool true, .bool false])]) (cells := #[.int .i64 (1), Ix ((((l % 3 : Nat) : Int) - (1 : Int)) * (1048576 : Int)), Ix (((((l / 3) % 3 : Nat) : Int) - (1 : Int)) * (1048576 : Int)), Ix (((((l / 9) % 3 : Nat) : Int) - (1 : Int)) * 512), Ix ((((l / 27 : Nat) : Int) - (1 : Int)) * (7 : Int)), .int .i64 (4), .int .i64 (4), .bool false, .bool false, .int .i64 (2), Ix (((((l % 3 : Nat) : Int) - (1 : Int))) * (1048567 : Int)), Ix ((((((l / 3) % 3 : Nat) : Int) - (1 : Int))) * (1048567 : Int)), .int .i64 (60), .int .i64 (-60), .int .i64 (3), .int .i64 (3), .bool true, .bool false]) rfl rfl rfl (by kernel_rfl)) ?_
      rintro _ _ ⟨b38, rfl, rfl⟩
      refine l_nil ?_
      exact f_owes_d (up_cons (up_cons rfl hs144) hs161) rfl (perm_front 0 rfl)
     ·rintro f M - -
      refine ob_start (L' := M) (by rfl) rfl ?_
      refine l_val (v := .agg #[.int .i64 (5), .int .i64 (-5)]) rfl rfl rfl (e_build tf17 tf16 (vs := [(0, .int .i64 (5)), (1, .int .i64 (-5))]) (cells := #[.int .i64 (5), .int .i64 (-5)]) rfl rfl) ?_
      refine l_nil ?_
      exact f_owes_d rfl rfl (List.Perm.refl _)
     ·rintro f M ⟨k0, k1, -⟩ -
      have hs162 : f 162 = .slice (some ⟨(blk (f 162)), 0, none⟩) 2 2 := k0
      have hs163 : f 163 = .agg #[.int .i64 (5), .int .i64 (-5)] := k1
      refine ob_start (L' := M) (by rfl) (up_cons (up_cons rfl hs162) hs163) ?_
      refine l_val (v := .agg #[.slice (some ⟨(blk (f 162)), 0, none⟩) 2 2, .slice none 0 0, .int .i64 (5), .int .i64 (-5)]) rfl rfl rfl (e_build tf85 tf88 (vs := [(0, .slice (some ⟨(blk (f 162)), 0, none⟩) 2 2), (2, .agg #[.int .i64 (5), .int .i64 (-5)])]) (cells := #[.slice (some ⟨(blk (f 162)), 0, none⟩) 2 2, .slice none 0 0, .int .i64 (5), .int .i64 (-5)]) rfl rfl) ?_
      refine l_nil ?_
      exact f_owes_d (up_cons (up_cons rfl hs162) hs163) rfl (List.Perm.refl _)
     ·rintro f M - -
      refine ob_start (L' := M) (by rfl) rfl ?_
      refine l_mv rfl rfl rfl (m_alloc tf85) ?_
      rintro _ _ ⟨b40, rfl, rfl⟩
      refine l_nil ?_
      exact f_owes_d rfl rfl (perm_front 0 rfl)
     ·rintro f M ⟨k0, k1, -⟩ -
      have hs13 : f 13 = .pointer (some ⟨(blk (f 13)), 0, none⟩) := k0
      have hs164 : f 164 = .agg #[.slice (some ⟨(blk (f 162)), 0, none⟩) 2 2, .slice none 0 0, .int .i64 (5), .int .i64 (-5)] := k1
      refine ob_start (L' := pt (blk (f 13)) (.cells #[.slice none 0 0, .slice none 0 0, .int .i64 (0), .int .i64 (0)] 27) :: M) (by rfl) (up_cons (up_cons rfl hs13) hs164) ?_
      refine l_mu rfl rfl (m_store 0 tf86 (b := (blk (f 13))) (o := 0) (T := 27) (cs := #[.slice none 0 0, .slice none 0 0, .int .i64 (0), .int .i64 (0)]) (cs' := #[.slice (some ⟨(blk (f 162)), 0, none⟩) 2 2, .slice none 0 0, .int .i64 (5), .int .i64 (-5)]) (v := .agg #[.slice (some ⟨(blk (f 162)), 0, none⟩) 2 2, .slice none 0 0, .int .i64 (5), .int .i64 (-5)]) rfl rfl rfl rfl rfl rfl rfl) ?_
      refine l_nil ?_
      exact f_owes_n (up_cons (up_cons rfl hs13) hs164) trivial (perm_front 0 rfl)
     rintro fa41 ⟨-, -, -, -, -, -, -, -, -, -, -, -, -, -, -, -, -, -, -, -, -, k21, -, -⟩ ⟨j0, j1, -⟩
     refine f_re (L' := [pt b36 (.cells #[.int .i64 (1), Ix ((((l % 3 : Nat) : Int) - (1 : Int)) * (1048576 : Int)), Ix (((((l / 3) % 3 : Nat) : Int) - (1 : Int)) * (1048576 : Int)), Ix (((((l / 9) % 3 : Nat) : Int) - (1 : Int)) * 512), Ix ((((l / 27 : Nat) : Int) - (1 : Int)) * (7 : Int)), .int .i64 (4), .int .i64 (4), .bool false, .bool false] 31), pt (blk (fa41 162)) (.cells #[.int .i64 (1), Ix ((((l % 3 : Nat) : Int) - (1 : Int)) * (1048576 : Int)), Ix (((((l / 3) % 3 : Nat) : Int) - (1 : Int)) * (1048576 : Int)), Ix (((((l / 9) % 3 : Nat) : Int) - (1 : Int)) * 512), Ix ((((l / 27 : Nat) : Int) - (1 : Int)) * (7 : Int)), .int .i64 (4), .int .i64 (4), .bool false, .bool false, .int .i64 (2), Ix (((((l % 3 : Nat) : Int) - (1 : Int))) * (1048567 : Int)), Ix ((((((l / 3) % 3 : Nat) : Int) - (1 : Int))) * (1048567 : Int)), .int .i64 (60), .int .i64 (-60), .int .i64 (3), .int .i64 (3), .bool true, .bool false] 31), pt (blk (fa41 13)) (.cells #[.slice (some ⟨(blk (fa41 162)), 0, none⟩) 2 2, .slice none 0 0, .int .i64 (5), .int .i64 (-5)] 27)]) (by rfl) ?_
     refine f_rebase (d := 10) (v := .int .i64 (1048576)) j0 ?_
     refine f_rebase (d := 11) (v := Nx (l)) j1 ?_
     refine f_rebase (d := 13) (v := .pointer (some ⟨(blk (fa41 13)), 0, none⟩)) k21 ?_
     refine f_then ?_
     refine c_seq ?_
     refine c_region ?_
     refine l_val (v := .agg #[.slice (some ⟨(blk (fa41 162)), 0, none⟩) 2 2, .slice none 0 0, .int .i64 (5), .int .i64 (-5)]) rfl rfl rfl (e_load tf86 (cs := [.slice (some ⟨(blk (fa41 162)), 0, none⟩) 2 2, .slice none 0 0, .int .i64 (5), .int .i64 (-5)]) rfl (k_pt 2 (cs := #[.slice (some ⟨(blk (fa41 162)), 0, none⟩) 2 2, .slice none 0 0, .int .i64 (5), .int .i64 (-5)]) (vs := [.slice (some ⟨(blk (fa41 162)), 0, none⟩) 2 2, .slice none 0 0, .int .i64 (5), .int .i64 (-5)]) rfl rfl) rfl) ?_
     refine l_call rfl rfl rfl (cl_value (fst := []) (cap := []) (vs := [.agg #[.slice (some ⟨(blk (fa41 162)), 0, none⟩) 2 2, .slice none 0 0, .int .i64 (5), .int .i64 (-5)]]) (all := [.agg #[.slice (some ⟨(blk (fa41 162)), 0, none⟩) 2 2, .slice none 0 0, .int .i64 (5), .int .i64 (-5)]]) tf156 rfl rfl rfl) ?_
     intro w hw
     obtain ⟨β1, sb, kn, hw1, back⟩ := St.frame_all hw
     refine (steps_ok β1 w hw1 _ _ (5 : Int) (-5 : Int) [(⟨1, (((l % 3 : Nat) : Int) - (1 : Int)) * (1048576 : Int), ((((l / 3) % 3 : Nat) : Int) - (1 : Int)) * (1048576 : Int), ((((l / 9) % 3 : Nat) : Int) - (1 : Int)) * 512, (((l / 27 : Nat) : Int) - (1 : Int)) * (7 : Int), 4, 4, false, false⟩ : KB), (⟨2, ((((l % 3 : Nat) : Int) - (1 : Int))) * (1048567 : Int), (((((l / 3) % 3 : Nat) : Int) - (1 : Int))) * (1048567 : Int), 60, -60, 3, 3, true, false⟩ : KB)] [] (kn _ (k_ptFls (F := BodyF) 1 (m := 2) (xs := [(⟨1, (((l % 3 : Nat) : Int) - (1 : Int)) * (1048576 : Int), ((((l / 3) % 3 : Nat) : Int) - (1 : Int)) * (1048576 : Int), ((((l / 9) % 3 : Nat) : Int) - (1 : Int)) * 512, (((l / 27 : Nat) : Int) - (1 : Int)) * (7 : Int), 4, 4, false, false⟩ : KB), (⟨2, ((((l % 3 : Nat) : Int) - (1 : Int))) * (1048567 : Int), (((((l / 3) % 3 : Nat) : Int) - (1 : Int))) * (1048567 : Int), 60, -60, 3, 3, true, false⟩ : KB)]) rfl rfl rfl (by simp))) (Sl.nil _ _) (by omega) (by omega) (GR.mono sb hG) (by simp) (by simp)).mono ?_
     rintro e w' ⟨rfl, hw'⟩
     refine ⟨_, rfl, _, back _ _ hw', ?_⟩
     clear hw hw1 hw' back kn sb
     refine l_val (v := .bool false) rfl rfl rfl (e_not (a := true) rfl) ?_
     refine l_nil ?_
     refine f_then ?_
     refine c_no rfl ?_
     refine c_skip ?_
     refine f_block ?_
     refine f_then ?_
     refine c_region ?_
     refine l_val (v := Nx (l)) rfl rfl rfl (e_move) ?_
     refine l_val (v := Nx (l + 1)) rfl rfl rfl (e_add (a := ((l : Nat) : Int)) (b := (1 : Int)) rfl rfl (i64n (by omega) (by omega))) ?_
     refine l_val (v := Nx (l + 1)) rfl rfl rfl (e_assign) ?_
     refine l_nil ?_
     refine f_mask (L' := []) [false, false, false] rfl ?_
     exact f_cut ⟨l + 1, ⟨⟨rfl, rfl⟩, rfl, (by omega)⟩, (show 81 - (l + 1) < 81 - l from by omega)⟩
    ·
     refine c_exit ?_
     refine f_then_exit ?_
     refine f_then_exit ?_
     refine f_exit ?_
     refine f_then ?_
     refine c_seq ?_
     refine c_region ?_
     refine l_val (v := .agg #[.slice none 0 0, .slice none 0 0, .int .i64 (0), .int .i64 (0)]) rfl rfl rfl (e_build tf85 tf88 (vs := []) (cells := #[.slice none 0 0, .slice none 0 0, .int .i64 (0), .int .i64 (0)]) rfl rfl) ?_
     refine l_call rfl rfl rfl (cl_value (fst := []) (cap := []) (vs := [.agg #[.slice none 0 0, .slice none 0 0, .int .i64 (0), .int .i64 (0)]]) (all := [.agg #[.slice none 0 0, .slice none 0 0, .int .i64 (0), .int .i64 (0)]]) tf156 rfl rfl rfl) ?_
     intro w hw
     obtain ⟨β1, sb, kn, hw1, back⟩ := St.frame_all hw
     refine (steps_ok β1 w hw1 _ _ (0 : Int) (0 : Int) [] [] (Sl.nil _ _) (Sl.nil _ _) (by omega) (by omega) (GR.mono sb hG) (by simp) (by simp)).mono ?_
     rintro e w' ⟨rfl, hw'⟩
     refine ⟨_, rfl, _, back _ _ hw', ?_⟩
     clear hw hw1 hw' back kn sb
     refine l_val (v := .bool true) rfl rfl rfl (e_move) ?_
     refine g_val (v := .agg #[.int .i64 (0), .int .i64 (0), .int .i64 (0), .int .i64 (0), .int .i64 (0), .int .i64 (0), .int .i64 (0), .bool false, .bool false]) rfl rfl rfl rfl rfl (e_build tf58 tf102 (vs := []) (cells := #[.int .i64 (0), .int .i64 (0), .int .i64 (0), .int .i64 (0), .int .i64 (0), .int .i64 (0), .int .i64 (0), .bool false, .bool false]) rfl (by kernel_rfl)) ?_
     refine g_mv rfl rfl rfl rfl rfl (m_slices tf43 tf58 (vs := [(0, .agg #[.int .i64 (0), .int .i64 (0), .int .i64 (0), .int .i64 (0), .int .i64 (0), .int .i64 (0), .int .i64 (0), .bool false, .bool false])]) (cells := #[.int .i64 (0), .int .i64 (0), .int .i64 (0), .int .i64 (0), .int .i64 (0), .int .i64 (0), .int .i64 (0), .bool false, .bool false]) rfl rfl rfl (by kernel_rfl)) ?_
     rintro _ _ ⟨b42, rfl, rfl⟩
     refine g_val (v := .agg #[.slice (some ⟨b42, 0, none⟩) 1 1, .slice none 0 0, .int .i64 (0), .int .i64 (0)]) rfl rfl rfl rfl rfl (e_build tf85 tf88 (vs := [(0, .slice (some ⟨b42, 0, none⟩) 1 1)]) (cells := #[.slice (some ⟨b42, 0, none⟩) 1 1, .slice none 0 0, .int .i64 (0), .int .i64 (0)]) rfl rfl) ?_
     refine g_call rfl rfl rfl rfl rfl (cl_value (fst := []) (cap := []) (vs := [.agg #[.slice (some ⟨b42, 0, none⟩) 1 1, .slice none 0 0, .int .i64 (0), .int .i64 (0)]]) (all := [.agg #[.slice (some ⟨b42, 0, none⟩) 1 1, .slice none 0 0, .int .i64 (0), .int .i64 (0)]]) tf156 rfl rfl rfl) ?_
     intro w hw
     obtain ⟨β1, sb, kn, hw1, back⟩ := St.frame_all hw
     refine (steps_ok β1 w hw1 _ _ (0 : Int) (0 : Int) [(⟨0, 0, 0, 0, 0, 0, 0, false, false⟩ : KB)] [] (kn _ (k_ptFls (F := BodyF) 0 (m := 1) (xs := [(⟨0, 0, 0, 0, 0, 0, 0, false, false⟩ : KB)]) rfl rfl rfl (by simp))) (Sl.nil _ _) (by omega) (by omega) (GR.mono sb hG) (by simp) (by simp)).mono ?_
     rintro e w' ⟨rfl, hw'⟩
     refine ⟨_, rfl, _, back _ _ hw', ?_⟩
     clear hw hw1 hw' back kn sb
     refine l_val (v := .bool true) rfl rfl rfl (e_pick_t rfl) ?_
     refine l_val (v := .bool true) rfl rfl rfl (e_move) ?_
     refine g_call rfl rfl rfl rfl rfl (cl_value (fst := []) (cap := []) (vs := []) (all := []) tf155 rfl rfl rfl) ?_
     intro w hw
     obtain ⟨β1, sb, kn, hw1, back⟩ := St.frame_all hw
     have hG1 := GR.mono sb hG
     refine (awake_ok β1 w hw1 hG1).mono ?_
     rintro e w' ⟨rfl, hw'⟩
     refine ⟨_, rfl, _, back _ _ hw', ?_⟩
     clear hw hw1 hw' back kn sb
     refine l_val (v := .bool true) rfl rfl rfl (e_pick_t rfl) ?_
     refine l_val (v := .bool true) rfl rfl rfl (e_assign) ?_
     refine l_nil ?_
     refine f_then ?_
     refine c_ret ?_
     refine ret1 Tryd.results4 (v := .bool true) rfl ?_
     intro w hw
     exact ⟨rfl, st_mask [false] rfl hw⟩
end Go.Proofs
