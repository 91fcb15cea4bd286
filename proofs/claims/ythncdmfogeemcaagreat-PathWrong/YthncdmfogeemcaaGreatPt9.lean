/-
  Made, spot: walked. Printed by a program of my own.
-/
import Derived.Test.YthncdmfogeemcaaGreatPt8
import Derived.Test.YthncdmfogeemcaaGreatPtMade
namespace Go.Proofs
open Go Go.Sl Go.Brd Go.Pth
theorem sa110 : tyB Tryz.prog 22 false 1 = true := by kernel_rfl
theorem sa111 : Tryz.prog.underlying 22 = some (.slice 5) := by kernel_rfl
theorem sa112 : slB Tryz.prog 22 5 1 = true := by kernel_rfl
theorem sa113 : tyB Tryz.prog 5 false 1 = true := by kernel_rfl
theorem sa114 : Tryz.prog.underlying 5 = some (.int .u8) := by kernel_rfl
theorem sa115 : cfB Tryz.prog 18 = true := by kernel_rfl
theorem sa116 : lay Tryz.prog 10000 29 = some [.int .i64, .int .i64, .int .i64, .int .i64] := by kernel_rfl
theorem sa117 : isAggT Tryz.prog 29 = true := by kernel_rfl
theorem sa118 : Tryz.prog.eqGuardType Tryz.prog.depth 29 = false := by kernel_rfl
theorem sa119 : elB Tryz.prog 29 4 32 = true := by kernel_rfl
set_option maxHeartbeats 4000000 in
theorem at_ok (β : Base) (w : World) (hw : St β [] w) (c : Nat) (v : Value) (bs : List UInt8) (hs : Sl U8R β.heap v bs) (hc : Cs β.heap ⟨c, 0, none⟩ [v]) (i : Nat) (hi : i ≤ 8) : Calls Tryz.prog 18 #[Nx i, .pointer (some ⟨c, 0, none⟩)] w fun r w' => r = .returned (Nx (atN bs i)) ∧ St β [] w' := by
  obtain ⟨va, vc, rfl, vl, vm, ve⟩ := hs.get
  refine enter (n := 26) Tryz.func18 rfl Tryz.ntmps18 rfl ?_ hw
  refine c_seq ?_
  refine c_region ?_
  refine l_val (v := .int .i64 (0)) rfl rfl rfl (e_assign) ?_
  refine l_nil ?_
  refine f_then ?_
  refine c_seq ?_
  refine c_region ?_
  refine l_val (v := .int .i64 (0)) rfl rfl rfl (e_assign) ?_
  refine l_nil ?_
  refine f_then ?_
  refine c_seq ?_
  refine c_seq ?_
  refine c_region ?_
  refine l_val (v := .int .i64 (0)) rfl rfl rfl (e_assign) ?_
  refine l_nil ?_
  refine f_then ?_
  refine c_block ?_
  refine c_loop (fun (x_ : Nat × Nat) (f : Fm) (L : List Res) => match x_ with | (k, m) => (f 0 = Nx (i) ∧ f 1 = .pointer (some (⟨c, 0, none⟩)) ∧ f 4 = Nx (m) ∧ f 5 = Nx (k)) ∧ L = [] ∧ (k ≤ i ∧ m = atN bs k)) (fun (x_ : Nat × Nat) => match x_ with | (k, m) => i - k) (0, 0) ?_ ?_
  · exact ⟨⟨rfl, rfl, rfl, rfl⟩, rfl, ⟨by omega, rfl⟩⟩
  rintro ⟨k, m⟩ f0 L0 ⟨⟨hs0, hs1, hs4, hs5⟩, hL, ⟨hk, hm⟩⟩
  subst L0
  refine rebase (d := 0) hs0 ?_
  refine rebase (d := 1) hs1 ?_
  refine rebase (d := 4) hs4 ?_
  refine rebase (d := 5) hs5 ?_
  clear hs0 hs1 hs4 hs5
  have hml := atN_le bs k
  refine c_seq ?_
  refine c_seq ?_
  refine c_region ?_
  refine l_val (v := Nx (k)) rfl rfl rfl (e_move) ?_
  refine l_val (v := Nx (i)) rfl rfl rfl (e_move) ?_
  refine l_val (v := .bool (decide (((k : Nat) : Int) < ((i : Nat) : Int)))) rfl rfl rfl (e_lss (a := ((k : Nat) : Int)) (b := ((i : Nat) : Int)) rfl rfl) ?_
  refine l_nil ?_
  refine f_then ?_
  refine c_if (((k : Nat) : Int) < ((i : Nat) : Int)) rfl (fun hc1 => ?_) (fun hc1 => ?_)
  ·
    refine c_skip ?_
    refine f_then ?_
    refine c_seq ?_
    refine c_block ?_
    refine c_seq ?_
    refine c_region ?_
    refine l_val (v := Nx (m)) rfl rfl rfl (e_move) ?_
    refine l_val (v := Nx (m + 1)) rfl rfl rfl (e_add (a := ((m : Nat) : Int)) (b := (1 : Int)) rfl rfl (i64n (by omega) (by omega))) ?_
    refine l_val (v := Nx (m + 1)) rfl rfl rfl (e_assign) ?_
    refine l_nil ?_
    refine f_then ?_
    refine c_seq ?_
    refine c_region ?_
    refine l_val (v := Nx (k)) rfl rfl rfl (e_move) ?_
    refine l_val (v := .slice va (bs.length) (vc)) rfl rfl rfl (e_load1 sa110 (v := .slice va (bs.length) (vc)) rfl (Knows.of_base (Cs.mono _ _) hc)) ?_
    refine l_val (v := Nx (bs.length)) rfl rfl rfl (e_len (a := va) (n := bs.length) (c := vc) rfl sa111) ?_
    refine l_val (v := .bool (decide (((k : Nat) : Int) < ((bs.length : Nat) : Int)))) rfl rfl rfl (e_lss (a := ((k : Nat) : Int)) (b := ((bs.length : Nat) : Int)) rfl rfl) ?_
    refine l_nil ?_
    refine f_then ?_
    refine c_if (((k : Nat) : Int) < ((bs.length : Nat) : Int)) rfl (fun hc2 => ?_) (fun hc2 => ?_)
    ·
      refine c_region ?_
      refine l_val (v := Nx (m + 1)) rfl rfl rfl (e_move) ?_
      refine l_val (v := .slice va (bs.length) (vc)) rfl rfl rfl (e_load1 sa110 (v := .slice va (bs.length) (vc)) rfl (Knows.of_base (Cs.mono _ _) hc)) ?_
      refine l_val (v := Nx (k)) rfl rfl rfl (e_move) ?_
      obtain ⟨x3, hx4⟩ : ∃ x_, (bs)[k]? = some x_ := ⟨_, List.getElem?_eq_getElem (by omega)⟩
      obtain ⟨ha5, cs6, hc7, rfl⟩ := ve _ _ hx4
      refine l_val (v := .pointer (some ((ba va).add (k * 1)))) rfl rfl rfl (e_indexAddr (k := k) (len := bs.length) (cap := vc) (a := va) rfl rfl sa112 (by omega) ha5) ?_
      refine l_val (v := Bx (x3)) rfl rfl rfl (e_load1 sa113 (v := Bx (x3)) rfl (Knows.of_base (Cs.mono _ _) hc7)) ?_
      have x3l := x3.toNat_lt
      refine l_val (v := Nx (x3.toNat)) rfl rfl rfl (e_conv (a := ((x3).toNat : Int)) rfl ⟨_, sa114⟩ tu40 (i64n rfl (by have := (x3).toNat_lt; omega))) ?_
      refine l_val (v := Nx (x3.toNat % 16)) rfl rfl rfl (e_rem (a := ((x3.toNat : Nat) : Int)) (b := (16 : Int)) rfl rfl (by decide) (nat_tmod _ 16)) ?_
      refine l_val (v := Nx ((m + 1) + (x3.toNat % 16))) rfl rfl rfl (e_add (a := ((m + 1 : Nat) : Int)) (b := ((x3.toNat % 16 : Nat) : Int)) rfl rfl (i64n (by omega) (by omega))) ?_
      refine l_val (v := Nx ((m + 1) + (x3.toNat % 16))) rfl rfl rfl (e_assign) ?_
      refine l_nil ?_
      refine f_block ?_
      refine f_then ?_
      refine c_region ?_
      refine l_val (v := Nx (k)) rfl rfl rfl (e_move) ?_
      refine l_val (v := Nx (k + 1)) rfl rfl rfl (e_add (a := ((k : Nat) : Int)) (b := (1 : Int)) rfl rfl (i64n (by omega) (by omega))) ?_
      refine l_val (v := Nx (k + 1)) rfl rfl rfl (e_assign) ?_
      refine l_nil ?_
      exact f_cut ⟨(k + 1, (m + 1) + (x3.toNat % 16)), ⟨⟨rfl, rfl, rfl, rfl⟩, rfl, ⟨by omega, by rw [atN_in hx4, hm]⟩⟩, (show i - (k + 1) < i - k from by omega)⟩
    ·
      refine c_skip ?_
      refine f_block ?_
      refine f_then ?_
      refine c_region ?_
      refine l_val (v := Nx (k)) rfl rfl rfl (e_move) ?_
      refine l_val (v := Nx (k + 1)) rfl rfl rfl (e_add (a := ((k : Nat) : Int)) (b := (1 : Int)) rfl rfl (i64n (by omega) (by omega))) ?_
      refine l_val (v := Nx (k + 1)) rfl rfl rfl (e_assign) ?_
      refine l_nil ?_
      exact f_cut ⟨(k + 1, m + 1), ⟨⟨rfl, rfl, rfl, rfl⟩, rfl, ⟨by omega, by rw [atN_out (by omega), hm]⟩⟩, (show i - (k + 1) < i - k from by omega)⟩
  ·
    refine c_exit ?_
    refine f_then_exit ?_
    refine f_then_exit ?_
    refine f_exit ?_
    refine f_then ?_
    refine c_seq ?_
    refine c_region ?_
    refine l_val (v := Nx (m)) rfl rfl rfl (e_move) ?_
    refine l_val (v := Nx (m)) rfl rfl rfl (e_assign) ?_
    refine l_nil ?_
    refine f_then ?_
    refine c_ret ?_
    refine ret1 Tryz.results18 (v := Nx (m)) rfl ?_
    intro w hw
    have hki : k = i := by omega
    subst hki
    exact ⟨congrArg (fun z : Nat => Ending.returned (Nx z)) hm, st_mask [] rfl hw⟩
set_option maxHeartbeats 4000000 in
theorem madeB_ok (β : Base) (w : World) (hw : St β [] w) (v : Value) (bs : List UInt8) (hs : Sl U8R β.heap v bs) : Calls Tryz.prog 5 #[v] w fun r w' => ∃ p c out, r = .returned (.slice p out.length c) ∧ MeshB bs out ∧ St β [rowF AreaF 29 p c out] w' := by
  obtain ⟨va, vc, rfl, vl, vm, ve⟩ := hs.get
  refine enter (n := 72) Tryz.func5 rfl Tryz.ntmps5 rfl ?_ hw
  refine c_seq ?_
  refine c_region ?_
  refine l_mv rfl rfl rfl (m_box (v := .slice va (bs.length) (vc)) rfl) ?_
  rintro _ _ ⟨b1, rfl, rfl⟩
  refine l_val (v := .slice none 0 0) rfl rfl rfl (e_assign) ?_
  refine l_nil ?_
  refine f_then ?_
  refine c_seq ?_
  refine c_region ?_
  refine l_val (v := .func (.func 18) #[] #[.pointer (some ⟨b1, 0, none⟩)]) rfl rfl rfl (e_func (u := []) (v := [.pointer (some ⟨b1, 0, none⟩)]) rfl rfl) ?_
  refine l_val (v := .func (.func 18) #[] #[.pointer (some ⟨b1, 0, none⟩)]) rfl rfl rfl (e_assign) ?_
  refine l_nil ?_
  refine f_then ?_
  refine c_seq ?_
  refine c_region ?_
  refine l_val (v := .slice none 0 0) rfl rfl rfl (e_assign) ?_
  refine l_nil ?_
  refine f_then ?_
  refine c_seq ?_
  refine c_seq ?_
  refine c_emp (r := rowF AreaF 29 none 0 []) (row_nil _ _ _) ?_
  refine c_region ?_
  refine l_val (v := .int .i64 (8)) rfl rfl rfl (e_assign) ?_
  refine l_nil ?_
  refine f_then ?_
  refine c_block ?_
  refine c_loop (fun (x_ : Nat × List KA × Option Addr × Nat) (f : Fm) (L : List Res) => match x_ with | (i, out, tp, tc) => (f 1 = .pointer (some ⟨b1, 0, none⟩) ∧ f 3 = .func (.func 18) #[] #[.pointer (some ⟨b1, 0, none⟩)] ∧ f 4 = .slice tp (out.length) tc ∧ f 5 = Nx (i)) ∧ L = [rowF AreaF 29 tp tc out, pt b1 (.cells #[.slice va (bs.length) (vc)] 22)] ∧ (8 ≤ i ∧ i ≤ bs.length + 8 ∧ MeshB bs out)) (fun (x_ : Nat × List KA × Option Addr × Nat) => match x_ with | (i, out, tp, tc) => bs.length + 8 - i) (8, [], none, 0) ?_ ?_
  · exact ⟨⟨rfl, rfl, rfl, rfl⟩, rfl, ⟨by omega, by omega, MeshB.nil bs⟩⟩
  rintro ⟨i, out, tp, tc⟩ f0 L0 ⟨⟨hs1, hs3, hs4, hs5⟩, hL, ⟨hi8, hil, hB⟩⟩
  subst L0
  refine rebase (d := 1) hs1 ?_
  refine rebase (d := 3) hs3 ?_
  refine rebase (d := 4) hs4 ?_
  refine rebase (d := 5) hs5 ?_
  clear hs1 hs3 hs4 hs5
  have hol := hB.len
  refine c_seq ?_
  refine c_seq ?_
  refine c_region ?_
  refine l_val (v := Nx (i)) rfl rfl rfl (e_move) ?_
  refine l_val (v := .slice va (bs.length) (vc)) rfl rfl rfl (e_load1 sa110 (v := .slice va (bs.length) (vc)) rfl (k_pt 1 (cs := #[.slice va (bs.length) (vc)]) (vs := [.slice va (bs.length) (vc)]) rfl rfl)) ?_
  refine l_val (v := Nx (bs.length)) rfl rfl rfl (e_len (a := va) (n := bs.length) (c := vc) rfl sa111) ?_
  refine l_val (v := .bool (decide (((i : Nat) : Int) < ((bs.length : Nat) : Int)))) rfl rfl rfl (e_lss (a := ((i : Nat) : Int)) (b := ((bs.length : Nat) : Int)) rfl rfl) ?_
  refine l_val (v := .bool (decide (((i : Nat) : Int) < ((bs.length : Nat) : Int)))) rfl rfl rfl (e_move) ?_
  refine l_split (s := 17) (p := ((i : Nat) : Int) < ((bs.length : Nat) : Int)) rfl (fun hg2 => ?_) (fun hg2 => ?_)
  ·
    refine g_val (v := .slice tp (out.length) tc) rfl rfl rfl rfl rfl (e_move) ?_
    refine g_val (v := Nx (out.length)) rfl rfl rfl rfl rfl (e_len (a := tp) (n := out.length) (c := tc) rfl tp13) ?_
    refine g_val (v := .bool (decide (((out.length : Nat) : Int) < (24 : Int)))) rfl rfl rfl rfl rfl (e_lss (a := ((out.length : Nat) : Int)) (b := (24 : Int)) rfl rfl) ?_
    refine l_val (v := .bool (decide (((out.length : Nat) : Int) < (24 : Int)))) rfl rfl rfl (e_pick_t rfl) ?_
    refine l_nil ?_
    refine f_then ?_
    refine c_if (((out.length : Nat) : Int) < (24 : Int)) rfl (fun hc3 => ?_) (fun hc3 => ?_)
    ·
      refine c_skip ?_
      refine f_then ?_
      refine c_seq ?_
      refine c_block ?_
      refine c_seq ?_
      refine c_quiet (by kernel_rfl) (by kernel_rfl) ?_
      refine q_val (v := .slice va (bs.length) (vc)) rfl rfl rfl (e_load1 sa110 (v := .slice va (bs.length) (vc)) rfl (k_pt 1 (cs := #[.slice va (bs.length) (vc)]) (vs := [.slice va (bs.length) (vc)]) rfl rfl)) ?_
      refine q_val (v := Nx (i)) rfl rfl rfl (e_move) ?_
      obtain ⟨x4, hx5⟩ : ∃ x_, (bs)[i]? = some x_ := ⟨_, List.getElem?_eq_getElem (by omega)⟩
      obtain ⟨ha6, cs7, hc8, rfl⟩ := ve _ _ hx5
      refine q_val (v := .pointer (some ((ba va).add (i * 1)))) rfl rfl rfl (e_indexAddr (k := i) (len := bs.length) (cap := vc) (a := va) rfl rfl sa112 (by omega) ha6) ?_
      refine q_val (v := Bx (x4)) rfl rfl rfl (e_load1 sa113 (v := Bx (x4)) rfl (Knows.of_base (Cs.mono _ _) hc8)) ?_
      have x4l := x4.toNat_lt
      refine q_val (v := Nx (x4.toNat)) rfl rfl rfl (e_conv (a := ((x4).toNat : Int)) rfl ⟨_, sa114⟩ tu40 (i64n rfl (by have := (x4).toNat_lt; omega))) ?_
      refine q_val (v := Nx (x4.toNat % 8)) rfl rfl rfl (e_rem (a := ((x4.toNat : Nat) : Int)) (b := (8 : Int)) rfl rfl (by decide) (nat_tmod _ 8)) ?_
      refine q_val (v := .slice va (bs.length) (vc)) rfl rfl rfl (e_load1 sa110 (v := .slice va (bs.length) (vc)) rfl (k_pt 1 (cs := #[.slice va (bs.length) (vc)]) (vs := [.slice va (bs.length) (vc)]) rfl rfl)) ?_
      refine q_val (v := Nx (i)) rfl rfl rfl (e_move) ?_
      refine q_val (v := .pointer (some ((ba va).add (i * 1)))) rfl rfl rfl (e_indexAddr (k := i) (len := bs.length) (cap := vc) (a := va) rfl rfl sa112 (by omega) ha6) ?_
      refine q_val (v := Bx (x4)) rfl rfl rfl (e_load1 sa113 (v := Bx (x4)) rfl (Knows.of_base (Cs.mono _ _) hc8)) ?_
      refine q_val (v := Nx (x4.toNat)) rfl rfl rfl (e_conv (a := ((x4).toNat : Int)) rfl ⟨_, sa114⟩ tu40 (i64n rfl (by have := (x4).toNat_lt; omega))) ?_
      refine q_val (v := Nx (x4.toNat / 8)) rfl rfl rfl (e_quo (a := ((x4.toNat : Nat) : Int)) (b := (8 : Int)) rfl rfl (by decide) (i64n (nat_tdiv _ 8) (by omega))) ?_
      refine q_val (v := Nx ((x4.toNat / 8) % 8)) rfl rfl rfl (e_rem (a := ((x4.toNat / 8 : Nat) : Int)) (b := (8 : Int)) rfl rfl (by decide) (nat_tmod _ 8)) ?_
      refine q_val (v := Nx (x4.toNat % 8)) rfl rfl rfl (e_assign) ?_
      refine q_val (v := Nx ((x4.toNat / 8) % 8)) rfl rfl rfl (e_assign) ?_
      refine q_nil ?_
      refine f_then ?_
      refine c_seq ?_
      have hX8 : x4.toNat % 8 < 8 := by omega
      have hY8 : (x4.toNat / 8) % 8 < 8 := by omega
      obtain ⟨X, hXE⟩ : ∃ z, z = x4.toNat % 8 := ⟨_, rfl⟩
      obtain ⟨Y, hYE⟩ : ∃ z, z = (x4.toNat / 8) % 8 := ⟨_, rfl⟩
      rw [← hXE] at hX8 ⊢
      rw [← hYE] at hY8 ⊢
      refine c_region ?_
      refine l_val (v := .func (.func 18) #[] #[.pointer (some ⟨b1, 0, none⟩)]) rfl rfl rfl (e_move) ?_
      refine l_val (v := Nx (X)) rfl rfl rfl (e_move) ?_
      refine l_call rfl rfl rfl (cl_value (fst := []) (cap := [.pointer (some ⟨b1, 0, none⟩)]) (vs := [Nx (X)]) (all := [Nx (X), .pointer (some ⟨b1, 0, none⟩)]) sa115 rfl rfl rfl) ?_
      intro w hw
      obtain ⟨β1, sb, kn, hw1, back⟩ := St.frame_all hw
      refine (at_ok β1 w hw1 b1 _ bs (Sl.mono _ _ _ _ _ sb (⟨⟨_, _, rfl, vl, vm, ve⟩⟩ : Sl U8R _ _ bs)) (kn _ (k_pt 1 (o := 0) (cs := #[.slice va (bs.length) (vc)]) (vs := [.slice va (bs.length) (vc)]) rfl rfl)) X (by omega)).mono ?_
      rintro e w' ⟨rfl, hw'⟩
      refine ⟨_, rfl, _, back _ _ hw', ?_⟩
      clear hw hw1 hw' back kn sb
      refine l_val (v := .func (.func 18) #[] #[.pointer (some ⟨b1, 0, none⟩)]) rfl rfl rfl (e_move) ?_
      refine l_val (v := Nx (Y)) rfl rfl rfl (e_move) ?_
      refine l_call rfl rfl rfl (cl_value (fst := []) (cap := [.pointer (some ⟨b1, 0, none⟩)]) (vs := [Nx (Y)]) (all := [Nx (Y), .pointer (some ⟨b1, 0, none⟩)]) sa115 rfl rfl rfl) ?_
      intro w hw
      obtain ⟨β1, sb, kn, hw1, back⟩ := St.frame_all hw
      refine (at_ok β1 w hw1 b1 _ bs (Sl.mono _ _ _ _ _ sb (⟨⟨_, _, rfl, vl, vm, ve⟩⟩ : Sl U8R _ _ bs)) (kn _ (k_pt 1 (o := 0) (cs := #[.slice va (bs.length) (vc)]) (vs := [.slice va (bs.length) (vc)]) rfl rfl)) Y (by omega)).mono ?_
      rintro e w' ⟨rfl, hw'⟩
      refine ⟨_, rfl, _, back _ _ hw', ?_⟩
      clear hw hw1 hw' back kn sb
      refine l_val (v := .func (.func 18) #[] #[.pointer (some ⟨b1, 0, none⟩)]) rfl rfl rfl (e_move) ?_
      refine l_val (v := Nx (X)) rfl rfl rfl (e_move) ?_
      refine l_val (v := Nx (X + 1)) rfl rfl rfl (e_add (a := ((X : Nat) : Int)) (b := (1 : Int)) rfl rfl (i64n (by omega) (by omega))) ?_
      refine l_call rfl rfl rfl (cl_value (fst := []) (cap := [.pointer (some ⟨b1, 0, none⟩)]) (vs := [Nx (X + 1)]) (all := [Nx (X + 1), .pointer (some ⟨b1, 0, none⟩)]) sa115 rfl rfl rfl) ?_
      intro w hw
      obtain ⟨β1, sb, kn, hw1, back⟩ := St.frame_all hw
      refine (at_ok β1 w hw1 b1 _ bs (Sl.mono _ _ _ _ _ sb (⟨⟨_, _, rfl, vl, vm, ve⟩⟩ : Sl U8R _ _ bs)) (kn _ (k_pt 1 (o := 0) (cs := #[.slice va (bs.length) (vc)]) (vs := [.slice va (bs.length) (vc)]) rfl rfl)) (X + 1) (by omega)).mono ?_
      rintro e w' ⟨rfl, hw'⟩
      refine ⟨_, rfl, _, back _ _ hw', ?_⟩
      clear hw hw1 hw' back kn sb
      refine l_val (v := .func (.func 18) #[] #[.pointer (some ⟨b1, 0, none⟩)]) rfl rfl rfl (e_move) ?_
      refine l_val (v := Nx (Y)) rfl rfl rfl (e_move) ?_
      refine l_val (v := Nx (Y + 1)) rfl rfl rfl (e_add (a := ((Y : Nat) : Int)) (b := (1 : Int)) rfl rfl (i64n (by omega) (by omega))) ?_
      refine l_call rfl rfl rfl (cl_value (fst := []) (cap := [.pointer (some ⟨b1, 0, none⟩)]) (vs := [Nx (Y + 1)]) (all := [Nx (Y + 1), .pointer (some ⟨b1, 0, none⟩)]) sa115 rfl rfl rfl) ?_
      intro w hw
      obtain ⟨β1, sb, kn, hw1, back⟩ := St.frame_all hw
      refine (at_ok β1 w hw1 b1 _ bs (Sl.mono _ _ _ _ _ sb (⟨⟨_, _, rfl, vl, vm, ve⟩⟩ : Sl U8R _ _ bs)) (kn _ (k_pt 1 (o := 0) (cs := #[.slice va (bs.length) (vc)]) (vs := [.slice va (bs.length) (vc)]) rfl rfl)) (Y + 1) (by omega)).mono ?_
      rintro e w' ⟨rfl, hw'⟩
      refine ⟨_, rfl, _, back _ _ hw', ?_⟩
      clear hw hw1 hw' back kn sb
      refine l_call rfl rfl rfl (cl_value (fst := []) (cap := []) (vs := [Nx (atN bs X), Nx (atN bs Y), Nx (atN bs (X + 1)), Nx (atN bs (Y + 1))]) (all := [Nx (atN bs X), Nx (atN bs Y), Nx (atN bs (X + 1)), Nx (atN bs (Y + 1))]) ty100 rfl rfl rfl) ?_
      intro w hw
      obtain ⟨β1, sb, kn, hw1, back⟩ := St.frame_all hw
      refine (room_ok β1 w hw1 ((atN bs X : Nat) : Int) ((atN bs Y : Nat) : Int) ((atN bs (X + 1) : Nat) : Int) ((atN bs (Y + 1) : Nat) : Int)).mono ?_
      rintro e w' ⟨rfl, hw'⟩
      refine ⟨_, rfl, _, back _ _ hw', ?_⟩
      clear hw hw1 hw' back kn sb
      refine l_mv rfl rfl rfl (m_alloc tp8) ?_
      rintro _ _ ⟨b10, rfl, rfl⟩
      refine l_mu rfl rfl (m_store 0 tp10 (b := b10) (o := 0) (T := 29) (cs := #[.int .i64 (0), .int .i64 (0), .int .i64 (0), .int .i64 (0)]) (cs' := #[Nx (atN bs X), Nx (atN bs Y), Nx (atN bs (X + 1)), Nx (atN bs (Y + 1))]) (v := .agg #[Nx (atN bs X), Nx (atN bs Y), Nx (atN bs (X + 1)), Nx (atN bs (Y + 1))]) rfl rfl rfl rfl rfl rfl rfl) ?_
      refine l_nil ?_
      refine f_then ?_
      refine c_seq ?_
      obtain ⟨R, hR⟩ : ∃ z, z = sqr bs X Y := ⟨_, rfl⟩
      refine c_re (L' := [pt b10 (.cells (aC R) 29), rowF AreaF 29 tp tc out, pt b1 (.cells #[.slice va (bs.length) (vc)] 22)]) (by rw [hR]; rfl) ?_
      refine c_region ?_
      refine l_val (v := .bool false) rfl rfl rfl (e_assign) ?_
      refine l_nil ?_
      refine f_then ?_
      refine c_seq ?_
      refine c_seq ?_
      refine c_region ?_
      refine l_val (v := .slice tp (out.length) tc) rfl rfl rfl (e_move) ?_
      refine l_val (v := Nx (out.length)) rfl rfl rfl (e_len (a := tp) (n := out.length) (c := tc) rfl tp13) ?_
      refine l_val (v := .int .i64 (0)) rfl rfl rfl (e_move) ?_
      refine l_nil ?_
      refine f_then ?_
      refine c_block ?_
      refine c_mask [true, true, true] rfl ?_
      refine c_loop (fun (j : Nat) (f : Fm) (L : List Res) => (f 1 = .pointer (some ⟨b1, 0, none⟩) ∧ f 3 = .func (.func 18) #[] #[.pointer (some ⟨b1, 0, none⟩)] ∧ f 4 = .slice tp (out.length) tc ∧ f 5 = Nx (i) ∧ f 8 = .pointer (some ⟨b10, 0, none⟩) ∧ f 9 = .bool (decide (R ∈ out.take j)) ∧ f 52 = .slice tp (out.length) tc ∧ f 53 = Nx (out.length) ∧ f 54 = Nx (j)) ∧ L = [pt b10 (.cells (aC R) 29), rowF AreaF 29 tp tc out, pt b1 (.cells #[.slice va (bs.length) (vc)] 22)] ∧ (j ≤ out.length)) (fun (j : Nat) => out.length - j) 0 ?_ ?_
      · exact ⟨⟨rfl, rfl, rfl, rfl, rfl, (congrArg Value.bool (decide_eq_false (by simp)).symm), rfl, rfl, rfl⟩, rfl, (by omega)⟩
      rintro j f0 L0 ⟨⟨hs1, hs3, hs4, hs5, hs8, hs9, hs52, hs53, hs54⟩, hL, hj⟩
      subst L0
      refine rebase (d := 1) hs1 ?_
      refine rebase (d := 3) hs3 ?_
      refine rebase (d := 4) hs4 ?_
      refine rebase (d := 5) hs5 ?_
      refine rebase (d := 8) hs8 ?_
      refine rebase (d := 9) hs9 ?_
      refine rebase (d := 52) hs52 ?_
      refine rebase (d := 53) hs53 ?_
      refine rebase (d := 54) hs54 ?_
      clear hs1 hs3 hs4 hs5 hs8 hs9 hs52 hs53 hs54
      refine c_seq ?_
      refine c_region ?_
      refine l_val (v := .bool (decide (((j : Nat) : Int) < ((out.length : Nat) : Int)))) rfl rfl rfl (e_lss (a := ((j : Nat) : Int)) (b := ((out.length : Nat) : Int)) rfl rfl) ?_
      refine l_nil ?_
      refine f_then ?_
      refine c_seq ?_
      refine c_if (((j : Nat) : Int) < ((out.length : Nat) : Int)) rfl (fun hc11 => ?_) (fun hc11 => ?_)
      ·
        refine c_skip ?_
        refine f_then ?_
        refine c_seq ?_
        refine c_block ?_
        refine c_seq ?_
        refine c_region ?_
        refine l_val (v := .pointer (some ((ba tp).add (j * 4)))) rfl rfl rfl (e_indexFlN 1 (F := AreaF) (j := j) (m := out.length) (xs := out) rfl rfl rfl tp14 (by omega) rfl) ?_
        obtain ⟨x12, hx13⟩ : ∃ x_, out[j]? = some x_ := ⟨_, List.getElem?_eq_getElem (by omega)⟩
        refine l_val (v := .agg (aC x12)) rfl rfl rfl (e_load tp10 (cs := (areaE x12)) rfl (k_flAt 1 (F := AreaF) rfl hx13) rfl) ?_
        refine l_mv rfl rfl rfl (m_alloc tp8) ?_
        rintro _ _ ⟨b14, rfl, rfl⟩
        refine l_mu rfl rfl (m_store 0 tp10 (b := b14) (o := 0) (T := 29) (cs := #[.int .i64 (0), .int .i64 (0), .int .i64 (0), .int .i64 (0)]) (cs' := (aC x12)) (v := .agg (aC x12)) rfl rfl rfl rfl rfl rfl rfl) ?_
        refine l_nil ?_
        refine f_then ?_
        refine c_region ?_
        refine l_val (v := .bool (decide (R ∈ out.take j))) rfl rfl rfl (e_move) ?_
        refine l_val (v := .bool (decide (R ∈ out.take j))) rfl rfl rfl (e_move) ?_
        refine l_split (s := 59) (p := R ∈ out.take j) rfl (fun hg15 => ?_) (fun hg15 => ?_)
        ·
          refine l_skip rfl rfl rfl rfl rfl rfl ?_
          refine l_skip rfl rfl rfl rfl rfl rfl ?_
          refine l_skip rfl rfl rfl rfl rfl rfl ?_
          refine l_val (v := .bool true) rfl rfl rfl (e_pick_t rfl) ?_
          refine l_val (v := .bool true) rfl rfl rfl (e_assign) ?_
          refine l_nil ?_
          refine f_block ?_
          refine f_then ?_
          refine c_region ?_
          refine l_val (v := Nx (j + 1)) rfl rfl rfl (e_add (a := ((j : Nat) : Int)) (b := (1 : Int)) rfl rfl (i64n (by omega) (by omega))) ?_
          refine l_val (v := Nx (j + 1)) rfl rfl rfl (e_move) ?_
          refine l_nil ?_
          refine f_mask (L' := [pt b10 (.cells (aC R) 29), rowF AreaF 29 tp tc out, pt b1 (.cells #[.slice va (bs.length) (vc)] 22)]) [false, true, true, true] rfl ?_
          exact f_cut ⟨j + 1, ⟨⟨rfl, rfl, rfl, rfl, rfl, (congrArg Value.bool (decide_eq_true (mem_next hx13 hg15)).symm), rfl, rfl, rfl⟩, rfl, (by omega)⟩, (show out.length - (j + 1) < out.length - j from by omega)⟩
        ·
          refine g_val (v := .agg (aC x12)) rfl rfl rfl rfl rfl (e_load tp10 (cs := (areaE x12)) rfl (k_pt 0 (cs := (aC x12)) (vs := (areaE x12)) rfl rfl) rfl) ?_
          refine g_val (v := .agg (aC R)) rfl rfl rfl rfl rfl (e_load tp10 (cs := (areaE R)) rfl (k_pt 1 (cs := (aC R)) (vs := (areaE R)) rfl rfl) rfl) ?_
          refine g_val (v := .bool (decide (x12 = R))) rfl rfl rfl rfl rfl (e_eql_t (xs := areaE x12) (ys := areaE R) sa116 sa117 sa118 rfl rfl rfl rfl (ar_eq (x := x12) (y := R))) ?_
          refine l_val (v := .bool (decide (x12 = R))) rfl rfl rfl (e_pick_f rfl) ?_
          refine l_val (v := .bool (decide (x12 = R))) rfl rfl rfl (e_assign) ?_
          refine l_nil ?_
          refine f_block ?_
          refine f_then ?_
          refine c_region ?_
          refine l_val (v := Nx (j + 1)) rfl rfl rfl (e_add (a := ((j : Nat) : Int)) (b := (1 : Int)) rfl rfl (i64n (by omega) (by omega))) ?_
          refine l_val (v := Nx (j + 1)) rfl rfl rfl (e_move) ?_
          refine l_nil ?_
          refine f_mask (L' := [pt b10 (.cells (aC R) 29), rowF AreaF 29 tp tc out, pt b1 (.cells #[.slice va (bs.length) (vc)] 22)]) [false, true, true, true] rfl ?_
          exact f_cut ⟨j + 1, ⟨⟨rfl, rfl, rfl, rfl, rfl, (congrArg Value.bool (decide_eq_decide.2 (mem_eq hx13 hg15))), rfl, rfl, rfl⟩, rfl, (by omega)⟩, (show out.length - (j + 1) < out.length - j from by omega)⟩
      ·
        refine c_exit ?_
        refine f_then_exit ?_
        refine f_then_exit ?_
        refine f_exit ?_
        refine f_then ?_
        refine c_seq ?_
        refine c_region ?_
        refine l_val (v := .bool (decide (R ∈ out.take j))) rfl rfl rfl (e_move) ?_
        refine l_val (v := .bool (decide (¬ (R ∈ out.take j)))) rfl rfl rfl (e_not_p (p := R ∈ out.take j) rfl) ?_
        refine l_nil ?_
        refine f_then ?_
        refine c_if (¬ (R ∈ out.take j)) rfl (fun hc16 => ?_) (fun hc16 => ?_)
        ·
          refine c_region ?_
          refine l_val (v := .slice tp (out.length) tc) rfl rfl rfl (e_move) ?_
          refine l_val (v := .agg (aC R)) rfl rfl rfl (e_load tp10 (cs := (areaE R)) rfl (k_pt 0 (cs := (aC R)) (vs := (areaE R)) rfl rfl) rfl) ?_
          refine l_mv rfl rfl rfl (m_slices tp14 tp8 (vs := [(0, .agg (aC R))]) (cells := (aC R)) rfl rfl rfl rfl) ?_
          rintro _ _ ⟨b17, rfl, rfl⟩
          refine l_mv rfl rfl rfl (m_appendFlN (F := AreaF) 2 tp14 sa119 (p := tp) (m := out.length) (xs := out) (ys := [R]) (ao := (some ⟨b17, 0, none⟩)) (k := 1) (c := 1) rfl rfl rfl rfl rfl (k_ptFl (z := R) 0 rfl rfl) (by first | omega | simp only [List.length_nil, List.length_cons, List.length_append, List.length_set]; omega) (by first | omega | simp only [List.length_nil, List.length_cons, List.length_append, List.length_set]; omega)) ?_
          rintro _ _ ⟨rp18, rc19, rfl, rfl⟩
          refine l_val (v := .slice rp18 ((out ++ [R]).length) rc19) rfl rfl rfl (e_assign) ?_
          refine l_nil ?_
          refine f_block ?_
          refine f_then ?_
          refine c_region ?_
          refine l_val (v := Nx (i)) rfl rfl rfl (e_move) ?_
          refine l_val (v := Nx (i + 1)) rfl rfl rfl (e_add (a := ((i : Nat) : Int)) (b := (1 : Int)) rfl rfl (i64n (by omega) (by omega))) ?_
          refine l_val (v := Nx (i + 1)) rfl rfl rfl (e_assign) ?_
          refine l_nil ?_
          refine f_mask (L' := [rowF AreaF 29 rp18 rc19 (out ++ [R]), pt b1 (.cells #[.slice va (bs.length) (vc)] 22)]) [false, false, true, true] rfl ?_
          exact f_cut ⟨(i + 1, (out ++ [R]), rp18, rc19), ⟨⟨rfl, rfl, rfl, rfl⟩, rfl, ⟨by omega, by omega, hB.add hX8 hY8 hR (by omega) (by have q := hc16; rwa [List.take_of_length_le (by omega)] at q)⟩⟩, (show bs.length + 8 - (i + 1) < bs.length + 8 - i from by omega)⟩
        ·
          refine c_skip ?_
          refine f_block ?_
          refine f_then ?_
          refine c_region ?_
          refine l_val (v := Nx (i)) rfl rfl rfl (e_move) ?_
          refine l_val (v := Nx (i + 1)) rfl rfl rfl (e_add (a := ((i : Nat) : Int)) (b := (1 : Int)) rfl rfl (i64n (by omega) (by omega))) ?_
          refine l_val (v := Nx (i + 1)) rfl rfl rfl (e_assign) ?_
          refine l_nil ?_
          refine f_mask (L' := [rowF AreaF 29 tp tc out, pt b1 (.cells #[.slice va (bs.length) (vc)] 22)]) [false, true, true] rfl ?_
          exact f_cut ⟨(i + 1, out, tp, tc), ⟨⟨rfl, rfl, rfl, rfl⟩, rfl, ⟨by omega, by omega, hB⟩⟩, (show bs.length + 8 - (i + 1) < bs.length + 8 - i from by omega)⟩
    ·
      refine c_exit ?_
      refine f_then_exit ?_
      refine f_then_exit ?_
      refine f_exit ?_
      refine f_then ?_
      refine c_seq ?_
      refine c_region ?_
      refine l_val (v := .slice tp (out.length) tc) rfl rfl rfl (e_move) ?_
      refine l_val (v := .slice tp (out.length) tc) rfl rfl rfl (e_assign) ?_
      refine l_nil ?_
      refine f_then ?_
      refine c_ret ?_
      refine ret1 Tryz.results5 (v := .slice tp (out.length) tc) rfl ?_
      intro w hw
      exact ⟨tp, tc, out, rfl, hB, st_mask [true, false] rfl hw⟩
  ·
    refine l_skip rfl rfl rfl rfl rfl rfl ?_
    refine l_skip rfl rfl rfl rfl rfl rfl ?_
    refine l_skip rfl rfl rfl rfl rfl rfl ?_
    refine l_val (v := .bool false) rfl rfl rfl (e_pick_f rfl) ?_
    refine l_nil ?_
    refine f_then ?_
    refine c_no rfl ?_
    refine c_exit ?_
    refine f_then_exit ?_
    refine f_then_exit ?_
    refine f_exit ?_
    refine f_then ?_
    refine c_seq ?_
    refine c_region ?_
    refine l_val (v := .slice tp (out.length) tc) rfl rfl rfl (e_move) ?_
    refine l_val (v := .slice tp (out.length) tc) rfl rfl rfl (e_assign) ?_
    refine l_nil ?_
    refine f_then ?_
    refine c_ret ?_
    refine ret1 Tryz.results5 (v := .slice tp (out.length) tc) rfl ?_
    intro w hw
    exact ⟨tp, tc, out, rfl, hB, st_mask [true, false] rfl hw⟩
end Go.Proofs
