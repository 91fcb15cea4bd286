/-
  Made, spot: walked. Printed by a program of my own.
-/
import Derived.Test.YthncdmfogeemcaaPt8
import Derived.Test.YthncdmfogeemcaaPtMade
namespace Go.Proofs
open Go Go.Sl Go.Brd Go.Pth
theorem sa110 : tyB Try.prog 22 false 1 = true := by kernel_rfl
theorem sa111 : Try.prog.underlying 22 = some (.slice 5) := by kernel_rfl
theorem sa112 : slB Try.prog 22 5 1 = true := by kernel_rfl
theorem sa113 : tyB Try.prog 5 false 1 = true := by kernel_rfl
theorem sa114 : Try.prog.underlying 5 = some (.int .u8) := by kernel_rfl
theorem sa115 : cfB Try.prog 24 = true := by kernel_rfl
theorem sa116 : lay Try.prog 10000 43 = some [.int .i64, .int .i64, .int .i64, .int .i64] := by kernel_rfl
theorem sa117 : isAggT Try.prog 43 = true := by kernel_rfl
theorem sa118 : Try.prog.eqGuardType Try.prog.depth 43 = false := by kernel_rfl
theorem sa119 : elB Try.prog 43 4 32 = true := by kernel_rfl
theorem sa120 : Try.prog.underlying 23 = some (.int .u32) := by kernel_rfl
set_option maxHeartbeats 4000000 in
theorem at_ok (β : Base) (w : World) (hw : St β [] w) (c : Nat) (v : Value) (bs : List UInt8) (hs : Sl U8R β.heap v bs) (hc : Cs β.heap ⟨c, 0, none⟩ [v]) (i : Nat) (hi : i ≤ 8) : Calls Try.prog 24 #[Nx i, .pointer (some ⟨c, 0, none⟩)] w fun r w' => r = .returned (Nx (atN bs i)) ∧ St β [] w' := by
  obtain ⟨va, vc, rfl, vl, vm, ve⟩ := hs.get
  refine enter (n := 26) Try.func24 rfl Try.ntmps24 rfl ?_ hw
  refine c_seq ?_
  refine c_region ?_
  refine l_val (v := .int .i64 (0)) rfl rfl rfl (e_assign) ?_
  refine l_nil ?_
  refine f_then ?_
  refine c_seq ?_
  refine c_region ?_
  refine l_val (v := .int .i64 (0)) rfl rfl rfl (e_assign) ?_
  refine l_nil ?_
  refine f_then ?_
  refine c_seq ?_
  refine c_seq ?_
  refine c_region ?_
  refine l_val (v := .int .i64 (0)) rfl rfl rfl (e_assign) ?_
  refine l_nil ?_
  refine f_then ?_
  refine c_block ?_
  refine c_loop (fun (x_ : Nat × Nat) (f : Fm) (L : List Res) => match x_ with | (k, m) => (f 0 = Nx (i) ∧ f 1 = .pointer (some (⟨c, 0, none⟩)) ∧ f 4 = Nx (m) ∧ f 5 = Nx (k)) ∧ L = [] ∧ (k ≤ i ∧ m = atN bs k)) (fun (x_ : Nat × Nat) => match x_ with | (k, m) => i - k) (0, 0) ?_ ?_
  · exact ⟨⟨rfl, rfl, rfl, rfl⟩, rfl, ⟨by omega, rfl⟩⟩
  rintro ⟨k, m⟩ f0 L0 ⟨⟨hs0, hs1, hs4, hs5⟩, hL, ⟨hk, hm⟩⟩
  subst L0
  refine rebase (d := 0) hs0 ?_
  refine rebase (d := 1) hs1 ?_
  refine rebase (d := 4) hs4 ?_
  refine rebase (d := 5) hs5 ?_
  clear hs0 hs1 hs4 hs5
  have hml := atN_le bs k
  refine c_seq ?_
  refine c_seq ?_
  refine c_region ?_
  refine l_val (v := Nx (k)) rfl rfl rfl (e_move) ?_
  refine l_val (v := Nx (i)) rfl rfl rfl (e_move) ?_
  refine l_val (v := .bool (decide (((k : Nat) : Int) < ((i : Nat) : Int)))) rfl rfl rfl (e_lss (a := ((k : Nat) : Int)) (b := ((i : Nat) : Int)) rfl rfl) ?_
  refine l_nil ?_
  refine f_then ?_
  refine c_if (((k : Nat) : Int) < ((i : Nat) : Int)) rfl (fun hc1 => ?_) (fun hc1 => ?_)
  ·
    refine c_skip ?_
    refine f_then ?_
    refine c_seq ?_
    refine c_block ?_
    refine c_seq ?_
    refine c_region ?_
    refine l_val (v := Nx (m)) rfl rfl rfl (e_move) ?_
    refine l_val (v := Nx (m + 1)) rfl rfl rfl (e_add (a := ((m : Nat) : Int)) (b := (1 : Int)) rfl rfl (i64n (by omega) (by omega))) ?_
    refine l_val (v := Nx (m + 1)) rfl rfl rfl (e_assign) ?_
    refine l_nil ?_
    refine f_then ?_
    refine c_seq ?_
    refine c_region ?_
    refine l_val (v := Nx (k)) rfl rfl rfl (e_move) ?_
    refine l_val (v := .slice va (bs.length) (vc)) rfl rfl rfl (e_load1 sa110 (v := .slice va (bs.length) (vc)) rfl (Knows.of_base (Cs.mono _ _) hc)) ?_
    refine l_val (v := Nx (bs.length)) rfl rfl rfl (e_len (a := va) (n := bs.length) (c := vc) rfl sa111) ?_
    refine l_val (v := .bool (decide (((k : Nat) : Int) < ((bs.length : Nat) : Int)))) rfl rfl rfl (e_lss (a := ((k : Nat) : Int)) (b := ((bs.length : Nat) : Int)) rfl rfl) ?_
    refine l_nil ?_
    refine f_then ?_
    refine c_if (((k : Nat) : Int) < ((bs.length : Nat) : Int)) rfl (fun hc2 => ?_) (fun hc2 => ?_)
    ·
      refine c_region ?_
      refine l_val (v := Nx (m + 1)) rfl rfl rfl (e_move) ?_
      refine l_val (v := .slice va (bs.length) (vc)) rfl rfl rfl (e_load1 sa110 (v := .slice va (bs.length) (vc)) rfl (Knows.of_base (Cs.mono _ _) hc)) ?_
      refine l_val (v := Nx (k)) rfl rfl rfl (e_move) ?_
      obtain ⟨x3, hx4⟩ : ∃ x_, (bs)[k]? = some x_ := ⟨_, List.getElem?_eq_getElem (by omega)⟩
      obtain ⟨ha5, cs6, hc7, rfl⟩ := ve _ _ hx4
      refine l_val (v := .pointer (some ((ba va).add (k * 1)))) rfl rfl rfl (e_indexAddr (k := k) (len := bs.length) (cap := vc) (a := va) rfl rfl sa112 (by omega) ha5) ?_
      refine l_val (v := Bx (x3)) rfl rfl rfl (e_load1 sa113 (v := Bx (x3)) rfl (Knows.of_base (Cs.mono _ _) hc7)) ?_
      have x3l := x3.toNat_lt
      refine l_val (v := Nx (x3.toNat)) rfl rfl rfl (e_conv (a := ((x3).toNat : Int)) rfl ⟨_, sa114⟩ tu40 (i64n rfl (by have := (x3).toNat_lt; omega))) ?_
      refine l_val (v := Nx (x3.toNat % 16)) rfl rfl rfl (e_rem (a := ((x3.toNat : Nat) : Int)) (b := (16 : Int)) rfl rfl (by decide) (nat_tmod _ 16)) ?_
      refine l_val (v := Nx ((m + 1) + (x3.toNat % 16))) rfl rfl rfl (e_add (a := ((m + 1 : Nat) : Int)) (b := ((x3.toNat % 16 : Nat) : Int)) rfl rfl (i64n (by omega) (by omega))) ?_
      refine l_val (v := Nx ((m + 1) + (x3.toNat % 16))) rfl rfl rfl (e_assign) ?_
      refine l_nil ?_
      refine f_block ?_
      refine f_then ?_
      refine c_region ?_
      refine l_val (v := Nx (k)) rfl rfl rfl (e_move) ?_
      refine l_val (v := Nx (k + 1)) rfl rfl rfl (e_add (a := ((k : Nat) : Int)) (b := (1 : Int)) rfl rfl (i64n (by omega) (by omega))) ?_
      refine l_val (v := Nx (k + 1)) rfl rfl rfl (e_assign) ?_
      refine l_nil ?_
      exact f_cut ⟨(k + 1, (m + 1) + (x3.toNat % 16)), ⟨⟨rfl, rfl, rfl, rfl⟩, rfl, ⟨by omega, by rw [atN_in hx4, hm]⟩⟩, (show i - (k + 1) < i - k from by omega)⟩
    ·
      refine c_skip ?_
      refine f_block ?_
      refine f_then ?_
      refine c_region ?_
      refine l_val (v := Nx (k)) rfl rfl rfl (e_move) ?_
      refine l_val (v := Nx (k + 1)) rfl rfl rfl (e_add (a := ((k : Nat) : Int)) (b := (1 : Int)) rfl rfl (i64n (by omega) (by omega))) ?_
      refine l_val (v := Nx (k + 1)) rfl rfl rfl (e_assign) ?_
      refine l_nil ?_
      exact f_cut ⟨(k + 1, m + 1), ⟨⟨rfl, rfl, rfl, rfl⟩, rfl, ⟨by omega, by rw [atN_out (by omega), hm]⟩⟩, (show i - (k + 1) < i - k from by omega)⟩
  ·
    refine c_exit ?_
    refine f_then_exit ?_
    refine f_then_exit ?_
    refine f_exit ?_
    refine f_then ?_
    refine c_seq ?_
    refine c_region ?_
    refine l_val (v := Nx (m)) rfl rfl rfl (e_move) ?_
    refine l_val (v := Nx (m)) rfl rfl rfl (e_assign) ?_
    refine l_nil ?_
    refine f_then ?_
    refine c_ret ?_
    refine ret1 Try.results24 (v := Nx (m)) rfl ?_
    intro w hw
    have hki : k = i := by omega
    subst hki
    exact ⟨congrArg (fun z : Nat => Ending.returned (Nx z)) hm, st_mask [] rfl hw⟩
set_option maxHeartbeats 4000000 in
theorem madeB_ok (β : Base) (w : World) (hw : St β [] w) (v : Value) (bs : List UInt8) (hs : Sl U8R β.heap v bs) : Calls Try.prog 8 #[v] w fun r w' => ∃ p c out, r = .returned (.slice p out.length c) ∧ MeshB bs out ∧ St β [rowF AreaF 43 p c out] w' := by
  obtain ⟨va, vc, rfl, vl, vm, ve⟩ := hs.get
  refine enter (n := 72) Try.func8 rfl Try.ntmps8 rfl ?_ hw
  refine c_seq ?_
  refine c_region ?_
  refine l_mv rfl rfl rfl (m_box (v := .slice va (bs.length) (vc)) rfl) ?_
  rintro _ _ ⟨b1, rfl, rfl⟩
  refine l_val (v := .slice none 0 0) rfl rfl rfl (e_assign) ?_
  refine l_nil ?_
  refine f_then ?_
  refine c_seq ?_
  refine c_region ?_
  refine l_val (v := .func (.func 24) #[] #[.pointer (some ⟨b1, 0, none⟩)]) rfl rfl rfl (e_func (u := []) (v := [.pointer (some ⟨b1, 0, none⟩)]) rfl rfl) ?_
  refine l_val (v := .func (.func 24) #[] #[.pointer (some ⟨b1, 0, none⟩)]) rfl rfl rfl (e_assign) ?_
  refine l_nil ?_
  refine f_then ?_
  refine c_seq ?_
  refine c_region ?_
  refine l_val (v := .slice none 0 0) rfl rfl rfl (e_assign) ?_
  refine l_nil ?_
  refine f_then ?_
  refine c_seq ?_
  refine c_seq ?_
  refine c_emp (r := rowF AreaF 43 none 0 []) (row_nil _ _ _) ?_
  refine c_region ?_
  refine l_val (v := .int .i64 (8)) rfl rfl rfl (e_assign) ?_
  refine l_nil ?_
  refine f_then ?_
  refine c_block ?_
  refine c_loop (fun (x_ : Nat × List KA × Option Addr × Nat) (f : Fm) (L : List Res) => match x_ with | (i, out, tp, tc) => (f 1 = .pointer (some ⟨b1, 0, none⟩) ∧ f 3 = .func (.func 24) #[] #[.pointer (some ⟨b1, 0, none⟩)] ∧ f 4 = .slice tp (out.length) tc ∧ f 5 = Nx (i)) ∧ L = [rowF AreaF 43 tp tc out, pt b1 (.cells #[.slice va (bs.length) (vc)] 22)] ∧ (8 ≤ i ∧ i ≤ bs.length + 8 ∧ MeshB bs out)) (fun (x_ : Nat × List KA × Option Addr × Nat) => match x_ with | (i, out, tp, tc) => bs.length + 8 - i) (8, [], none, 0) ?_ ?_
  · exact ⟨⟨rfl, rfl, rfl, rfl⟩, rfl, ⟨by omega, by omega, MeshB.nil bs⟩⟩
  rintro ⟨i, out, tp, tc⟩ f0 L0 ⟨⟨hs1, hs3, hs4, hs5⟩, hL, ⟨hi8, hil, hB⟩⟩
  subst L0
  refine rebase (d := 1) hs1 ?_
  refine rebase (d := 3) hs3 ?_
  refine rebase (d := 4) hs4 ?_
  refine rebase (d := 5) hs5 ?_
  clear hs1 hs3 hs4 hs5
  have hol := hB.len
  refine c_seq ?_
  refine c_seq ?_
  refine c_region ?_
  refine l_val (v := Nx (i)) rfl rfl rfl (e_move) ?_
  refine l_val (v := .slice va (bs.length) (vc)) rfl rfl rfl (e_load1 sa110 (v := .slice va (bs.length) (vc)) rfl (k_pt 1 (cs := #[.slice va (bs.length) (vc)]) (vs := [.slice va (bs.length) (vc)]) rfl rfl)) ?_
  refine l_val (v := Nx (bs.length)) rfl rfl rfl (e_len (a := va) (n := bs.length) (c := vc) rfl sa111) ?_
  refine l_val (v := .bool (decide (((i : Nat) : Int) < ((bs.length : Nat) : Int)))) rfl rfl rfl (e_lss (a := ((i : Nat) : Int)) (b := ((bs.length : Nat) : Int)) rfl rfl) ?_
  refine l_val (v := .bool (decide (((i : Nat) : Int) < ((bs.length : Nat) : Int)))) rfl rfl rfl (e_move) ?_
  refine l_split (s := 17) (p := ((i : Nat) : Int) < ((bs.length : Nat) : Int)) rfl (fun hg2 => ?_) (fun hg2 => ?_)
  ·
    refine g_val (v := .slice tp (out.length) tc) rfl rfl rfl rfl rfl (e_move) ?_
    refine g_val (v := Nx (out.length)) rfl rfl rfl rfl rfl (e_len (a := tp) (n := out.length) (c := tc) rfl tp13) ?_
    refine g_val (v := .bool (decide (((out.length : Nat) : Int) < (24 : Int)))) rfl rfl rfl rfl rfl (e_lss (a := ((out.length : Nat) : Int)) (b := (24 : Int)) rfl rfl) ?_
    refine l_val (v := .bool (decide (((out.length : Nat) : Int) < (24 : Int)))) rfl rfl rfl (e_pick_t rfl) ?_
    refine l_nil ?_
    refine f_then ?_
    refine c_if (((out.length : Nat) : Int) < (24 : Int)) rfl (fun hc3 => ?_) (fun hc3 => ?_)
    ·
      refine c_skip ?_
      refine f_then ?_
      refine c_seq ?_
      refine c_block ?_
      refine c_seq ?_
      refine c_quiet (by kernel_rfl) (by kernel_rfl) ?_
      refine q_val (v := .slice va (bs.length) (vc)) rfl rfl rfl (e_load1 sa110 (v := .slice va (bs.length) (vc)) rfl (k_pt 1 (cs := #[.slice va (bs.length) (vc)]) (vs := [.slice va (bs.length) (vc)]) rfl rfl)) ?_
      refine q_val (v := Nx (i)) rfl rfl rfl (e_move) ?_
      obtain ⟨x4, hx5⟩ : ∃ x_, (bs)[i]? = some x_ := ⟨_, List.getElem?_eq_getElem (by omega)⟩
      obtain ⟨ha6, cs7, hc8, rfl⟩ := ve _ _ hx5
      refine q_val (v := .pointer (some ((ba va).add (i * 1)))) rfl rfl rfl (e_indexAddr (k := i) (len := bs.length) (cap := vc) (a := va) rfl rfl sa112 (by omega) ha6) ?_
      refine q_val (v := Bx (x4)) rfl rfl rfl (e_load1 sa113 (v := Bx (x4)) rfl (Knows.of_base (Cs.mono _ _) hc8)) ?_
      have x4l := x4.toNat_lt
      refine q_val (v := Nx (x4.toNat)) rfl rfl rfl (e_conv (a := ((x4).toNat : Int)) rfl ⟨_, sa114⟩ tu40 (i64n rfl (by have := (x4).toNat_lt; omega))) ?_
      refine q_val (v := Nx (x4.toNat % 8)) rfl rfl rfl (e_rem (a := ((x4.toNat : Nat) : Int)) (b := (8 : Int)) rfl rfl (by decide) (nat_tmod _ 8)) ?_
      refine q_val (v := .slice va (bs.length) (vc)) rfl rfl rfl (e_load1 sa110 (v := .slice va (bs.length) (vc)) rfl (k_pt 1 (cs := #[.slice va (bs.length) (vc)]) (vs := [.slice va (bs.length) (vc)]) rfl rfl)) ?_
      refine q_val (v := Nx (i)) rfl rfl rfl (e_move) ?_
      refine q_val (v := .pointer (some ((ba va).add (i * 1)))) rfl rfl rfl (e_indexAddr (k := i) (len := bs.length) (cap := vc) (a := va) rfl rfl sa112 (by omega) ha6) ?_
      refine q_val (v := Bx (x4)) rfl rfl rfl (e_load1 sa113 (v := Bx (x4)) rfl (Knows.of_base (Cs.mono _ _) hc8)) ?_
      refine q_val (v := Nx (x4.toNat)) rfl rfl rfl (e_conv (a := ((x4).toNat : Int)) rfl ⟨_, sa114⟩ tu40 (i64n rfl (by have := (x4).toNat_lt; omega))) ?_
      refine q_val (v := Nx (x4.toNat / 8)) rfl rfl rfl (e_quo (a := ((x4.toNat : Nat) : Int)) (b := (8 : Int)) rfl rfl (by decide) (i64n (nat_tdiv _ 8) (by omega))) ?_
      refine q_val (v := Nx ((x4.toNat / 8) % 8)) rfl rfl rfl (e_rem (a := ((x4.toNat / 8 : Nat) : Int)) (b := (8 : Int)) rfl rfl (by decide) (nat_tmod _ 8)) ?_
      refine q_val (v := Nx (x4.toNat % 8)) rfl rfl rfl (e_assign) ?_
      refine q_val (v := Nx ((x4.toNat / 8) % 8)) rfl rfl rfl (e_assign) ?_
      refine q_nil ?_
      refine f_then ?_
      refine c_seq ?_
      have hX8 : x4.toNat % 8 < 8 := by omega
      have hY8 : (x4.toNat / 8) % 8 < 8 := by omega
      obtain ⟨X, hXE⟩ : ∃ z, z = x4.toNat % 8 := ⟨_, rfl⟩
      obtain ⟨Y, hYE⟩ : ∃ z, z = (x4.toNat / 8) % 8 := ⟨_, rfl⟩
      rw [← hXE] at hX8 ⊢
      rw [← hYE] at hY8 ⊢
      refine c_region ?_
      refine l_val (v := .func (.func 24) #[] #[.pointer (some ⟨b1, 0, none⟩)]) rfl rfl rfl (e_move) ?_
      refine l_val (v := Nx (X)) rfl rfl rfl (e_move) ?_
      refine l_call rfl rfl rfl (cl_value (fst := []) (cap := [.pointer (some ⟨b1, 0, none⟩)]) (vs := [Nx (X)]) (all := [Nx (X), .pointer (some ⟨b1, 0, none⟩)]) sa115 rfl rfl rfl) ?_
      intro w hw
      obtain ⟨β1, sb, kn, hw1, back⟩ := St.frame_all hw
      refine (at_ok β1 w hw1 b1 _ bs (Sl.mono _ _ _ _ _ sb (⟨⟨_, _, rfl, vl, vm, ve⟩⟩ : Sl U8R _ _ bs)) (kn _ (k_pt 1 (o := 0) (cs := #[.slice va (bs.length) (vc)]) (vs := [.slice va (bs.length) (vc)]) rfl rfl)) X (by omega)).mono ?_
      rintro e w' ⟨rfl, hw'⟩
      refine ⟨_, rfl, _, back _ _ hw', ?_⟩
      clear hw hw1 hw' back kn sb
      refine l_val (v := .func (.func 24) #[] #[.pointer (some ⟨b1, 0, none⟩)]) rfl rfl rfl (e_move) ?_
      refine l_val (v := Nx (Y)) rfl rfl rfl (e_move) ?_
      refine l_call rfl rfl rfl (cl_value (fst := []) (cap := [.pointer (some ⟨b1, 0, none⟩)]) (vs := [Nx (Y)]) (all := [Nx (Y), .pointer (some ⟨b1, 0, none⟩)]) sa115 rfl rfl rfl) ?_
      intro w hw
      obtain ⟨β1, sb, kn, hw1, back⟩ := St.frame_all hw
      refine (at_ok β1 w hw1 b1 _ bs (Sl.mono _ _ _ _ _ sb (⟨⟨_, _, rfl, vl, vm, ve⟩⟩ : Sl U8R _ _ bs)) (kn _ (k_pt 1 (o := 0) (cs := #[.slice va (bs.length) (vc)]) (vs := [.slice va (bs.length) (vc)]) rfl rfl)) Y (by omega)).mono ?_
      rintro e w' ⟨rfl, hw'⟩
      refine ⟨_, rfl, _, back _ _ hw', ?_⟩
      clear hw hw1 hw' back kn sb
      refine l_val (v := .func (.func 24) #[] #[.pointer (some ⟨b1, 0, none⟩)]) rfl rfl rfl (e_move) ?_
      refine l_val (v := Nx (X)) rfl rfl rfl (e_move) ?_
      refine l_val (v := Nx (X + 1)) rfl rfl rfl (e_add (a := ((X : Nat) : Int)) (b := (1 : Int)) rfl rfl (i64n (by omega) (by omega))) ?_
      refine l_call rfl rfl rfl (cl_value (fst := []) (cap := [.pointer (some ⟨b1, 0, none⟩)]) (vs := [Nx (X + 1)]) (all := [Nx (X + 1), .pointer (some ⟨b1, 0, none⟩)]) sa115 rfl rfl rfl) ?_
      intro w hw
      obtain ⟨β1, sb, kn, hw1, back⟩ := St.frame_all hw
      refine (at_ok β1 w hw1 b1 _ bs (Sl.mono _ _ _ _ _ sb (⟨⟨_, _, rfl, vl, vm, ve⟩⟩ : Sl U8R _ _ bs)) (kn _ (k_pt 1 (o := 0) (cs := #[.slice va (bs.length) (vc)]) (vs := [.slice va (bs.length) (vc)]) rfl rfl)) (X + 1) (by omega)).mono ?_
      rintro e w' ⟨rfl, hw'⟩
      refine ⟨_, rfl, _, back _ _ hw', ?_⟩
      clear hw hw1 hw' back kn sb
      refine l_val (v := .func (.func 24) #[] #[.pointer (some ⟨b1, 0, none⟩)]) rfl rfl rfl (e_move) ?_
      refine l_val (v := Nx (Y)) rfl rfl rfl (e_move) ?_
      refine l_val (v := Nx (Y + 1)) rfl rfl rfl (e_add (a := ((Y : Nat) : Int)) (b := (1 : Int)) rfl rfl (i64n (by omega) (by omega))) ?_
      refine l_call rfl rfl rfl (cl_value (fst := []) (cap := [.pointer (some ⟨b1, 0, none⟩)]) (vs := [Nx (Y + 1)]) (all := [Nx (Y + 1), .pointer (some ⟨b1, 0, none⟩)]) sa115 rfl rfl rfl) ?_
      intro w hw
      obtain ⟨β1, sb, kn, hw1, back⟩ := St.frame_all hw
      refine (at_ok β1 w hw1 b1 _ bs (Sl.mono _ _ _ _ _ sb (⟨⟨_, _, rfl, vl, vm, ve⟩⟩ : Sl U8R _ _ bs)) (kn _ (k_pt 1 (o := 0) (cs := #[.slice va (bs.length) (vc)]) (vs := [.slice va (bs.length) (vc)]) rfl rfl)) (Y + 1) (by omega)).mono ?_
      rintro e w' ⟨rfl, hw'⟩
      refine ⟨_, rfl, _, back _ _ hw', ?_⟩
      clear hw hw1 hw' back kn sb
      refine l_call rfl rfl rfl (cl_value (fst := []) (cap := []) (vs := [Nx (atN bs X), Nx (atN bs Y), Nx (atN bs (X + 1)), Nx (atN bs (Y + 1))]) (all := [Nx (atN bs X), Nx (atN bs Y), Nx (atN bs (X + 1)), Nx (atN bs (Y + 1))]) ty100 rfl rfl rfl) ?_
      intro w hw
      obtain ⟨β1, sb, kn, hw1, back⟩ := St.frame_all hw
      refine (room_ok β1 w hw1 ((atN bs X : Nat) : Int) ((atN bs Y : Nat) : Int) ((atN bs (X + 1) : Nat) : Int) ((atN bs (Y + 1) : Nat) : Int)).mono ?_
      rintro e w' ⟨rfl, hw'⟩
      refine ⟨_, rfl, _, back _ _ hw', ?_⟩
      clear hw hw1 hw' back kn sb
      refine l_mv rfl rfl rfl (m_alloc tp8) ?_
      rintro _ _ ⟨b10, rfl, rfl⟩
      refine l_mu rfl rfl (m_store 0 tp10 (b := b10) (o := 0) (T := 43) (cs := #[.int .i64 (0), .int .i64 (0), .int .i64 (0), .int .i64 (0)]) (cs' := #[Nx (atN bs X), Nx (atN bs Y), Nx (atN bs (X + 1)), Nx (atN bs (Y + 1))]) (v := .agg #[Nx (atN bs X), Nx (atN bs Y), Nx (atN bs (X + 1)), Nx (atN bs (Y + 1))]) rfl rfl rfl rfl rfl rfl rfl) ?_
      refine l_nil ?_
      refine f_then ?_
      refine c_seq ?_
      obtain ⟨R, hR⟩ : ∃ z, z = sqr bs X Y := ⟨_, rfl⟩
      refine c_re (L' := [pt b10 (.cells (aC R) 43), rowF AreaF 43 tp tc out, pt b1 (.cells #[.slice va (bs.length) (vc)] 22)]) (by rw [hR]; rfl) ?_
      refine c_region ?_
      refine l_val (v := .bool false) rfl rfl rfl (e_assign) ?_
      refine l_nil ?_
      refine f_then ?_
      refine c_seq ?_
      refine c_seq ?_
      refine c_region ?_
      refine l_val (v := .slice tp (out.length) tc) rfl rfl rfl (e_move) ?_
      refine l_val (v := Nx (out.length)) rfl rfl rfl (e_len (a := tp) (n := out.length) (c := tc) rfl tp13) ?_
      refine l_val (v := .int .i64 (0)) rfl rfl rfl (e_move) ?_
      refine l_nil ?_
      refine f_then ?_
      refine c_block ?_
      refine c_mask [true, true, true] rfl ?_
      refine c_loop (fun (j : Nat) (f : Fm) (L : List Res) => (f 1 = .pointer (some ⟨b1, 0, none⟩) ∧ f 3 = .func (.func 24) #[] #[.pointer (some ⟨b1, 0, none⟩)] ∧ f 4 = .slice tp (out.length) tc ∧ f 5 = Nx (i) ∧ f 8 = .pointer (some ⟨b10, 0, none⟩) ∧ f 9 = .bool (decide (R ∈ out.take j)) ∧ f 52 = .slice tp (out.length) tc ∧ f 53 = Nx (out.length) ∧ f 54 = Nx (j)) ∧ L = [pt b10 (.cells (aC R) 43), rowF AreaF 43 tp tc out, pt b1 (.cells #[.slice va (bs.length) (vc)] 22)] ∧ (j ≤ out.length)) (fun (j : Nat) => out.length - j) 0 ?_ ?_
      · exact ⟨⟨rfl, rfl, rfl, rfl, rfl, (congrArg Value.bool (decide_eq_false (by simp)).symm), rfl, rfl, rfl⟩, rfl, (by omega)⟩
      rintro j f0 L0 ⟨⟨hs1, hs3, hs4, hs5, hs8, hs9, hs52, hs53, hs54⟩, hL, hj⟩
      subst L0
      refine rebase (d := 1) hs1 ?_
      refine rebase (d := 3) hs3 ?_
      refine rebase (d := 4) hs4 ?_
      refine rebase (d := 5) hs5 ?_
      refine rebase (d := 8) hs8 ?_
      refine rebase (d := 9) hs9 ?_
      refine rebase (d := 52) hs52 ?_
      refine rebase (d := 53) hs53 ?_
      refine rebase (d := 54) hs54 ?_
      clear hs1 hs3 hs4 hs5 hs8 hs9 hs52 hs53 hs54
      refine c_seq ?_
      refine c_region ?_
      refine l_val (v := .bool (decide (((j : Nat) : Int) < ((out.length : Nat) : Int)))) rfl rfl rfl (e_lss (a := ((j : Nat) : Int)) (b := ((out.length : Nat) : Int)) rfl rfl) ?_
      refine l_nil ?_
      refine f_then ?_
      refine c_seq ?_
      refine c_if (((j : Nat) : Int) < ((out.length : Nat) : Int)) rfl (fun hc11 => ?_) (fun hc11 => ?_)
      ·
        refine c_skip ?_
        refine f_then ?_
        refine c_seq ?_
        refine c_block ?_
        refine c_seq ?_
        refine c_region ?_
        refine l_val (v := .pointer (some ((ba tp).add (j * 4)))) rfl rfl rfl (e_indexFlN 1 (F := AreaF) (j := j) (m := out.length) (xs := out) rfl rfl rfl tp14 (by omega) rfl) ?_
        obtain ⟨x12, hx13⟩ : ∃ x_, out[j]? = some x_ := ⟨_, List.getElem?_eq_getElem (by omega)⟩
        refine l_val (v := .agg (aC x12)) rfl rfl rfl (e_load tp10 (cs := (areaE x12)) rfl (k_flAt 1 (F := AreaF) rfl hx13) rfl) ?_
        refine l_mv rfl rfl rfl (m_alloc tp8) ?_
        rintro _ _ ⟨b14, rfl, rfl⟩
        refine l_mu rfl rfl (m_store 0 tp10 (b := b14) (o := 0) (T := 43) (cs := #[.int .i64 (0), .int .i64 (0), .int .i64 (0), .int .i64 (0)]) (cs' := (aC x12)) (v := .agg (aC x12)) rfl rfl rfl rfl rfl rfl rfl) ?_
        refine l_nil ?_
        refine f_then ?_
        refine c_region ?_
        refine l_val (v := .bool (decide (R ∈ out.take j))) rfl rfl rfl (e_move) ?_
        refine l_val (v := .bool (decide (R ∈ out.take j))) rfl rfl rfl (e_move) ?_
        refine l_split (s := 59) (p := R ∈ out.take j) rfl (fun hg15 => ?_) (fun hg15 => ?_)
        ·
          refine l_skip rfl rfl rfl rfl rfl rfl ?_
          refine l_skip rfl rfl rfl rfl rfl rfl ?_
          refine l_skip rfl rfl rfl rfl rfl rfl ?_
          refine l_val (v := .bool true) rfl rfl rfl (e_pick_t rfl) ?_
          refine l_val (v := .bool true) rfl rfl rfl (e_assign) ?_
          refine l_nil ?_
          refine f_block ?_
          refine f_then ?_
          refine c_region ?_
          refine l_val (v := Nx (j + 1)) rfl rfl rfl (e_add (a := ((j : Nat) : Int)) (b := (1 : Int)) rfl rfl (i64n (by omega) (by omega))) ?_
          refine l_val (v := Nx (j + 1)) rfl rfl rfl (e_move) ?_
          refine l_nil ?_
          refine f_mask (L' := [pt b10 (.cells (aC R) 43), rowF AreaF 43 tp tc out, pt b1 (.cells #[.slice va (bs.length) (vc)] 22)]) [false, true, true, true] rfl ?_
          exact f_cut ⟨j + 1, ⟨⟨rfl, rfl, rfl, rfl, rfl, (congrArg Value.bool (decide_eq_true (mem_next hx13 hg15)).symm), rfl, rfl, rfl⟩, rfl, (by omega)⟩, (show out.length - (j + 1) < out.length - j from by omega)⟩
        ·
          refine g_val (v := .agg (aC x12)) rfl rfl rfl rfl rfl (e_load tp10 (cs := (areaE x12)) rfl (k_pt 0 (cs := (aC x12)) (vs := (areaE x12)) rfl rfl) rfl) ?_
          refine g_val (v := .agg (aC R)) rfl rfl rfl rfl rfl (e_load tp10 (cs := (areaE R)) rfl (k_pt 1 (cs := (aC R)) (vs := (areaE R)) rfl rfl) rfl) ?_
          refine g_val (v := .bool (decide (x12 = R))) rfl rfl rfl rfl rfl (e_eql_t (xs := areaE x12) (ys := areaE R) sa116 sa117 sa118 rfl rfl rfl rfl (ar_eq (x := x12) (y := R))) ?_
          refine l_val (v := .bool (decide (x12 = R))) rfl rfl rfl (e_pick_f rfl) ?_
          refine l_val (v := .bool (decide (x12 = R))) rfl rfl rfl (e_assign) ?_
          refine l_nil ?_
          refine f_block ?_
          refine f_then ?_
          refine c_region ?_
          refine l_val (v := Nx (j + 1)) rfl rfl rfl (e_add (a := ((j : Nat) : Int)) (b := (1 : Int)) rfl rfl (i64n (by omega) (by omega))) ?_
          refine l_val (v := Nx (j + 1)) rfl rfl rfl (e_move) ?_
          refine l_nil ?_
          refine f_mask (L' := [pt b10 (.cells (aC R) 43), rowF AreaF 43 tp tc out, pt b1 (.cells #[.slice va (bs.length) (vc)] 22)]) [false, true, true, true] rfl ?_
          exact f_cut ⟨j + 1, ⟨⟨rfl, rfl, rfl, rfl, rfl, (congrArg Value.bool (decide_eq_decide.2 (mem_eq hx13 hg15))), rfl, rfl, rfl⟩, rfl, (by omega)⟩, (show out.length - (j + 1) < out.length - j from by omega)⟩
      ·
        refine c_exit ?_
        refine f_then_exit ?_
        refine f_then_exit ?_
        refine f_exit ?_
        refine f_then ?_
        refine c_seq ?_
        refine c_region ?_
        refine l_val (v := .bool (decide (R ∈ out.take j))) rfl rfl rfl (e_move) ?_
        refine l_val (v := .bool (decide (¬ (R ∈ out.take j)))) rfl rfl rfl (e_not_p (p := R ∈ out.take j) rfl) ?_
        refine l_nil ?_
        refine f_then ?_
        refine c_if (¬ (R ∈ out.take j)) rfl (fun hc16 => ?_) (fun hc16 => ?_)
        ·
          refine c_region ?_
          refine l_val (v := .slice tp (out.length) tc) rfl rfl rfl (e_move) ?_
          refine l_val (v := .agg (aC R)) rfl rfl rfl (e_load tp10 (cs := (areaE R)) rfl (k_pt 0 (cs := (aC R)) (vs := (areaE R)) rfl rfl) rfl) ?_
          refine l_mv rfl rfl rfl (m_slices tp14 tp8 (vs := [(0, .agg (aC R))]) (cells := (aC R)) rfl rfl rfl rfl) ?_
          rintro _ _ ⟨b17, rfl, rfl⟩
          refine l_mv rfl rfl rfl (m_appendFlN (F := AreaF) 2 tp14 sa119 (p := tp) (m := out.length) (xs := out) (ys := [R]) (ao := (some ⟨b17, 0, none⟩)) (k := 1) (c := 1) rfl rfl rfl rfl rfl (k_ptFl (z := R) 0 rfl rfl) (by first | omega | simp only [List.length_nil, List.length_cons, List.length_append, List.length_set]; omega) (by first | omega | simp only [List.length_nil, List.length_cons, List.length_append, List.length_set]; omega)) ?_
          rintro _ _ ⟨rp18, rc19, rfl, rfl⟩
          refine l_val (v := .slice rp18 ((out ++ [R]).length) rc19) rfl rfl rfl (e_assign) ?_
          refine l_nil ?_
          refine f_block ?_
          refine f_then ?_
          refine c_region ?_
          refine l_val (v := Nx (i)) rfl rfl rfl (e_move) ?_
          refine l_val (v := Nx (i + 1)) rfl rfl rfl (e_add (a := ((i : Nat) : Int)) (b := (1 : Int)) rfl rfl (i64n (by omega) (by omega))) ?_
          refine l_val (v := Nx (i + 1)) rfl rfl rfl (e_assign) ?_
          refine l_nil ?_
          refine f_mask (L' := [rowF AreaF 43 rp18 rc19 (out ++ [R]), pt b1 (.cells #[.slice va (bs.length) (vc)] 22)]) [false, false, true, true] rfl ?_
          exact f_cut ⟨(i + 1, (out ++ [R]), rp18, rc19), ⟨⟨rfl, rfl, rfl, rfl⟩, rfl, ⟨by omega, by omega, hB.add hX8 hY8 hR (by omega) (by have q := hc16; rwa [List.take_of_length_le (by omega)] at q)⟩⟩, (show bs.length + 8 - (i + 1) < bs.length + 8 - i from by omega)⟩
        ·
          refine c_skip ?_
          refine f_block ?_
          refine f_then ?_
          refine c_region ?_
          refine l_val (v := Nx (i)) rfl rfl rfl (e_move) ?_
          refine l_val (v := Nx (i + 1)) rfl rfl rfl (e_add (a := ((i : Nat) : Int)) (b := (1 : Int)) rfl rfl (i64n (by omega) (by omega))) ?_
          refine l_val (v := Nx (i + 1)) rfl rfl rfl (e_assign) ?_
          refine l_nil ?_
          refine f_mask (L' := [rowF AreaF 43 tp tc out, pt b1 (.cells #[.slice va (bs.length) (vc)] 22)]) [false, true, true] rfl ?_
          exact f_cut ⟨(i + 1, out, tp, tc), ⟨⟨rfl, rfl, rfl, rfl⟩, rfl, ⟨by omega, by omega, hB⟩⟩, (show bs.length + 8 - (i + 1) < bs.length + 8 - i from by omega)⟩
    ·
      refine c_exit ?_
      refine f_then_exit ?_
      refine f_then_exit ?_
      refine f_exit ?_
      refine f_then ?_
      refine c_seq ?_
      refine c_region ?_
      refine l_val (v := .slice tp (out.length) tc) rfl rfl rfl (e_move) ?_
      refine l_val (v := .slice tp (out.length) tc) rfl rfl rfl (e_assign) ?_
      refine l_nil ?_
      refine f_then ?_
      refine c_ret ?_
      refine ret1 Try.results8 (v := .slice tp (out.length) tc) rfl ?_
      intro w hw
      exact ⟨tp, tc, out, rfl, hB, st_mask [true, false] rfl hw⟩
  ·
    refine l_skip rfl rfl rfl rfl rfl rfl ?_
    refine l_skip rfl rfl rfl rfl rfl rfl ?_
    refine l_skip rfl rfl rfl rfl rfl rfl ?_
    refine l_val (v := .bool false) rfl rfl rfl (e_pick_f rfl) ?_
    refine l_nil ?_
    refine f_then ?_
    refine c_no rfl ?_
    refine c_exit ?_
    refine f_then_exit ?_
    refine f_then_exit ?_
    refine f_exit ?_
    refine f_then ?_
    refine c_seq ?_
    refine c_region ?_
    refine l_val (v := .slice tp (out.length) tc) rfl rfl rfl (e_move) ?_
    refine l_val (v := .slice tp (out.length) tc) rfl rfl rfl (e_assign) ?_
    refine l_nil ?_
    refine f_then ?_
    refine c_ret ?_
    refine ret1 Try.results8 (v := .slice tp (out.length) tc) rfl ?_
    intro w hw
    exact ⟨tp, tc, out, rfl, hB, st_mask [true, false] rfl hw⟩
set_option maxHeartbeats 4000000 in
theorem spot_ok (β : Base) (w : World) (hw : St β [] w) (v : Value) (l : List KA) (hs : Sl AreaF.R β.heap v l) (hl : ∀ a ∈ l, smallA a) (hl2 : l.length ≤ 64) (n : Nat) (hn : n < 4294967296) : Calls Try.prog 9 #[v, .int .u32 ((n : Nat) : Int)] w fun r w' => ∃ p : KV, r = .returned (.agg #[Ix p.x, Ix p.y]) ∧ nearP p ∧ St β [] w' := by
  obtain ⟨va, vc, rfl, vl, vm, ve⟩ := hs.get
  refine enter (n := 56) Try.func9 rfl Try.ntmps9 rfl ?_ hw
  refine c_seq ?_
  refine c_region ?_
  refine l_mv rfl rfl rfl (m_alloc tp5) ?_
  rintro _ _ ⟨b1, rfl, rfl⟩
  refine l_nil ?_
  refine f_then ?_
  refine c_seq ?_
  refine c_seq ?_
  refine c_region ?_
  refine l_val (v := .slice va (l.length) (vc)) rfl rfl rfl (e_move) ?_
  refine l_val (v := Nx (l.length)) rfl rfl rfl (e_len (a := va) (n := l.length) (c := vc) rfl tp13) ?_
  refine l_val (v := .bool (decide (((l.length : Nat) : Int) = (0 : Int)))) rfl rfl rfl (e_eql (a := ((l.length : Nat) : Int)) (b := (0 : Int)) rfl rfl) ?_
  refine l_nil ?_
  refine f_then ?_
  refine c_if (((l.length : Nat) : Int) = (0 : Int)) rfl (fun hc2 => ?_) (fun hc2 => ?_)
  ·
    refine c_seq ?_
    refine c_region ?_
    refine l_val (v := .int .u32 (((n : Nat)) : Int)) rfl rfl rfl (e_move) ?_
    refine l_val (v := .int .u32 (((n % 9 : Nat)) : Int)) rfl rfl rfl (e_rem (a := ((n : Nat) : Int)) (b := ((9 : Nat) : Int)) rfl rfl (by decide) (nat_tmod _ 9)) ?_
    refine l_val (v := Nx (n % 9)) rfl rfl rfl (e_conv (a := ((n % 9 : Nat) : Int)) rfl ⟨_, sa120⟩ tu40 (i64n rfl (by omega))) ?_
    refine l_call rfl rfl rfl (cl_value (fst := []) (cap := []) (vs := [Nx (n % 9), .int .i64 (0)]) (all := [Nx (n % 9), .int .i64 (0)]) ty102 rfl rfl rfl) ?_
    intro w hw
    obtain ⟨β1, sb, kn, hw1, back⟩ := St.frame_all hw
    refine (point_ok β1 w hw1 ((n % 9 : Nat) : Int) (0 : Int)).mono ?_
    rintro e w' ⟨rfl, hw'⟩
    refine ⟨_, rfl, _, back _ _ hw', ?_⟩
    clear hw hw1 hw' back kn sb
    refine l_mu rfl rfl (m_store 0 tp7 (b := b1) (o := 0) (T := 28) (cs := #[.int .i64 (0), .int .i64 (0)]) (cs' := #[Nx (n % 9), .int .i64 (0)]) (v := .agg #[Nx (n % 9), .int .i64 (0)]) rfl rfl rfl rfl rfl rfl rfl) ?_
    refine l_nil ?_
    refine f_then ?_
    refine c_ret ?_
    refine f_then_ret ?_
    refine retG (l := [.cell 4 28]) (m := [.agg #[Nx (n % 9), .int .i64 (0)]]) (v := .agg #[Nx (n % 9), .int .i64 (0)]) Try.results9 ⟨rd_cell tp7 (cs := [Nx (n % 9), .int .i64 (0)]) rfl (k_pt 0 (cs := #[Nx (n % 9), .int .i64 (0)]) (vs := [Nx (n % 9), .int .i64 (0)]) rfl rfl) rfl, trivial⟩ rfl ?_
    intro w hw
    exact ⟨⟨(((n % 9 : Nat) : Int) : Int), (0 : Int)⟩, rfl, (show 0 ≤ (((n % 9 : Nat) : Int) : Int) ∧ (((n % 9 : Nat) : Int) : Int) ≤ 1000 ∧ 0 ≤ (0 : Int) ∧ (0 : Int) ≤ 1000 from by omega), st_mask [false] rfl hw⟩
  ·
    refine c_skip ?_
    refine f_then ?_
    refine c_seq ?_
    have hlp : 0 < l.length := by have q := hc2; omega
    have hmd : n % l.length < l.length := Nat.mod_lt _ hlp
    refine c_region ?_
    refine l_val (v := .slice va (l.length) (vc)) rfl rfl rfl (e_move) ?_
    refine l_val (v := .int .u32 (((n : Nat)) : Int)) rfl rfl rfl (e_move) ?_
    refine l_val (v := Nx (n)) rfl rfl rfl (e_conv (a := ((n : Nat) : Int)) rfl ⟨_, sa120⟩ tu40 (i64n rfl (by omega))) ?_
    refine l_val (v := .slice va (l.length) (vc)) rfl rfl rfl (e_move) ?_
    refine l_val (v := Nx (l.length)) rfl rfl rfl (e_len (a := va) (n := l.length) (c := vc) rfl tp13) ?_
    refine l_val (v := Nx (n % l.length)) rfl rfl rfl (e_rem (a := ((n : Nat) : Int)) (b := ((l.length : Nat) : Int)) rfl rfl (by omega) (nat_tmod _ _)) ?_
    obtain ⟨x3, hx4⟩ : ∃ x_, (l)[n % l.length]? = some x_ := ⟨_, List.getElem?_eq_getElem (by omega)⟩
    obtain ⟨ha5, cs6, hc7, rfl⟩ := ve _ _ hx4
    refine l_val (v := .pointer (some ((ba va).add ((n % l.length) * 4)))) rfl rfl rfl (e_indexAddr (k := n % l.length) (len := l.length) (cap := vc) (a := va) rfl rfl tp14 (by omega) ha5) ?_
    refine l_val (v := .agg (aC x3)) rfl rfl rfl (e_load tp10 (cs := (areaE x3)) rfl (Knows.of_base (Cs.mono _ _) hc7) rfl) ?_
    refine l_mv rfl rfl rfl (m_alloc tp8) ?_
    rintro _ _ ⟨b9, rfl, rfl⟩
    refine l_mu rfl rfl (m_store 0 tp10 (b := b9) (o := 0) (T := 43) (cs := #[.int .i64 (0), .int .i64 (0), .int .i64 (0), .int .i64 (0)]) (cs' := (aC x3)) (v := .agg (aC x3)) rfl rfl rfl rfl rfl rfl rfl) ?_
    refine l_nil ?_
    refine f_then ?_
    refine c_seq ?_
    have hbx := hl x3 (List.mem_of_getElem? hx4)
    unfold smallA at hbx
    obtain ⟨z10, hz11⟩ : ∃ z, z = Int.tmod (((n / 256) % 16 : Nat) : Int) (((x3.hx) - (x3.lx)) + (2 : Int)) := ⟨_, rfl⟩
    have hz11b := tmod_nn (a := (n / 256) % 16) (b := (((x3.hx) - (x3.lx)) + (2 : Int))) (by omega)
    rw [← hz11] at hz11b
    obtain ⟨z12, hz13⟩ : ∃ z, z = Int.tmod (((n / 65536) % 64 : Nat) : Int) (((x3.hy) - (x3.ly)) + (1 : Int)) := ⟨_, rfl⟩
    have hz13b := tmod_nn (a := (n / 65536) % 64) (b := (((x3.hy) - (x3.ly)) + (1 : Int))) (by omega)
    rw [← hz13] at hz13b
    refine c_any [⟨[], [], [0], [21], fun f => f 21 = .pointer (some ⟨b9, 0, none⟩)⟩, ⟨[0], [0], [], [22], fun f => f 22 = .pointer (some ⟨b9, 0, none⟩)⟩, ⟨[0, 1], [1], [], [23], fun f => f 23 = Ix (x3.lx)⟩, ⟨[], [], [1], [24], fun f => f 24 = .int .u32 (((n : Nat)) : Int)⟩, ⟨[3], [3], [], [25], fun f => f 25 = .int .u32 (((n / 256 : Nat)) : Int)⟩, ⟨[3, 4], [4], [], [26], fun f => f 26 = .int .u32 ((((n / 256) % 16 : Nat)) : Int)⟩, ⟨[3, 4, 5], [5], [], [27], fun f => f 27 = Nx ((n / 256) % 16)⟩, ⟨[], [], [0], [28], fun f => f 28 = .pointer (some ⟨b9, 2, none⟩)⟩, ⟨[7], [7], [], [29], fun f => f 29 = .pointer (some ⟨b9, 2, none⟩)⟩, ⟨[7, 8], [8], [], [30], fun f => f 30 = Ix (x3.hx)⟩, ⟨[], [], [0], [31], fun f => f 31 = .pointer (some ⟨b9, 0, none⟩)⟩, ⟨[10], [10], [], [32], fun f => f 32 = .pointer (some ⟨b9, 0, none⟩)⟩, ⟨[10, 11], [11], [], [33], fun f => f 33 = Ix (x3.lx)⟩, ⟨[7, 8, 9, 10, 11, 12], [9, 12], [], [34], fun f => f 34 = Ix ((x3.hx) - (x3.lx))⟩, ⟨[7, 8, 9, 10, 11, 12, 13], [13], [], [35], fun f => f 35 = Ix (((x3.hx) - (x3.lx)) + (2 : Int))⟩, ⟨[3, 4, 5, 6, 7, 8, 9, 10, 11, 12, 13, 14], [6, 14], [], [36], fun f => f 36 = Ix (z10)⟩, ⟨[0, 1, 2, 3, 4, 5, 6, 7, 8, 9, 10, 11, 12, 13, 14, 15], [2, 15], [], [37], fun f => f 37 = Ix ((x3.lx) + (z10))⟩, ⟨[], [], [0], [38], fun f => f 38 = .pointer (some ⟨b9, 0, none⟩)⟩, ⟨[17], [17], [], [39], fun f => f 39 = .pointer (some ⟨b9, 1, none⟩)⟩, ⟨[17, 18], [18], [], [40], fun f => f 40 = Ix (x3.ly)⟩, ⟨[], [], [1], [41], fun f => f 41 = .int .u32 (((n : Nat)) : Int)⟩, ⟨[20], [20], [], [42], fun f => f 42 = .int .u32 (((n / 65536 : Nat)) : Int)⟩, ⟨[20, 21], [21], [], [43], fun f => f 43 = .int .u32 ((((n / 65536) % 64 : Nat)) : Int)⟩, ⟨[20, 21, 22], [22], [], [44], fun f => f 44 = Nx ((n / 65536) % 64)⟩, ⟨[], [], [0], [45], fun f => f 45 = .pointer (some ⟨b9, 2, none⟩)⟩, ⟨[24], [24], [], [46], fun f => f 46 = .pointer (some ⟨b9, 3, none⟩)⟩, ⟨[24, 25], [25], [], [47], fun f => f 47 = Ix (x3.hy)⟩, ⟨[], [], [0], [48], fun f => f 48 = .pointer (some ⟨b9, 0, none⟩)⟩, ⟨[27], [27], [], [49], fun f => f 49 = .pointer (some ⟨b9, 1, none⟩)⟩, ⟨[27, 28], [28], [], [50], fun f => f 50 = Ix (x3.ly)⟩, ⟨[24, 25, 26, 27, 28, 29], [26, 29], [], [51], fun f => f 51 = Ix ((x3.hy) - (x3.ly))⟩, ⟨[24, 25, 26, 27, 28, 29, 30], [30], [], [52], fun f => f 52 = Ix (((x3.hy) - (x3.ly)) + (1 : Int))⟩, ⟨[20, 21, 22, 23, 24, 25, 26, 27, 28, 29, 30, 31], [23, 31], [], [53], fun f => f 53 = Ix (z12)⟩, ⟨[17, 18, 19, 20, 21, 22, 23, 24, 25, 26, 27, 28, 29, 30, 31, 32], [19, 32], [], [54], fun f => f 54 = Ix ((x3.ly) + (z12))⟩, ⟨[0, 1, 2, 3, 4, 5, 6, 7, 8, 9, 10, 11, 12, 13, 14, 15, 16, 17, 18, 19, 20, 21, 22, 23, 24, 25, 26, 27, 28, 29, 30, 31, 32, 33], [16, 33], [], [55], fun f => f 55 = .agg #[Ix ((x3.lx) + (z10)), Ix ((x3.ly) + (z12))]⟩, ⟨[0, 1, 2, 3, 4, 5, 6, 7, 8, 9, 10, 11, 12, 13, 14, 15, 16, 17, 18, 19, 20, 21, 22, 23, 24, 25, 26, 27, 28, 29, 30, 31, 32, 33, 34], [34], [2], [], fun _ => True⟩] [⟨none, none, [2, 9, 12, 19, 26, 29], [], fun _ => pt b9 (.cells (aC x3) 43)⟩, ⟨none, (some 35), [35], [], fun _ => pt b1 (.cells #[.int .i64 (0), .int .i64 (0)] 28)⟩, ⟨(some 35), none, [], [], fun _ => pt b1 (.cells #[Ix ((x3.lx) + (z10)), Ix ((x3.ly) + (z12))] 28)⟩] [(5, .pointer (some ⟨b9, 0, none⟩)), (1, .int .u32 (((n : Nat)) : Int)), (4, .pointer (some ⟨b1, 0, none⟩))] [2] [] (by kernel_rfl) (by kernel_rfl) (by kernel_rfl) (by kernel_rfl) rfl ⟨rfl, rfl, rfl, trivial⟩ ⟨?_, ?_, ?_, ?_, ?_, ?_, ?_, ?_, ?_, ?_, ?_, ?_, ?_, ?_, ?_, ?_, ?_, ?_, ?_, ?_, ?_, ?_, ?_, ?_, ?_, ?_, ?_, ?_, ?_, ?_, ?_, ?_, ?_, ?_, ?_, ?_, trivial⟩ ?_
    · rintro f M - ⟨i0, -⟩
      have hs5 : f 5 = .pointer (some ⟨b9, 0, none⟩) := i0
      refine ob_start (L' := M) (by rfl) (up_cons rfl hs5) ?_
      refine l_val (v := .pointer (some ⟨b9, 0, none⟩)) rfl rfl rfl (e_fieldPt (b := b9) (o := 0) rfl tp0) ?_
      refine l_nil ?_
      exact f_owes_d (up_cons rfl hs5) rfl (List.Perm.refl _)
    · rintro f M ⟨k0, -⟩ -
      have hs21 : f 21 = .pointer (some ⟨b9, 0, none⟩) := k0
      refine ob_start (L' := M) (by rfl) (up_cons rfl hs21) ?_
      refine l_val (v := .pointer (some ⟨b9, 0, none⟩)) rfl rfl rfl (e_fieldPt (b := b9) (o := 0) rfl tp1) ?_
      refine l_nil ?_
      exact f_owes_d (up_cons rfl hs21) rfl (List.Perm.refl _)
    · rintro f M ⟨k0, -⟩ -
      have hs22 : f 22 = .pointer (some ⟨b9, 0, none⟩) := k0
      refine ob_start (L' := pt b9 (.cells (aC x3) 43) :: M) (by rfl) (up_cons rfl hs22) ?_
      refine l_val (v := Ix (x3.lx)) rfl rfl rfl (e_load1 tp2 (v := Ix (x3.lx)) rfl (k_pt 0 (cs := (aC x3)) (vs := [Ix (x3.lx)]) rfl rfl)) ?_
      refine l_nil ?_
      exact f_owes_d (up_cons rfl hs22) rfl (perm_front 0 rfl)
    · rintro f M - ⟨i0, -⟩
      have hs1 : f 1 = .int .u32 (((n : Nat)) : Int) := i0
      refine ob_start (L' := M) (by rfl) (up_cons rfl hs1) ?_
      refine l_val (v := .int .u32 (((n : Nat)) : Int)) rfl rfl rfl (e_move) ?_
      refine l_nil ?_
      exact f_owes_d (up_cons rfl hs1) rfl (List.Perm.refl _)
    · rintro f M ⟨k0, -⟩ -
      have hs24 : f 24 = .int .u32 (((n : Nat)) : Int) := k0
      refine ob_start (L' := M) (by rfl) (up_cons rfl hs24) ?_
      refine l_val (v := .int .u32 (((n / 256 : Nat)) : Int)) rfl rfl rfl (e_shr (a := ((n : Nat) : Int)) (b := (8 : Int)) rfl rfl (by decide) (u32_shr8 _)) ?_
      refine l_nil ?_
      exact f_owes_d (up_cons rfl hs24) rfl (List.Perm.refl _)
    · rintro f M ⟨k0, -⟩ -
      have hs25 : f 25 = .int .u32 (((n / 256 : Nat)) : Int) := k0
      refine ob_start (L' := M) (by rfl) (up_cons rfl hs25) ?_
      refine l_val (v := .int .u32 ((((n / 256) % 16 : Nat)) : Int)) rfl rfl rfl (e_rem (a := ((n / 256 : Nat) : Int)) (b := ((16 : Nat) : Int)) rfl rfl (by decide) (nat_tmod _ 16)) ?_
      refine l_nil ?_
      exact f_owes_d (up_cons rfl hs25) rfl (List.Perm.refl _)
    · rintro f M ⟨k0, -⟩ -
      have hs26 : f 26 = .int .u32 ((((n / 256) % 16 : Nat)) : Int) := k0
      refine ob_start (L' := M) (by rfl) (up_cons rfl hs26) ?_
      refine l_val (v := Nx ((n / 256) % 16)) rfl rfl rfl (e_conv (a := (((n / 256) % 16 : Nat) : Int)) rfl ⟨_, sa120⟩ tu40 (i64n rfl (by omega))) ?_
      refine l_nil ?_
      exact f_owes_d (up_cons rfl hs26) rfl (List.Perm.refl _)
    · rintro f M - ⟨i0, -⟩
      have hs5 : f 5 = .pointer (some ⟨b9, 0, none⟩) := i0
      refine ob_start (L' := M) (by rfl) (up_cons rfl hs5) ?_
      refine l_val (v := .pointer (some ⟨b9, 2, none⟩)) rfl rfl rfl (e_fieldPt (b := b9) (o := 0) rfl tp3) ?_
      refine l_nil ?_
      exact f_owes_d (up_cons rfl hs5) rfl (List.Perm.refl _)
    · rintro f M ⟨k0, -⟩ -
      have hs28 : f 28 = .pointer (some ⟨b9, 2, none⟩) := k0
      refine ob_start (L' := M) (by rfl) (up_cons rfl hs28) ?_
      refine l_val (v := .pointer (some ⟨b9, 2, none⟩)) rfl rfl rfl (e_fieldPt (b := b9) (o := 2) rfl tp1) ?_
      refine l_nil ?_
      exact f_owes_d (up_cons rfl hs28) rfl (List.Perm.refl _)
    · rintro f M ⟨k0, -⟩ -
      have hs29 : f 29 = .pointer (some ⟨b9, 2, none⟩) := k0
      refine ob_start (L' := pt b9 (.cells (aC x3) 43) :: M) (by rfl) (up_cons rfl hs29) ?_
      refine l_val (v := Ix (x3.hx)) rfl rfl rfl (e_load1 tp2 (v := Ix (x3.hx)) rfl (k_pt 0 (cs := (aC x3)) (vs := [Ix (x3.hx)]) rfl rfl)) ?_
      refine l_nil ?_
      exact f_owes_d (up_cons rfl hs29) rfl (perm_front 0 rfl)
    · rintro f M - ⟨i0, -⟩
      have hs5 : f 5 = .pointer (some ⟨b9, 0, none⟩) := i0
      refine ob_start (L' := M) (by rfl) (up_cons rfl hs5) ?_
      refine l_val (v := .pointer (some ⟨b9, 0, none⟩)) rfl rfl rfl (e_fieldPt (b := b9) (o := 0) rfl tp0) ?_
      refine l_nil ?_
      exact f_owes_d (up_cons rfl hs5) rfl (List.Perm.refl _)
    · rintro f M ⟨k0, -⟩ -
      have hs31 : f 31 = .pointer (some ⟨b9, 0, none⟩) := k0
      refine ob_start (L' := M) (by rfl) (up_cons rfl hs31) ?_
      refine l_val (v := .pointer (some ⟨b9, 0, none⟩)) rfl rfl rfl (e_fieldPt (b := b9) (o := 0) rfl tp1) ?_
      refine l_nil ?_
      exact f_owes_d (up_cons rfl hs31) rfl (List.Perm.refl _)
    · rintro f M ⟨k0, -⟩ -
      have hs32 : f 32 = .pointer (some ⟨b9, 0, none⟩) := k0
      refine ob_start (L' := pt b9 (.cells (aC x3) 43) :: M) (by rfl) (up_cons rfl hs32) ?_
      refine l_val (v := Ix (x3.lx)) rfl rfl rfl (e_load1 tp2 (v := Ix (x3.lx)) rfl (k_pt 0 (cs := (aC x3)) (vs := [Ix (x3.lx)]) rfl rfl)) ?_
      refine l_nil ?_
      exact f_owes_d (up_cons rfl hs32) rfl (perm_front 0 rfl)
    · rintro f M ⟨k0, k1, -⟩ -
      have hs30 : f 30 = Ix (x3.hx) := k0
      have hs33 : f 33 = Ix (x3.lx) := k1
      refine ob_start (L' := M) (by rfl) (up_cons (up_cons rfl hs30) hs33) ?_
      refine l_val (v := Ix ((x3.hx) - (x3.lx))) rfl rfl rfl (e_sub (a := (x3.hx)) (b := (x3.lx)) rfl rfl (i64w (by omega))) ?_
      refine l_nil ?_
      exact f_owes_d (up_cons (up_cons rfl hs30) hs33) rfl (List.Perm.refl _)
    · rintro f M ⟨k0, -⟩ -
      have hs34 : f 34 = Ix ((x3.hx) - (x3.lx)) := k0
      refine ob_start (L' := M) (by rfl) (up_cons rfl hs34) ?_
      refine l_val (v := Ix (((x3.hx) - (x3.lx)) + (2 : Int))) rfl rfl rfl (e_add (a := ((x3.hx) - (x3.lx))) (b := (2 : Int)) rfl rfl (i64w (by omega))) ?_
      refine l_nil ?_
      exact f_owes_d (up_cons rfl hs34) rfl (List.Perm.refl _)
    · rintro f M ⟨k0, k1, -⟩ -
      have hs27 : f 27 = Nx ((n / 256) % 16) := k0
      have hs35 : f 35 = Ix (((x3.hx) - (x3.lx)) + (2 : Int)) := k1
      refine ob_start (L' := M) (by rfl) (up_cons (up_cons rfl hs27) hs35) ?_
      refine l_val (v := Ix (z10)) rfl rfl rfl (e_rem (a := (((n / 256) % 16 : Nat) : Int)) (b := (((x3.hx) - (x3.lx)) + (2 : Int))) rfl rfl (by omega) hz11.symm) ?_
      refine l_nil ?_
      exact f_owes_d (up_cons (up_cons rfl hs27) hs35) rfl (List.Perm.refl _)
    · rintro f M ⟨k0, k1, -⟩ -
      have hs23 : f 23 = Ix (x3.lx) := k0
      have hs36 : f 36 = Ix (z10) := k1
      refine ob_start (L' := M) (by rfl) (up_cons (up_cons rfl hs23) hs36) ?_
      refine l_val (v := Ix ((x3.lx) + (z10))) rfl rfl rfl (e_add (a := (x3.lx)) (b := (z10)) rfl rfl (i64w (by omega))) ?_
      refine l_nil ?_
      exact f_owes_d (up_cons (up_cons rfl hs23) hs36) rfl (List.Perm.refl _)
    · rintro f M - ⟨i0, -⟩
      have hs5 : f 5 = .pointer (some ⟨b9, 0, none⟩) := i0
      refine ob_start (L' := M) (by rfl) (up_cons rfl hs5) ?_
      refine l_val (v := .pointer (some ⟨b9, 0, none⟩)) rfl rfl rfl (e_fieldPt (b := b9) (o := 0) rfl tp0) ?_
      refine l_nil ?_
      exact f_owes_d (up_cons rfl hs5) rfl (List.Perm.refl _)
    · rintro f M ⟨k0, -⟩ -
      have hs38 : f 38 = .pointer (some ⟨b9, 0, none⟩) := k0
      refine ob_start (L' := M) (by rfl) (up_cons rfl hs38) ?_
      refine l_val (v := .pointer (some ⟨b9, 1, none⟩)) rfl rfl rfl (e_fieldPt (b := b9) (o := 0) rfl tp4) ?_
      refine l_nil ?_
      exact f_owes_d (up_cons rfl hs38) rfl (List.Perm.refl _)
    · rintro f M ⟨k0, -⟩ -
      have hs39 : f 39 = .pointer (some ⟨b9, 1, none⟩) := k0
      refine ob_start (L' := pt b9 (.cells (aC x3) 43) :: M) (by rfl) (up_cons rfl hs39) ?_
      refine l_val (v := Ix (x3.ly)) rfl rfl rfl (e_load1 tp2 (v := Ix (x3.ly)) rfl (k_pt 0 (cs := (aC x3)) (vs := [Ix (x3.ly)]) rfl rfl)) ?_
      refine l_nil ?_
      exact f_owes_d (up_cons rfl hs39) rfl (perm_front 0 rfl)
    · rintro f M - ⟨i0, -⟩
      have hs1 : f 1 = .int .u32 (((n : Nat)) : Int) := i0
      refine ob_start (L' := M) (by rfl) (up_cons rfl hs1) ?_
      refine l_val (v := .int .u32 (((n : Nat)) : Int)) rfl rfl rfl (e_move) ?_
      refine l_nil ?_
      exact f_owes_d (up_cons rfl hs1) rfl (List.Perm.refl _)
    · rintro f M ⟨k0, -⟩ -
      have hs41 : f 41 = .int .u32 (((n : Nat)) : Int) := k0
      refine ob_start (L' := M) (by rfl) (up_cons rfl hs41) ?_
      refine l_val (v := .int .u32 (((n / 65536 : Nat)) : Int)) rfl rfl rfl (e_shr (a := ((n : Nat) : Int)) (b := (16 : Int)) rfl rfl (by decide) (u32_shr16 _)) ?_
      refine l_nil ?_
      exact f_owes_d (up_cons rfl hs41) rfl (List.Perm.refl _)
    · rintro f M ⟨k0, -⟩ -
      have hs42 : f 42 = .int .u32 (((n / 65536 : Nat)) : Int) := k0
      refine ob_start (L' := M) (by rfl) (up_cons rfl hs42) ?_
      refine l_val (v := .int .u32 ((((n / 65536) % 64 : Nat)) : Int)) rfl rfl rfl (e_rem (a := ((n / 65536 : Nat) : Int)) (b := ((64 : Nat) : Int)) rfl rfl (by decide) (nat_tmod _ 64)) ?_
      refine l_nil ?_
      exact f_owes_d (up_cons rfl hs42) rfl (List.Perm.refl _)
    · rintro f M ⟨k0, -⟩ -
      have hs43 : f 43 = .int .u32 ((((n / 65536) % 64 : Nat)) : Int) := k0
      refine ob_start (L' := M) (by rfl) (up_cons rfl hs43) ?_
      refine l_val (v := Nx ((n / 65536) % 64)) rfl rfl rfl (e_conv (a := (((n / 65536) % 64 : Nat) : Int)) rfl ⟨_, sa120⟩ tu40 (i64n rfl (by omega))) ?_
      refine l_nil ?_
      exact f_owes_d (up_cons rfl hs43) rfl (List.Perm.refl _)
    · rintro f M - ⟨i0, -⟩
      have hs5 : f 5 = .pointer (some ⟨b9, 0, none⟩) := i0
      refine ob_start (L' := M) (by rfl) (up_cons rfl hs5) ?_
      refine l_val (v := .pointer (some ⟨b9, 2, none⟩)) rfl rfl rfl (e_fieldPt (b := b9) (o := 0) rfl tp3) ?_
      refine l_nil ?_
      exact f_owes_d (up_cons rfl hs5) rfl (List.Perm.refl _)
    · rintro f M ⟨k0, -⟩ -
      have hs45 : f 45 = .pointer (some ⟨b9, 2, none⟩) := k0
      refine ob_start (L' := M) (by rfl) (up_cons rfl hs45) ?_
      refine l_val (v := .pointer (some ⟨b9, 3, none⟩)) rfl rfl rfl (e_fieldPt (b := b9) (o := 2) rfl tp4) ?_
      refine l_nil ?_
      exact f_owes_d (up_cons rfl hs45) rfl (List.Perm.refl _)
    · rintro f M ⟨k0, -⟩ -
      have hs46 : f 46 = .pointer (some ⟨b9, 3, none⟩) := k0
      refine ob_start (L' := pt b9 (.cells (aC x3) 43) :: M) (by rfl) (up_cons rfl hs46) ?_
      refine l_val (v := Ix (x3.hy)) rfl rfl rfl (e_load1 tp2 (v := Ix (x3.hy)) rfl (k_pt 0 (cs := (aC x3)) (vs := [Ix (x3.hy)]) rfl rfl)) ?_
      refine l_nil ?_
      exact f_owes_d (up_cons rfl hs46) rfl (perm_front 0 rfl)
    · rintro f M - ⟨i0, -⟩
      have hs5 : f 5 = .pointer (some ⟨b9, 0, none⟩) := i0
      refine ob_start (L' := M) (by rfl) (up_cons rfl hs5) ?_
      refine l_val (v := .pointer (some ⟨b9, 0, none⟩)) rfl rfl rfl (e_fieldPt (b := b9) (o := 0) rfl tp0) ?_
      refine l_nil ?_
      exact f_owes_d (up_cons rfl hs5) rfl (List.Perm.refl _)
    · rintro f M ⟨k0, -⟩ -
      have hs48 : f 48 = .pointer (some ⟨b9, 0, none⟩) := k0
      refine ob_start (L' := M) (by rfl) (up_cons rfl hs48) ?_
      refine l_val (v := .pointer (some ⟨b9, 1, none⟩)) rfl rfl rfl (e_fieldPt (b := b9) (o := 0) rfl tp4) ?_
      refine l_nil ?_
      exact f_owes_d (up_cons rfl hs48) rfl (List.Perm.refl _)
    · rintro f M ⟨k0, -⟩ -
      have hs49 : f 49 = .pointer (some ⟨b9, 1, none⟩) := k0
      refine ob_start (L' := pt b9 (.cells (aC x3) 43) :: M) (by rfl) (up_cons rfl hs49) ?_
      refine l_val (v := Ix (x3.ly)) rfl rfl rfl (e_load1 tp2 (v := Ix (x3.ly)) rfl (k_pt 0 (cs := (aC x3)) (vs := [Ix (x3.ly)]) rfl rfl)) ?_
      refine l_nil ?_
      exact f_owes_d (up_cons rfl hs49) rfl (perm_front 0 rfl)
    · rintro f M ⟨k0, k1, -⟩ -
      have hs47 : f 47 = Ix (x3.hy) := k0
      have hs50 : f 50 = Ix (x3.ly) := k1
      refine ob_start (L' := M) (by rfl) (up_cons (up_cons rfl hs47) hs50) ?_
      refine l_val (v := Ix ((x3.hy) - (x3.ly))) rfl rfl rfl (e_sub (a := (x3.hy)) (b := (x3.ly)) rfl rfl (i64w (by omega))) ?_
      refine l_nil ?_
      exact f_owes_d (up_cons (up_cons rfl hs47) hs50) rfl (List.Perm.refl _)
    · rintro f M ⟨k0, -⟩ -
      have hs51 : f 51 = Ix ((x3.hy) - (x3.ly)) := k0
      refine ob_start (L' := M) (by rfl) (up_cons rfl hs51) ?_
      refine l_val (v := Ix (((x3.hy) - (x3.ly)) + (1 : Int))) rfl rfl rfl (e_add (a := ((x3.hy) - (x3.ly))) (b := (1 : Int)) rfl rfl (i64w (by omega))) ?_
      refine l_nil ?_
      exact f_owes_d (up_cons rfl hs51) rfl (List.Perm.refl _)
    · rintro f M ⟨k0, k1, -⟩ -
      have hs44 : f 44 = Nx ((n / 65536) % 64) := k0
      have hs52 : f 52 = Ix (((x3.hy) - (x3.ly)) + (1 : Int)) := k1
      refine ob_start (L' := M) (by rfl) (up_cons (up_cons rfl hs44) hs52) ?_
      refine l_val (v := Ix (z12)) rfl rfl rfl (e_rem (a := (((n / 65536) % 64 : Nat) : Int)) (b := (((x3.hy) - (x3.ly)) + (1 : Int))) rfl rfl (by omega) hz13.symm) ?_
      refine l_nil ?_
      exact f_owes_d (up_cons (up_cons rfl hs44) hs52) rfl (List.Perm.refl _)
    · rintro f M ⟨k0, k1, -⟩ -
      have hs40 : f 40 = Ix (x3.ly) := k0
      have hs53 : f 53 = Ix (z12) := k1
      refine ob_start (L' := M) (by rfl) (up_cons (up_cons rfl hs40) hs53) ?_
      refine l_val (v := Ix ((x3.ly) + (z12))) rfl rfl rfl (e_add (a := (x3.ly)) (b := (z12)) rfl rfl (i64w (by omega))) ?_
      refine l_nil ?_
      exact f_owes_d (up_cons (up_cons rfl hs40) hs53) rfl (List.Perm.refl _)
    · rintro f M ⟨k0, k1, -⟩ -
      have hs37 : f 37 = Ix ((x3.lx) + (z10)) := k0
      have hs54 : f 54 = Ix ((x3.ly) + (z12)) := k1
      refine ob_start (L' := M) (by rfl) (up_cons (up_cons rfl hs37) hs54) ?_
      refine l_call rfl rfl rfl (cl_value (fst := []) (cap := []) (vs := [Ix ((x3.lx) + (z10)), Ix ((x3.ly) + (z12))]) (all := [Ix ((x3.lx) + (z10)), Ix ((x3.ly) + (z12))]) ty102 rfl rfl rfl) ?_
      intro w hw
      obtain ⟨β1, sb, kn, hw1, back⟩ := St.frame_all hw
      refine (point_ok β1 w hw1 ((x3.lx) + (z10)) ((x3.ly) + (z12))).mono ?_
      rintro e w' ⟨rfl, hw'⟩
      refine ⟨_, rfl, _, back _ _ hw', ?_⟩
      clear hw hw1 hw' back kn sb
      refine l_nil ?_
      exact f_owes_d (up_cons (up_cons rfl hs37) hs54) rfl (List.Perm.refl _)
    · rintro f M ⟨k0, -⟩ ⟨i0, -⟩
      have hs4 : f 4 = .pointer (some ⟨b1, 0, none⟩) := i0
      have hs55 : f 55 = .agg #[Ix ((x3.lx) + (z10)), Ix ((x3.ly) + (z12))] := k0
      refine ob_start (L' := pt b1 (.cells #[.int .i64 (0), .int .i64 (0)] 28) :: M) (by rfl) (up_cons (up_cons rfl hs4) hs55) ?_
      refine l_mu rfl rfl (m_store 0 tp7 (b := b1) (o := 0) (T := 28) (cs := #[.int .i64 (0), .int .i64 (0)]) (cs' := #[Ix ((x3.lx) + (z10)), Ix ((x3.ly) + (z12))]) (v := .agg #[Ix ((x3.lx) + (z10)), Ix ((x3.ly) + (z12))]) rfl rfl rfl rfl rfl rfl rfl) ?_
      refine l_nil ?_
      exact f_owes_n (up_cons (up_cons rfl hs4) hs55) trivial (perm_front 0 rfl)
    rintro fa14 ⟨-, -, -, -, -, -, -, -, -, -, -, -, -, -, -, -, -, -, -, -, -, -, -, -, -, -, -, -, -, -, -, -, -, -, -, -, -⟩ ⟨j0, -⟩
    refine f_re (L' := [pt b9 (.cells (aC x3) 43), pt b1 (.cells #[Ix ((x3.lx) + (z10)), Ix ((x3.ly) + (z12))] 28)]) (by rfl) ?_
    refine f_rebase (d := 4) (v := .pointer (some ⟨b1, 0, none⟩)) j0 ?_
    refine f_then ?_
    refine c_ret ?_
    refine retG (l := [.cell 4 28]) (m := [.agg #[Ix ((x3.lx) + (z10)), Ix ((x3.ly) + (z12))]]) (v := .agg #[Ix ((x3.lx) + (z10)), Ix ((x3.ly) + (z12))]) Try.results9 ⟨rd_cell tp7 (cs := [Ix ((x3.lx) + (z10)), Ix ((x3.ly) + (z12))]) rfl (k_pt 1 (cs := #[Ix ((x3.lx) + (z10)), Ix ((x3.ly) + (z12))]) (vs := [Ix ((x3.lx) + (z10)), Ix ((x3.ly) + (z12))]) rfl rfl) rfl, trivial⟩ rfl ?_
    intro w hw
    exact ⟨⟨((x3.lx) + (z10) : Int), ((x3.ly) + (z12) : Int)⟩, rfl, (show 0 ≤ ((x3.lx) + (z10) : Int) ∧ ((x3.lx) + (z10) : Int) ≤ 1000 ∧ 0 ≤ ((x3.ly) + (z12) : Int) ∧ ((x3.ly) + (z12) : Int) ≤ 1000 from by omega), st_mask [false, false] rfl hw⟩
end Go.Proofs
