/-
  Forms, lists, filled spaces, differences of lists: walked. Printed by a program of my own.
-/
import Derived.Test.YtmgpmgckbcjalaaBr8
import Derived.Test.YtmgpmgckbcjalaaBrLaw
namespace Go.Brd
end Go.Brd
namespace Go.Proofs
open Go Go.Sl Go.Brd
theorem tf86 : fldB Try.prog 43 0 0 1 false = true := by kernel_rfl
theorem tf87 : tyB Try.prog 5 false 1 = true := by kernel_rfl
theorem tf88 : Try.prog.underlying 5 = some (.int .u8) := by kernel_rfl
theorem tf89 : Try.prog.underlying 3 = some (.int .i64) := by kernel_rfl
theorem tf90 : fldB Try.prog 43 1 1 1 false = true := by kernel_rfl
theorem tf91 : fldB Try.prog 43 2 2 1 false = true := by kernel_rfl
theorem tf92 : fldB Try.prog 43 3 3 1 false = true := by kernel_rfl
theorem tf93 : Try.prog.underlying 28 = some (.slice 43) := by kernel_rfl
theorem tf94 : slB Try.prog 28 43 4 = true := by kernel_rfl
theorem tf95 : tyB Try.prog 43 true 4 = true := by kernel_rfl
theorem tf96 : cfB Try.prog 17 = true := by kernel_rfl
theorem made_ok (β : Base) (w : World) (hw : St β [] w) (f : KF) : Calls Try.prog 17 #[.agg #[Bx (f.x), Bx (f.y), Bx (f.w), Bx (f.h)]] w fun r w' => r = .returned (.agg (aC (madeA f))) ∧ St β [] w' := by
  have hfw := u8_lt f.w
  have hfh := u8_lt f.h
  refine enter (n := 32) Try.func17 rfl Try.ntmps17 rfl ?_ hw
  refine c_seq ?_
  refine c_region ?_
  refine l_mv rfl rfl rfl (m_box (v := .agg #[Bx (f.x), Bx (f.y), Bx (f.w), Bx (f.h)]) rfl) ?_
  rintro _ _ ⟨b1, rfl, rfl⟩
  refine l_mv rfl rfl rfl (m_alloc tf6) ?_
  rintro _ _ ⟨b2, rfl, rfl⟩
  refine l_nil ?_
  refine f_then ?_
  refine c_seq ?_
  refine c_region ?_
  refine l_val (v := .pointer (some ⟨b1, 0, none⟩)) rfl rfl rfl (e_fieldPt (b := b1) (o := 0) rfl tf86) ?_
  refine l_val (v := Bx (f.x)) rfl rfl rfl (e_load1 tf87 (v := Bx (f.x)) rfl (k_pt 1 (cs := #[Bx (f.x), Bx (f.y), Bx (f.w), Bx (f.h)]) (vs := [Bx (f.x)]) rfl rfl)) ?_
  refine l_val (v := Nx (f.x.toNat)) rfl rfl rfl (e_conv (a := ((f.x).toNat : Int)) rfl ⟨_, tf88⟩ tf89 (i64n rfl (by have := (f.x).toNat_lt; omega))) ?_
  refine l_val (v := Nx (f.x.toNat % 128)) rfl rfl rfl (e_rem (a := ((f.x.toNat : Nat) : Int)) (b := (128 : Int)) rfl rfl (by decide) (nat_tmod _ 128)) ?_
  refine l_val (v := Ix (((f.x.toNat % 128 : Nat) : Int) - (64 : Int))) rfl rfl rfl (e_sub (a := ((f.x.toNat % 128 : Nat) : Int)) (b := (64 : Int)) rfl rfl (i64w (by omega))) ?_
  refine l_val (v := .pointer (some ⟨b1, 1, none⟩)) rfl rfl rfl (e_fieldPt (b := b1) (o := 0) rfl tf90) ?_
  refine l_val (v := Bx (f.y)) rfl rfl rfl (e_load1 tf87 (v := Bx (f.y)) rfl (k_pt 1 (cs := #[Bx (f.x), Bx (f.y), Bx (f.w), Bx (f.h)]) (vs := [Bx (f.y)]) rfl rfl)) ?_
  refine l_val (v := Nx (f.y.toNat)) rfl rfl rfl (e_conv (a := ((f.y).toNat : Int)) rfl ⟨_, tf88⟩ tf89 (i64n rfl (by have := (f.y).toNat_lt; omega))) ?_
  refine l_val (v := Nx (f.y.toNat % 128)) rfl rfl rfl (e_rem (a := ((f.y.toNat : Nat) : Int)) (b := (128 : Int)) rfl rfl (by decide) (nat_tmod _ 128)) ?_
  refine l_val (v := Ix (((f.y.toNat % 128 : Nat) : Int) - (64 : Int))) rfl rfl rfl (e_sub (a := ((f.y.toNat % 128 : Nat) : Int)) (b := (64 : Int)) rfl rfl (i64w (by omega))) ?_
  refine l_val (v := .pointer (some ⟨b1, 0, none⟩)) rfl rfl rfl (e_fieldPt (b := b1) (o := 0) rfl tf86) ?_
  refine l_val (v := Bx (f.x)) rfl rfl rfl (e_load1 tf87 (v := Bx (f.x)) rfl (k_pt 1 (cs := #[Bx (f.x), Bx (f.y), Bx (f.w), Bx (f.h)]) (vs := [Bx (f.x)]) rfl rfl)) ?_
  refine l_val (v := Nx (f.x.toNat)) rfl rfl rfl (e_conv (a := ((f.x).toNat : Int)) rfl ⟨_, tf88⟩ tf89 (i64n rfl (by have := (f.x).toNat_lt; omega))) ?_
  refine l_val (v := Nx (f.x.toNat % 128)) rfl rfl rfl (e_rem (a := ((f.x.toNat : Nat) : Int)) (b := (128 : Int)) rfl rfl (by decide) (nat_tmod _ 128)) ?_
  refine l_val (v := Ix (((f.x.toNat % 128 : Nat) : Int) - (64 : Int))) rfl rfl rfl (e_sub (a := ((f.x.toNat % 128 : Nat) : Int)) (b := (64 : Int)) rfl rfl (i64w (by omega))) ?_
  refine l_val (v := .pointer (some ⟨b1, 2, none⟩)) rfl rfl rfl (e_fieldPt (b := b1) (o := 0) rfl tf91) ?_
  refine l_val (v := Bx (f.w)) rfl rfl rfl (e_load1 tf87 (v := Bx (f.w)) rfl (k_pt 1 (cs := #[Bx (f.x), Bx (f.y), Bx (f.w), Bx (f.h)]) (vs := [Bx (f.w)]) rfl rfl)) ?_
  refine l_val (v := Nx (f.w.toNat)) rfl rfl rfl (e_conv (a := ((f.w).toNat : Int)) rfl ⟨_, tf88⟩ tf89 (i64n rfl (by have := (f.w).toNat_lt; omega))) ?_
  refine l_val (v := Ix ((((f.x.toNat % 128 : Nat) : Int) - (64 : Int)) + ((f.w.toNat : Nat) : Int))) rfl rfl rfl (e_add (a := (((f.x.toNat % 128 : Nat) : Int) - (64 : Int))) (b := ((f.w.toNat : Nat) : Int)) rfl rfl (i64w (by omega))) ?_
  refine l_val (v := .pointer (some ⟨b1, 1, none⟩)) rfl rfl rfl (e_fieldPt (b := b1) (o := 0) rfl tf90) ?_
  refine l_val (v := Bx (f.y)) rfl rfl rfl (e_load1 tf87 (v := Bx (f.y)) rfl (k_pt 1 (cs := #[Bx (f.x), Bx (f.y), Bx (f.w), Bx (f.h)]) (vs := [Bx (f.y)]) rfl rfl)) ?_
  refine l_val (v := Nx (f.y.toNat)) rfl rfl rfl (e_conv (a := ((f.y).toNat : Int)) rfl ⟨_, tf88⟩ tf89 (i64n rfl (by have := (f.y).toNat_lt; omega))) ?_
  refine l_val (v := Nx (f.y.toNat % 128)) rfl rfl rfl (e_rem (a := ((f.y.toNat : Nat) : Int)) (b := (128 : Int)) rfl rfl (by decide) (nat_tmod _ 128)) ?_
  refine l_val (v := Ix (((f.y.toNat % 128 : Nat) : Int) - (64 : Int))) rfl rfl rfl (e_sub (a := ((f.y.toNat % 128 : Nat) : Int)) (b := (64 : Int)) rfl rfl (i64w (by omega))) ?_
  refine l_val (v := .pointer (some ⟨b1, 3, none⟩)) rfl rfl rfl (e_fieldPt (b := b1) (o := 0) rfl tf92) ?_
  refine l_val (v := Bx (f.h)) rfl rfl rfl (e_load1 tf87 (v := Bx (f.h)) rfl (k_pt 1 (cs := #[Bx (f.x), Bx (f.y), Bx (f.w), Bx (f.h)]) (vs := [Bx (f.h)]) rfl rfl)) ?_
  refine l_val (v := Nx (f.h.toNat)) rfl rfl rfl (e_conv (a := ((f.h).toNat : Int)) rfl ⟨_, tf88⟩ tf89 (i64n rfl (by have := (f.h).toNat_lt; omega))) ?_
  refine l_val (v := Ix ((((f.y.toNat % 128 : Nat) : Int) - (64 : Int)) + ((f.h.toNat : Nat) : Int))) rfl rfl rfl (e_add (a := (((f.y.toNat % 128 : Nat) : Int) - (64 : Int))) (b := ((f.h.toNat : Nat) : Int)) rfl rfl (i64w (by omega))) ?_
  refine l_call rfl rfl rfl (cl_value (fst := []) (cap := []) (vs := [Ix (((f.x.toNat % 128 : Nat) : Int) - (64 : Int)), Ix (((f.y.toNat % 128 : Nat) : Int) - (64 : Int)), Ix ((((f.x.toNat % 128 : Nat) : Int) - (64 : Int)) + ((f.w.toNat : Nat) : Int)), Ix ((((f.y.toNat % 128 : Nat) : Int) - (64 : Int)) + ((f.h.toNat : Nat) : Int))]) (all := [Ix (((f.x.toNat % 128 : Nat) : Int) - (64 : Int)), Ix (((f.y.toNat % 128 : Nat) : Int) - (64 : Int)), Ix ((((f.x.toNat % 128 : Nat) : Int) - (64 : Int)) + ((f.w.toNat : Nat) : Int)), Ix ((((f.y.toNat % 128 : Nat) : Int) - (64 : Int)) + ((f.h.toNat : Nat) : Int))]) tf71 rfl rfl rfl) ?_
  intro w hw
  obtain ⟨β1, sb, kn, hw1, back⟩ := St.frame_all hw
  refine (area_ok β1 w hw1 (((f.x.toNat % 128 : Nat) : Int) - (64 : Int)) (((f.y.toNat % 128 : Nat) : Int) - (64 : Int)) ((((f.x.toNat % 128 : Nat) : Int) - (64 : Int)) + ((f.w.toNat : Nat) : Int)) ((((f.y.toNat % 128 : Nat) : Int) - (64 : Int)) + ((f.h.toNat : Nat) : Int))).mono ?_
  rintro e w' ⟨rfl, hw'⟩
  refine ⟨_, rfl, _, back _ _ hw', ?_⟩
  clear hw hw1 hw' back kn sb
  refine l_mu rfl rfl (m_store 0 tf10 (b := b2) (o := 0) (T := 25) (cs := #[.int .i64 (0), .int .i64 (0), .int .i64 (0), .int .i64 (0)]) (cs' := #[Ix (((f.x.toNat % 128 : Nat) : Int) - (64 : Int)), Ix (((f.y.toNat % 128 : Nat) : Int) - (64 : Int)), Ix ((((f.x.toNat % 128 : Nat) : Int) - (64 : Int)) + ((f.w.toNat : Nat) : Int)), Ix ((((f.y.toNat % 128 : Nat) : Int) - (64 : Int)) + ((f.h.toNat : Nat) : Int))]) (v := .agg #[Ix (((f.x.toNat % 128 : Nat) : Int) - (64 : Int)), Ix (((f.y.toNat % 128 : Nat) : Int) - (64 : Int)), Ix ((((f.x.toNat % 128 : Nat) : Int) - (64 : Int)) + ((f.w.toNat : Nat) : Int)), Ix ((((f.y.toNat % 128 : Nat) : Int) - (64 : Int)) + ((f.h.toNat : Nat) : Int))]) rfl rfl rfl rfl rfl rfl rfl) ?_
  refine l_nil ?_
  refine f_then ?_
  refine c_ret ?_
  refine retG (l := [.cell 2 25]) (m := [.agg #[Ix (((f.x.toNat % 128 : Nat) : Int) - (64 : Int)), Ix (((f.y.toNat % 128 : Nat) : Int) - (64 : Int)), Ix ((((f.x.toNat % 128 : Nat) : Int) - (64 : Int)) + ((f.w.toNat : Nat) : Int)), Ix ((((f.y.toNat % 128 : Nat) : Int) - (64 : Int)) + ((f.h.toNat : Nat) : Int))]]) (v := .agg #[Ix (((f.x.toNat % 128 : Nat) : Int) - (64 : Int)), Ix (((f.y.toNat % 128 : Nat) : Int) - (64 : Int)), Ix ((((f.x.toNat % 128 : Nat) : Int) - (64 : Int)) + ((f.w.toNat : Nat) : Int)), Ix ((((f.y.toNat % 128 : Nat) : Int) - (64 : Int)) + ((f.h.toNat : Nat) : Int))]) Try.results17 ⟨rd_cell tf10 (cs := [Ix (((f.x.toNat % 128 : Nat) : Int) - (64 : Int)), Ix (((f.y.toNat % 128 : Nat) : Int) - (64 : Int)), Ix ((((f.x.toNat % 128 : Nat) : Int) - (64 : Int)) + ((f.w.toNat : Nat) : Int)), Ix ((((f.y.toNat % 128 : Nat) : Int) - (64 : Int)) + ((f.h.toNat : Nat) : Int))]) rfl (k_pt 0 (cs := #[Ix (((f.x.toNat % 128 : Nat) : Int) - (64 : Int)), Ix (((f.y.toNat % 128 : Nat) : Int) - (64 : Int)), Ix ((((f.x.toNat % 128 : Nat) : Int) - (64 : Int)) + ((f.w.toNat : Nat) : Int)), Ix ((((f.y.toNat % 128 : Nat) : Int) - (64 : Int)) + ((f.h.toNat : Nat) : Int))]) (vs := [Ix (((f.x.toNat % 128 : Nat) : Int) - (64 : Int)), Ix (((f.y.toNat % 128 : Nat) : Int) - (64 : Int)), Ix ((((f.x.toNat % 128 : Nat) : Int) - (64 : Int)) + ((f.w.toNat : Nat) : Int)), Ix ((((f.y.toNat % 128 : Nat) : Int) - (64 : Int)) + ((f.h.toNat : Nat) : Int))]) rfl rfl) rfl, trivial⟩ rfl ?_
  intro w hw
  exact ⟨rfl, st_mask [false, false] rfl hw⟩
set_option maxHeartbeats 4000000 in
theorem without_ok (β : Base) (w : World) (hw : St β [] w) (v u : Value) (l m : List KP) (hs : Sl PairF.R β.heap v l) (ht : Sl PairF.R β.heap u m) (hl : l.length ≤ 1048576) : Calls Try.prog 28 #[v, u] w fun r w' => ∃ p c, r = .returned (.tuple #[.slice p (beganL m l).length c, Ix (inL l m)]) ∧ St β [rowF PairF 40 p c (beganL m l)] w' := by
  obtain ⟨va, vc, rfl, vl, vm, ve⟩ := hs.get
  obtain ⟨ua, uc, rfl, ul, um, ue⟩ := ht.get
  refine enter (n := 42) Try.func28 rfl Try.ntmps28 rfl ?_ hw
  refine c_seq ?_
  refine c_region ?_
  refine l_val (v := .slice none 0 0) rfl rfl rfl (e_assign) ?_
  refine l_val (v := .int .i64 (0)) rfl rfl rfl (e_assign) ?_
  refine l_nil ?_
  refine f_then ?_
  refine c_seq ?_
  refine c_region ?_
  refine l_val (v := .slice none 0 0) rfl rfl rfl (e_assign) ?_
  refine l_nil ?_
  refine f_then ?_
  refine c_seq ?_
  refine c_region ?_
  refine l_val (v := .int .i64 (0)) rfl rfl rfl (e_assign) ?_
  refine l_nil ?_
  refine f_then ?_
  refine c_seq ?_
  refine c_seq ?_
  refine c_emp (r := rowF PairF 40 none 0 []) (row_nil _ _ _) ?_
  refine c_region ?_
  refine l_val (v := .slice va (l.length) (vc)) rfl rfl rfl (e_move) ?_
  refine l_val (v := Nx (l.length)) rfl rfl rfl (e_len (a := va) (n := l.length) (c := vc) rfl tf65) ?_
  refine l_val (v := .int .i64 (0)) rfl rfl rfl (e_move) ?_
  refine l_nil ?_
  refine f_then ?_
  refine c_block ?_
  refine c_loop (fun (x_ : Nat × List KP × Option Addr × Nat × Int) (f : Fm) (L : List Res) => match x_ with | (k, ys, p, c, n) => (f 1 = .slice ua (m.length) (uc) ∧ f 6 = .slice p (ys.length) c ∧ f 7 = Ix (n) ∧ f 13 = .slice va (l.length) (vc) ∧ f 14 = Nx (l.length) ∧ f 15 = Nx (k)) ∧ L = [rowF PairF 40 p c ys] ∧ (k ≤ l.length ∧ ys = beganL m (l.take k) ∧ n = inL (l.take k) m)) (fun (x_ : Nat × List KP × Option Addr × Nat × Int) => match x_ with | (k, ys, p, c, n) => l.length - k) (0, [], none, 0, 0) ?_ ?_
  · exact ⟨⟨rfl, rfl, rfl, rfl, rfl, rfl⟩, rfl, ⟨by omega, rfl, rfl⟩⟩
  rintro ⟨k, ys, p, c, n⟩ f0 L0 ⟨⟨hs1, hs6, hs7, hs13, hs14, hs15⟩, hL, ⟨hk, hys, hnn⟩⟩
  subst L0
  refine rebase (d := 1) hs1 ?_
  refine rebase (d := 6) hs6 ?_
  refine rebase (d := 7) hs7 ?_
  refine rebase (d := 13) hs13 ?_
  refine rebase (d := 14) hs14 ?_
  refine rebase (d := 15) hs15 ?_
  clear hs1 hs6 hs7 hs13 hs14 hs15
  have hyl : ys.length ≤ k := by rw [hys]; exact Nat.le_trans (beganL_le _ _) (by rw [List.length_take]; omega)
  have hnl := inL_le (l.take k) m
  rw [List.length_take] at hnl
  refine c_seq ?_
  refine c_region ?_
  refine l_val (v := .bool (decide (((k : Nat) : Int) < ((l.length : Nat) : Int)))) rfl rfl rfl (e_lss (a := ((k : Nat) : Int)) (b := ((l.length : Nat) : Int)) rfl rfl) ?_
  refine l_nil ?_
  refine f_then ?_
  refine c_seq ?_
  refine c_if (((k : Nat) : Int) < ((l.length : Nat) : Int)) rfl (fun hc1 => ?_) (fun hc1 => ?_)
  ·
    refine c_skip ?_
    refine f_then ?_
    refine c_seq ?_
    refine c_block ?_
    refine c_seq ?_
    refine c_region ?_
    obtain ⟨x2, hx3⟩ : ∃ x_, (l)[k]? = some x_ := ⟨_, List.getElem?_eq_getElem (by omega)⟩
    obtain ⟨ha4, cs5, hc6, rfl⟩ := ve _ _ hx3
    refine l_val (v := .pointer (some ((ba va).add (k * 2)))) rfl rfl rfl (e_indexAddr (k := k) (len := l.length) (cap := vc) (a := va) rfl rfl tf37 (by omega) ha4) ?_
    refine l_val (v := .agg #[Ix (x2.a), Ix (x2.b)]) rfl rfl rfl (e_load tf35 (cs := [Ix (x2.a), Ix (x2.b)]) rfl (Knows.of_base (Cs.mono _ _) hc6) rfl) ?_
    refine l_mv rfl rfl rfl (m_alloc tf33) ?_
    rintro _ _ ⟨b8, rfl, rfl⟩
    refine l_mu rfl rfl (m_store 0 tf35 (b := b8) (o := 0) (T := 40) (cs := #[.int .i64 (0), .int .i64 (0)]) (cs' := #[Ix (x2.a), Ix (x2.b)]) (v := .agg #[Ix (x2.a), Ix (x2.b)]) rfl rfl rfl rfl rfl rfl rfl) ?_
    refine l_nil ?_
    refine f_then ?_
    refine c_seq ?_
    refine c_region ?_
    refine l_val (v := .bool false) rfl rfl rfl (e_assign) ?_
    refine l_nil ?_
    refine f_then ?_
    refine c_seq ?_
    refine c_seq ?_
    refine c_region ?_
    refine l_val (v := .slice ua (m.length) (uc)) rfl rfl rfl (e_move) ?_
    refine l_val (v := Nx (m.length)) rfl rfl rfl (e_len (a := ua) (n := m.length) (c := uc) rfl tf65) ?_
    refine l_val (v := .int .i64 (0)) rfl rfl rfl (e_move) ?_
    refine l_nil ?_
    refine f_then ?_
    refine c_block ?_
    refine c_loop (fun (x_ : Nat × Bool) (f : Fm) (L : List Res) => match x_ with | (j, s) => (f 1 = .slice ua (m.length) (uc) ∧ f 6 = .slice p (ys.length) c ∧ f 7 = Ix (n) ∧ f 9 = .pointer (some ⟨b8, 0, none⟩) ∧ f 10 = .bool (s) ∧ f 13 = .slice va (l.length) (vc) ∧ f 14 = Nx (l.length) ∧ f 15 = Nx (k) ∧ f 19 = .slice ua (m.length) (uc) ∧ f 20 = Nx (m.length) ∧ f 21 = Nx (j)) ∧ L = [pt b8 (.cells #[Ix (x2.a), Ix (x2.b)] 40), rowF PairF 40 p c ys] ∧ (j ≤ m.length ∧ s = decide (x2 ∈ m.take j))) (fun (x_ : Nat × Bool) => match x_ with | (j, s) => m.length - j) (0, false) ?_ ?_
    · exact ⟨⟨rfl, rfl, rfl, rfl, rfl, rfl, rfl, rfl, rfl, rfl, rfl⟩, rfl, ⟨by omega, by simp⟩⟩
    rintro ⟨j, s⟩ f0 L0 ⟨⟨hs1, hs6, hs7, hs9, hs10, hs13, hs14, hs15, hs19, hs20, hs21⟩, hL, ⟨hj, hs_⟩⟩
    subst L0
    refine rebase (d := 1) hs1 ?_
    refine rebase (d := 6) hs6 ?_
    refine rebase (d := 7) hs7 ?_
    refine rebase (d := 9) hs9 ?_
    refine rebase (d := 10) hs10 ?_
    refine rebase (d := 13) hs13 ?_
    refine rebase (d := 14) hs14 ?_
    refine rebase (d := 15) hs15 ?_
    refine rebase (d := 19) hs19 ?_
    refine rebase (d := 20) hs20 ?_
    refine rebase (d := 21) hs21 ?_
    clear hs1 hs6 hs7 hs9 hs10 hs13 hs14 hs15 hs19 hs20 hs21
    refine c_seq ?_
    refine c_region ?_
    refine l_val (v := .bool (decide (((j : Nat) : Int) < ((m.length : Nat) : Int)))) rfl rfl rfl (e_lss (a := ((j : Nat) : Int)) (b := ((m.length : Nat) : Int)) rfl rfl) ?_
    refine l_nil ?_
    refine f_then ?_
    refine c_seq ?_
    refine c_if (((j : Nat) : Int) < ((m.length : Nat) : Int)) rfl (fun hc9 => ?_) (fun hc9 => ?_)
    ·
      refine c_skip ?_
      refine f_then ?_
      refine c_seq ?_
      refine c_block ?_
      refine c_seq ?_
      refine c_region ?_
      obtain ⟨x10, hx11⟩ : ∃ x_, (m)[j]? = some x_ := ⟨_, List.getElem?_eq_getElem (by omega)⟩
      obtain ⟨ha12, cs13, hc14, rfl⟩ := ue _ _ hx11
      refine l_val (v := .pointer (some ((ba ua).add (j * 2)))) rfl rfl rfl (e_indexAddr (k := j) (len := m.length) (cap := uc) (a := ua) rfl rfl tf37 (by omega) ha12) ?_
      refine l_val (v := .agg #[Ix (x10.a), Ix (x10.b)]) rfl rfl rfl (e_load tf35 (cs := [Ix (x10.a), Ix (x10.b)]) rfl (Knows.of_base (Cs.mono _ _) hc14) rfl) ?_
      refine l_mv rfl rfl rfl (m_alloc tf33) ?_
      rintro _ _ ⟨b16, rfl, rfl⟩
      refine l_mu rfl rfl (m_store 0 tf35 (b := b16) (o := 0) (T := 40) (cs := #[.int .i64 (0), .int .i64 (0)]) (cs' := #[Ix (x10.a), Ix (x10.b)]) (v := .agg #[Ix (x10.a), Ix (x10.b)]) rfl rfl rfl rfl rfl rfl rfl) ?_
      refine l_nil ?_
      refine f_then ?_
      refine c_region ?_
      refine l_val (v := .bool (s)) rfl rfl rfl (e_move) ?_
      refine l_val (v := .bool (s)) rfl rfl rfl (e_move) ?_
      refine l_splitb (s := 26) (b := s) rfl (fun hg17 => ?_) (fun hg17 => ?_)
      ·
        refine l_skip rfl rfl rfl rfl rfl rfl ?_
        refine l_skip rfl rfl rfl rfl rfl rfl ?_
        refine l_skip rfl rfl rfl rfl rfl rfl ?_
        refine l_val (v := .bool true) rfl rfl rfl (e_pick_t rfl) ?_
        refine l_val (v := .bool true) rfl rfl rfl (e_assign) ?_
        refine l_nil ?_
        refine f_block ?_
        refine f_then ?_
        refine c_region ?_
        refine l_val (v := Nx (j + 1)) rfl rfl rfl (e_add (a := ((j : Nat) : Int)) (b := (1 : Int)) rfl rfl (i64n (by omega) (by omega))) ?_
        refine l_val (v := Nx (j + 1)) rfl rfl rfl (e_move) ?_
        refine l_nil ?_
        refine f_mask (L' := [pt b8 (.cells #[Ix (x2.a), Ix (x2.b)] 40), rowF PairF 40 p c ys]) [false, true, true] rfl ?_
        exact f_cut ⟨(j + 1, decide (x2 ∈ m.take (j + 1))), ⟨⟨rfl, rfl, rfl, rfl, (congrArg Value.bool (by rw [← some_next hx11, ← hs_, hg17]; rfl)), rfl, rfl, rfl, rfl, rfl, rfl⟩, rfl, ⟨by omega, rfl⟩⟩, (show m.length - (j + 1) < m.length - j from by omega)⟩
      ·
        refine g_val (v := .agg #[Ix (x2.a), Ix (x2.b)]) rfl rfl rfl rfl rfl (e_load tf35 (cs := [Ix (x2.a), Ix (x2.b)]) rfl (k_pt 1 (cs := #[Ix (x2.a), Ix (x2.b)]) (vs := [Ix (x2.a), Ix (x2.b)]) rfl rfl) rfl) ?_
        refine g_val (v := .agg #[Ix (x10.a), Ix (x10.b)]) rfl rfl rfl rfl rfl (e_load tf35 (cs := [Ix (x10.a), Ix (x10.b)]) rfl (k_pt 0 (cs := #[Ix (x10.a), Ix (x10.b)]) (vs := [Ix (x10.a), Ix (x10.b)]) rfl rfl) rfl) ?_
        refine g_val (v := .bool (decide (x2 = x10))) rfl rfl rfl rfl rfl (e_eql_t (xs := pairE x2) (ys := pairE x10) tf68 tf69 tf70 rfl rfl rfl rfl (pair_eq (x := x2) (y := x10))) ?_
        refine l_val (v := .bool (decide (x2 = x10))) rfl rfl rfl (e_pick_f rfl) ?_
        refine l_val (v := .bool (decide (x2 = x10))) rfl rfl rfl (e_assign) ?_
        refine l_nil ?_
        refine f_block ?_
        refine f_then ?_
        refine c_region ?_
        refine l_val (v := Nx (j + 1)) rfl rfl rfl (e_add (a := ((j : Nat) : Int)) (b := (1 : Int)) rfl rfl (i64n (by omega) (by omega))) ?_
        refine l_val (v := Nx (j + 1)) rfl rfl rfl (e_move) ?_
        refine l_nil ?_
        refine f_mask (L' := [pt b8 (.cells #[Ix (x2.a), Ix (x2.b)] 40), rowF PairF 40 p c ys]) [false, true, true] rfl ?_
        exact f_cut ⟨(j + 1, decide (x2 ∈ m.take (j + 1))), ⟨⟨rfl, rfl, rfl, rfl, (congrArg Value.bool (by rw [← some_next hx11, ← hs_, hg17]; rfl)), rfl, rfl, rfl, rfl, rfl, rfl⟩, rfl, ⟨by omega, rfl⟩⟩, (show m.length - (j + 1) < m.length - j from by omega)⟩
    ·
      refine c_exit ?_
      refine f_then_exit ?_
      refine f_then_exit ?_
      refine f_exit ?_
      refine f_then ?_
      refine c_seq ?_
      rw [List.take_of_length_le (by omega)] at hs_
      refine c_region ?_
      refine l_val (v := .bool (s)) rfl rfl rfl (e_move) ?_
      refine l_nil ?_
      refine f_then ?_
      refine c_ifb (s) rfl (fun hc18 => ?_) (fun hc18 => ?_)
      ·
        refine c_region ?_
        refine l_val (v := Ix (n)) rfl rfl rfl (e_move) ?_
        refine l_val (v := Ix ((n) + (1 : Int))) rfl rfl rfl (e_add (a := (n)) (b := (1 : Int)) rfl rfl (i64w (by omega))) ?_
        refine l_val (v := Ix ((n) + (1 : Int))) rfl rfl rfl (e_assign) ?_
        refine l_nil ?_
        refine f_block ?_
        refine f_then ?_
        refine c_region ?_
        refine l_val (v := Nx (k + 1)) rfl rfl rfl (e_add (a := ((k : Nat) : Int)) (b := (1 : Int)) rfl rfl (i64n (by omega) (by omega))) ?_
        refine l_val (v := Nx (k + 1)) rfl rfl rfl (e_move) ?_
        refine l_nil ?_
        refine f_mask (L' := [rowF PairF 40 p c ys]) [false, true] rfl ?_
        exact f_cut ⟨(k + 1, ys, p, c, n + 1), ⟨⟨rfl, rfl, rfl, rfl, rfl, rfl⟩, rfl, ⟨by omega, by rw [hys]; exact (wo_yes hx3 (by simpa [hs_] using hc18)).1, by rw [hnn]; exact (wo_yes hx3 (by simpa [hs_] using hc18)).2⟩⟩, (show l.length - (k + 1) < l.length - k from by omega)⟩
      ·
        refine c_region ?_
        refine l_val (v := .slice p (ys.length) c) rfl rfl rfl (e_move) ?_
        refine l_val (v := .agg #[Ix (x2.a), Ix (x2.b)]) rfl rfl rfl (e_load tf35 (cs := [Ix (x2.a), Ix (x2.b)]) rfl (k_pt 0 (cs := #[Ix (x2.a), Ix (x2.b)]) (vs := [Ix (x2.a), Ix (x2.b)]) rfl rfl) rfl) ?_
        refine l_mv rfl rfl rfl (m_slices tf37 tf33 (vs := [(0, .agg #[Ix (x2.a), Ix (x2.b)])]) (cells := #[Ix (x2.a), Ix (x2.b)]) rfl rfl rfl rfl) ?_
        rintro _ _ ⟨b19, rfl, rfl⟩
        refine l_mv rfl rfl rfl (m_appendFlN (F := PairF) 2 tf37 tf38 (p := p) (m := ys.length) (xs := ys) (ys := [x2]) (ao := (some ⟨b19, 0, none⟩)) (k := 1) (c := 1) rfl rfl rfl rfl rfl (k_ptFl (z := x2) 0 rfl rfl) (by first | omega | simp only [List.length_nil, List.length_cons, List.length_append, List.length_set]; omega) (by first | omega | simp only [List.length_nil, List.length_cons, List.length_append, List.length_set]; omega)) ?_
        rintro _ _ ⟨rp20, rc21, rfl, rfl⟩
        refine l_val (v := .slice rp20 ((ys ++ [x2]).length) rc21) rfl rfl rfl (e_assign) ?_
        refine l_nil ?_
        refine f_block ?_
        refine f_then ?_
        refine c_region ?_
        refine l_val (v := Nx (k + 1)) rfl rfl rfl (e_add (a := ((k : Nat) : Int)) (b := (1 : Int)) rfl rfl (i64n (by omega) (by omega))) ?_
        refine l_val (v := Nx (k + 1)) rfl rfl rfl (e_move) ?_
        refine l_nil ?_
        refine f_mask (L' := [rowF PairF 40 rp20 rc21 (ys ++ [x2])]) [false, false, true] rfl ?_
        exact f_cut ⟨(k + 1, (ys ++ [x2]), rp20, rc21, n), ⟨⟨rfl, rfl, rfl, rfl, rfl, rfl⟩, rfl, ⟨by omega, by rw [hys]; exact (wo_no hx3 (by simpa [hs_] using hc18)).1, by rw [hnn]; exact (wo_no hx3 (by simpa [hs_] using hc18)).2⟩⟩, (show l.length - (k + 1) < l.length - k from by omega)⟩
  ·
    refine c_exit ?_
    refine f_then_exit ?_
    refine f_then_exit ?_
    refine f_exit ?_
    refine f_then ?_
    refine c_seq ?_
    refine c_region ?_
    refine l_val (v := .slice p (ys.length) c) rfl rfl rfl (e_move) ?_
    refine l_val (v := Ix (n)) rfl rfl rfl (e_move) ?_
    refine l_val (v := .slice p (ys.length) c) rfl rfl rfl (e_assign) ?_
    refine l_val (v := Ix (n)) rfl rfl rfl (e_assign) ?_
    refine l_nil ?_
    refine f_then ?_
    refine c_ret ?_
    refine ret2 (v := .slice p (ys.length) c) (v' := Ix (n)) Try.results28 rfl rfl ?_
    intro w hw
    rw [List.take_of_length_le (by omega)] at hys hnn
    subst hys hnn
    exact ⟨p, c, rfl, st_mask [true] rfl hw⟩
end Go.Proofs
