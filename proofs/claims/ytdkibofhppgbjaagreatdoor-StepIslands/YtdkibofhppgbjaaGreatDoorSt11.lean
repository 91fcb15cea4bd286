/-
 Made, find, far: walked. Printed by a program of my own.
-/
import Derived.Test.YtdkibofhppgbjaaGreatDoorSt9
import Derived.Test.YtdkibofhppgbjaaGreatDoorBrDef
import Derived.Test.YtdkibofhppgbjaaGreatDoorSlC
namespace Go.Proofs
open Go Go.Sl Go.Stp
theorem tf114 : Tryz.prog.underlying 36 = some (.int .i8) := by kernel_rfl
theorem tf115 : Tryz.prog.underlying 34 = some (.slice 155) := by kernel_rfl
theorem tf116 : slB Tryz.prog 34 155 8 = true := by kernel_rfl
theorem tf117 : tyB Tryz.prog 155 true 8 = true := by kernel_rfl
theorem tf118 : (Tryz.prog.info? 155).bind (·.zero) = some (.agg #[.int .i8 (0), .int .i8 (0), .int .i8 (0), .int .i8 (0), .int .u8 (0), .int .u8 (0), .bool false, .bool false]) := by kernel_rfl
theorem tf119 : fldB Tryz.prog 155 0 0 1 false = true := by kernel_rfl
theorem tf120 : tyB Tryz.prog 36 false 1 = true := by kernel_rfl
theorem tf121 : fldB Tryz.prog 155 1 1 1 false = true := by kernel_rfl
theorem tf122 : fldB Tryz.prog 155 2 2 1 false = true := by kernel_rfl
theorem tf123 : fldB Tryz.prog 155 3 3 1 false = true := by kernel_rfl
theorem tf124 : fldB Tryz.prog 155 4 4 1 false = true := by kernel_rfl
theorem tf125 : Tryz.prog.underlying 5 = some (.int .u8) := by kernel_rfl
theorem tf126 : fldB Tryz.prog 155 5 5 1 false = true := by kernel_rfl
theorem tf127 : fldB Tryz.prog 155 6 6 1 false = true := by kernel_rfl
theorem tf128 : fldB Tryz.prog 155 7 7 1 false = true := by kernel_rfl
theorem tf129 : Tryz.prog.underlying 35 = some (.slice 5) := by kernel_rfl
theorem tf130 : slB Tryz.prog 35 5 1 = true := by kernel_rfl
theorem tf131 : cfB Tryz.prog 35 = true := by kernel_rfl
set_option maxHeartbeats 4000000 in
theorem made7_ok (β : Base) (w : World) (hw : St β [] w) (v u : Value) (fs : List KF) (us : List UInt8) (hs : Sl FormR β.heap v fs) (hu : Sl U8R β.heap u us) (gx gy : Int) (hgx8 : -128 ≤ gx ∧ gx ≤ 127) (hgy8 : -128 ≤ gy ∧ gy ≤ 127) : Calls Tryz.prog 35 #[v, u, .int .i8 gx, .int .i8 gy] w fun r w' => ∃ bs R p c p2 c2, r = .returned (.agg #[sB p bs c, sB p2 R c2, Ix (Int.tmod gx 32), Ix (Int.tmod gy 32)]) ∧ MadeP bs R (Int.tmod gx 32) (Int.tmod gy 32) ∧ bs.length = min fs.length 16 ∧ 2 * R.length ≤ us.length ∧ St β [rowF BodyF 52 p c bs, rowF RopeF 78 p2 c2 R] w' := by
 obtain ⟨va, vc, rfl, vl, vm, ve⟩ := hs.get
 obtain ⟨ua, uc, rfl, ul, um, ue⟩ := hu.get
 refine enter (n := 145) Tryz.func35 rfl Tryz.ntmps35 rfl ?_ hw
 refine csr ?_
 refine l_mv rfl rfl rfl (m_alloc tf85) ?_
 rintro _ _ ⟨b1, rfl, rfl⟩
 refine lnc ?_
 refine lv (v := .int .i8 (gx)) e_move ?_
 refine lv (v := Ix (gx)) (e_conv (a := (gx)) rfl ⟨_, tf114⟩ tf41 (i64w (by omega))) ?_
 refine lv (v := Ix (Int.tmod (gx) 32)) (e_rem (a := (gx)) (b := (32 : Int)) rfl rfl (by decide) rfl) ?_
 refine lv (v := .int .i8 (gy)) e_move ?_
 refine lv (v := Ix (gy)) (e_conv (a := (gy)) rfl ⟨_, tf114⟩ tf41 (i64w (by omega))) ?_
 refine lv (v := Ix (Int.tmod (gy) 32)) (e_rem (a := (gy)) (b := (32 : Int)) rfl rfl (by decide) rfl) ?_
 refine lv (v := .agg #[Ix (Int.tmod (gx) 32), Ix (Int.tmod (gy) 32)]) (e_build tf17 tf16 (vs := [(0, Ix (Int.tmod (gx) 32)), (1, Ix (Int.tmod (gy) 32))]) (cells := #[Ix (Int.tmod (gx) 32), Ix (Int.tmod (gy) 32)]) rfl rfl) ?_
 refine lv (v := .agg #[.slice none 0 0, .slice none 0 0, Ix (Int.tmod (gx) 32), Ix (Int.tmod (gy) 32)]) (e_build tf85 tf88 (vs := [(2, .agg #[Ix (Int.tmod (gx) 32), Ix (Int.tmod (gy) 32)])]) (cells := #[.slice none 0 0, .slice none 0 0, Ix (Int.tmod (gx) 32), Ix (Int.tmod (gy) 32)]) rfl rfl) ?_
 refine l_mv rfl rfl rfl (m_alloc tf85) ?_
 rintro _ _ ⟨b2, rfl, rfl⟩
 refine lu (m_store 0 tf86 (cs' := #[.slice none 0 0, .slice none 0 0, Ix (Int.tmod (gx) 32), Ix (Int.tmod (gy) 32)]) rfl rfl rfl rfl rfl rfl rfl) ?_
 refine lnf ?_
 refine c_emp (r := rowF BodyF 52 none 0 []) (row_nil _ _ _) ?_
 have hgx := tmod_bd gx
 have hgy := tmod_bd gy
 obtain ⟨gX, hgX⟩ : ∃ z, z = Int.tmod gx 32 := ⟨_, rfl⟩
 obtain ⟨gY, hgY⟩ : ∃ z, z = Int.tmod gy 32 := ⟨_, rfl⟩
 rw [← hgX] at hgx
 rw [← hgY] at hgy
 rw [← hgX, ← hgY]
 refine c_seq_cut (fun (f : Fm) (L : List Res) => ∃ (n : Nat) (bs : List KB) (p : Option Addr) (c : Nat), (f 1 = sB ua us (uc) ∧ f 8 = pp b1 0 ∧ f 9 = pp b2 0) ∧ L = [rowF BodyF 52 p c bs, pt b2 (.cells #[sB p bs c, .slice none 0 0, Ix (gX), Ix (gY)] 30), pt b1 (.cells #[.slice none 0 0, .slice none 0 0, .int .i64 (0), .int .i64 (0)] 30)] ∧ (bs.length ≤ 16 ∧ madeL bs ∧ bs.length = min fs.length 16)) ?_ ?_
 ·refine csr ?_
  refine l_val (v := .int .i64 (0)) rfl rfl rfl e_assign ?_
  refine lnf ?_
  refine c_block ?_
  refine c_mask [true, true, true] rfl ?_
  refine c_loop (fun (x_ : Nat × List KB × Option Addr × Nat) (f : Fm) (L : List Res) => match x_ with | (n, bs, p, c) => (f 0 = sB va fs (vc) ∧ f 1 = sB ua us (uc) ∧ f 8 = pp b1 0 ∧ f 9 = pp b2 0 ∧ f 10 = Nx (n)) ∧ L = [rowF BodyF 52 p c bs, pt b2 (.cells #[sB p bs c, .slice none 0 0, Ix (gX), Ix (gY)] 30), pt b1 (.cells #[.slice none 0 0, .slice none 0 0, .int .i64 (0), .int .i64 (0)] 30)] ∧ (n = bs.length ∧ n ≤ 16 ∧ n ≤ fs.length ∧ madeL bs)) (fun (x_ : Nat × List KB × Option Addr × Nat) => match x_ with | (n, bs, p, c) => fs.length - n) (0, [], none, 0) ?_ ?_
  ·exact ⟨⟨rfl, rfl, rfl, rfl, rfl⟩, rfl, ⟨rfl, by omega, by omega, madeL_nil⟩⟩
  rintro ⟨n, bs, p, c⟩ f0 L0 ⟨⟨hs0, hs1, hs8, hs9, hs10⟩, hL, ⟨hn1, hn2, hn3, hL⟩⟩
  subst L0
  refine rebase (d := 0) hs0 ?_
  refine rebase (d := 1) hs1 ?_
  refine rebase (d := 8) hs8 ?_
  refine rebase (d := 9) hs9 ?_
  refine rebase (d := 10) hs10 ?_
  clear hs0 hs1 hs8 hs9 hs10
  refine cs2 ?_
  refine c_region ?_
  refine lv (v := Nx (n)) e_move ?_
  refine lv (v := sB va fs (vc)) e_move ?_
  refine lv (v := Nx (fs.length)) (e_len (a := va) (n := fs.length) (c := vc) rfl tf115) ?_
  refine lv (e_lss (a := ((n : Nat) : Int)) (b := ((fs.length : Nat) : Int)) rfl rfl) ?_
  refine lv (v := .bool (decide (((n : Nat) : Int) < ((fs.length : Nat) : Int)))) e_move ?_
  refine l_split (s := 29) (p := ((n : Nat) : Int) < ((fs.length : Nat) : Int)) rfl (fun hg3 => ?_) (fun hg3 => ?_)
  ·refine g_val (v := Nx (n)) rfl rfl rfl rfl rfl e_move ?_
   refine g_val rfl rfl rfl rfl rfl (e_lss (a := ((n : Nat) : Int)) (b := (16 : Int)) rfl rfl) ?_
   refine lv (v := .bool (decide (((n : Nat) : Int) < (16 : Int)))) (e_pick_t rfl) ?_
   refine lnf ?_
   refine c_if (((n : Nat) : Int) < (16 : Int)) rfl (fun hc4 => ?_) (fun hc4 => ?_)
   ·refine csk ?_
    refine c_seq ?_
    refine c_block ?_
    refine csr ?_
    refine lv (v := sB va fs (vc)) e_move ?_
    refine lv (v := Nx (n)) e_move ?_
    obtain ⟨x5, hx6⟩ : ∃ x_, (fs)[n]? = some x_ := ⟨_, List.getElem?_eq_getElem (by omega)⟩
    obtain ⟨ha7, cs8, hc9, hr10⟩ := ve _ _ hx6
    obtain ⟨rfl, hFx5⟩ := hr10
    obtain ⟨hf1, hf2, hf3, hf4⟩ := hFx5
    refine lv (v := .pointer (some ((ba va).add (n * 8)))) (e_indexAddr (k := n) (len := fs.length) (cap := vc) (a := va) rfl rfl tf116 (by omega) ha7) ?_
    refine lv (v := .agg #[.int .i8 (x5.x), .int .i8 (x5.y), .int .i8 (x5.vx), .int .i8 (x5.vy), Bx (x5.w), Bx (x5.h), .bool (x5.round), .bool (x5.fixed)]) (e_load tf117 rfl (kB hc9) rfl) ?_
    refine l_mv rfl rfl rfl (m_alloc tf118) ?_
    rintro _ _ ⟨b11, rfl, rfl⟩
    refine lu (m_store 0 tf117 (cs' := #[.int .i8 (x5.x), .int .i8 (x5.y), .int .i8 (x5.vx), .int .i8 (x5.vy), Bx (x5.w), Bx (x5.h), .bool (x5.round), .bool (x5.fixed)]) rfl rfl rfl rfl rfl rfl rfl) ?_
    refine lnc ?_
    refine lv (v := Nx (n)) e_move ?_
    refine lv (v := Nx (2 * n)) (e_mul (a := (2 : Int)) (b := ((n : Nat) : Int)) rfl rfl (i64n (by omega) (by omega))) ?_
    refine lv (v := Nx (1 + (2 * n))) (e_add (a := (1 : Int)) (b := ((2 * n : Nat) : Int)) rfl rfl (i64n (by omega) (by omega))) ?_
    refine lv (v := pp b11 0) (e_fieldPt rfl tf119) ?_
    refine lv (v := .int .i8 (x5.x)) (e_load1 tf120 rfl (k_pt 0 rfl rfl)) ?_
    refine lv (v := Ix (x5.x)) (e_conv (a := (x5.x)) rfl ⟨_, tf114⟩ tf41 (i64w (by omega))) ?_
    refine lv (v := Ix ((3 : Int) * (x5.x))) (e_mul (a := (3 : Int)) (b := (x5.x)) rfl rfl (i64w (by omega))) ?_
    refine lv (v := pp b11 1) (e_fieldPt rfl tf121) ?_
    refine lv (v := .int .i8 (x5.y)) (e_load1 tf120 rfl (k_pt 0 rfl rfl)) ?_
    refine lv (v := Ix (x5.y)) (e_conv (a := (x5.y)) rfl ⟨_, tf114⟩ tf41 (i64w (by omega))) ?_
    refine lv (v := Ix ((3 : Int) * (x5.y))) (e_mul (a := (3 : Int)) (b := (x5.y)) rfl rfl (i64w (by omega))) ?_
    refine lv (v := .agg #[Ix ((3 : Int) * (x5.x)), Ix ((3 : Int) * (x5.y))]) (e_build tf17 tf16 (vs := [(0, Ix ((3 : Int) * (x5.x))), (1, Ix ((3 : Int) * (x5.y)))]) (cells := #[Ix ((3 : Int) * (x5.x)), Ix ((3 : Int) * (x5.y))]) rfl rfl) ?_
    refine lv (v := pp b11 2) (e_fieldPt rfl tf122) ?_
    refine lv (v := .int .i8 (x5.vx)) (e_load1 tf120 rfl (k_pt 0 rfl rfl)) ?_
    refine lv (v := Ix (x5.vx)) (e_conv (a := (x5.vx)) rfl ⟨_, tf114⟩ tf41 (i64w (by omega))) ?_
    refine lv (v := pp b11 3) (e_fieldPt rfl tf123) ?_
    refine lv (v := .int .i8 (x5.vy)) (e_load1 tf120 rfl (k_pt 0 rfl rfl)) ?_
    refine lv (v := Ix (x5.vy)) (e_conv (a := (x5.vy)) rfl ⟨_, tf114⟩ tf41 (i64w (by omega))) ?_
    refine lv (v := .agg #[Ix (x5.vx), Ix (x5.vy)]) (e_build tf17 tf16 (vs := [(0, Ix (x5.vx)), (1, Ix (x5.vy))]) (cells := #[Ix (x5.vx), Ix (x5.vy)]) rfl rfl) ?_
    refine lv (v := pp b11 4) (e_fieldPt rfl tf124) ?_
    refine lv (v := Bx (x5.w)) (e_load1 tf97 rfl (k_pt 0 rfl rfl)) ?_
    refine lv (v := Nx (x5.w.toNat)) (e_conv (a := ((x5.w).toNat : Int)) rfl ⟨_, tf125⟩ tf41 (i64n rfl (by have := (x5.w).toNat_lt; omega))) ?_
    refine lv (v := Nx (x5.w.toNat % 40)) (e_rem (a := ((x5.w.toNat : Nat) : Int)) (b := (40 : Int)) rfl rfl (by decide) (nat_tmod _ 40)) ?_
    refine lv (v := Nx (1 + (x5.w.toNat % 40))) (e_add (a := (1 : Int)) (b := ((x5.w.toNat % 40 : Nat) : Int)) rfl rfl (i64n (by omega) (by omega))) ?_
    refine lv (v := pp b11 5) (e_fieldPt rfl tf126) ?_
    refine lv (v := Bx (x5.h)) (e_load1 tf97 rfl (k_pt 0 rfl rfl)) ?_
    refine lv (v := Nx (x5.h.toNat)) (e_conv (a := ((x5.h).toNat : Int)) rfl ⟨_, tf125⟩ tf41 (i64n rfl (by have := (x5.h).toNat_lt; omega))) ?_
    refine lv (v := Nx (x5.h.toNat % 40)) (e_rem (a := ((x5.h.toNat : Nat) : Int)) (b := (40 : Int)) rfl rfl (by decide) (nat_tmod _ 40)) ?_
    refine lv (v := Nx (1 + (x5.h.toNat % 40))) (e_add (a := (1 : Int)) (b := ((x5.h.toNat % 40 : Nat) : Int)) rfl rfl (i64n (by omega) (by omega))) ?_
    refine lv (v := pp b11 6) (e_fieldPt rfl tf127) ?_
    refine lv (v := .bool (x5.round)) (e_load1 tf13 rfl (k_pt 0 rfl rfl)) ?_
    refine lv (v := pp b11 7) (e_fieldPt rfl tf128) ?_
    refine lv (v := .bool (x5.fixed)) (e_load1 tf13 rfl (k_pt 0 rfl rfl)) ?_
    refine lv (v := .agg #[Nx (1 + (2 * n)), Ix ((3 : Int) * (x5.x)), Ix ((3 : Int) * (x5.y)), Ix (x5.vx), Ix (x5.vy), Nx (1 + (x5.w.toNat % 40)), Nx (1 + (x5.h.toNat % 40)), .bool (x5.round), .bool (x5.fixed)]) (e_build tf58 tf102 (vs := [(0, Nx (1 + (2 * n))), (1, .agg #[Ix ((3 : Int) * (x5.x)), Ix ((3 : Int) * (x5.y))]), (2, .agg #[Ix (x5.vx), Ix (x5.vy)]), (3, Nx (1 + (x5.w.toNat % 40))), (4, Nx (1 + (x5.h.toNat % 40))), (5, .bool (x5.round)), (6, .bool (x5.fixed))]) (cells := #[Nx (1 + (2 * n)), Ix ((3 : Int) * (x5.x)), Ix ((3 : Int) * (x5.y)), Ix (x5.vx), Ix (x5.vy), Nx (1 + (x5.w.toNat % 40)), Nx (1 + (x5.h.toNat % 40)), .bool (x5.round), .bool (x5.fixed)]) rfl (by kernel_rfl)) ?_
    refine l_mv rfl rfl rfl (m_alloc tf58) ?_
    rintro _ _ ⟨b12, rfl, rfl⟩
    refine lu (m_store 0 tf22 (cs' := #[Nx (1 + (2 * n)), Ix ((3 : Int) * (x5.x)), Ix ((3 : Int) * (x5.y)), Ix (x5.vx), Ix (x5.vy), Nx (1 + (x5.w.toNat % 40)), Nx (1 + (x5.h.toNat % 40)), .bool (x5.round), .bool (x5.fixed)]) rfl rfl rfl rfl rfl rfl rfl) ?_
    refine lnf ?_
    refine cs2 ?_
    refine c_region ?_
    refine lv (v := pp b12 7) (e_fieldPt rfl tf12) ?_
    refine lv (v := .bool (x5.round)) (e_load1 tf13 rfl (k_pt 0 rfl rfl)) ?_
    refine lnf ?_
    refine c_ifb (x5.round) rfl (fun hc13 => ?_) (fun hc13 => ?_)
    ·refine c_region ?_
     refine lv (v := pp b12 5) (e_fieldPt rfl tf10) ?_
     refine lv (v := Nx (1 + (x5.w.toNat % 40))) (e_load1 tf2 rfl (k_pt 0 rfl rfl)) ?_
     refine lv (v := pp b12 6) (e_fieldPt rfl tf11) ?_
     refine lu (m_store 0 tf2 (cs' := #[Nx (1 + (2 * n)), Ix ((3 : Int) * (x5.x)), Ix ((3 : Int) * (x5.y)), Ix (x5.vx), Ix (x5.vy), Nx (1 + (x5.w.toNat % 40)), Nx (1 + (x5.w.toNat % 40)), .bool (x5.round), .bool (x5.fixed)]) rfl rfl rfl rfl rfl rfl rfl) ?_
     refine lnf ?_
     refine cs2 ?_
     refine c_region ?_
     refine lv (v := pp b12 8) (e_fieldPt rfl tf14) ?_
     refine lv (v := .bool (x5.fixed)) (e_load1 tf13 rfl (k_pt 0 rfl rfl)) ?_
     refine lnf ?_
     refine c_ifb (x5.fixed) rfl (fun hc14 => ?_) (fun hc14 => ?_)
     ·refine c_region ?_
      refine lv (v := .agg #[.int .i64 (0), .int .i64 (0)]) (e_build tf17 tf16 (vs := []) (cells := #[.int .i64 (0), .int .i64 (0)]) rfl rfl) ?_
      refine lv (v := pp b12 3) (e_fieldPt rfl tf9) ?_
      refine lu (m_store 0 tf15 (cs' := #[Nx (1 + (2 * n)), Ix ((3 : Int) * (x5.x)), Ix ((3 : Int) * (x5.y)), .int .i64 (0), .int .i64 (0), Nx (1 + (x5.w.toNat % 40)), Nx (1 + (x5.w.toNat % 40)), .bool (x5.round), .bool (x5.fixed)]) rfl rfl rfl rfl rfl rfl rfl) ?_
      refine lnf ?_
      obtain ⟨nb, hnb⟩ : ∃ z, z = (⟨((1 + (2 * n) : Nat) : Int), (3 : Int) * (x5.x), (3 : Int) * (x5.y), 0, 0, ((1 + (x5.w.toNat % 40) : Nat) : Int), ((1 + (x5.w.toNat % 40) : Nat) : Int), x5.round, x5.fixed⟩ : KB) := ⟨_, rfl⟩
      have hnbm : nb = madeB x5 n := by rw [hnb]; unfold madeB; simp [hc13, hc14]
      refine c_region ?_
      refine lv (v := pp b2 0) (e_fieldPt rfl tf49) ?_
      refine lv (v := sB p bs c) (e_load1 tf50 rfl (k_pt 3 rfl rfl)) ?_
      refine lv (v := .agg #[Nx (1 + (2 * n)), Ix ((3 : Int) * (x5.x)), Ix ((3 : Int) * (x5.y)), .int .i64 (0), .int .i64 (0), Nx (1 + (x5.w.toNat % 40)), Nx (1 + (x5.w.toNat % 40)), .bool (x5.round), .bool (x5.fixed)]) (e_load tf22 rfl (k_pt 0 rfl rfl) rfl) ?_
      refine l_mv rfl rfl rfl (m_slices tf43 tf58 (cells := #[Nx (1 + (2 * n)), Ix ((3 : Int) * (x5.x)), Ix ((3 : Int) * (x5.y)), .int .i64 (0), .int .i64 (0), Nx (1 + (x5.w.toNat % 40)), Nx (1 + (x5.w.toNat % 40)), .bool (x5.round), .bool (x5.fixed)]) rfl rfl rfl (by kernel_rfl)) ?_
      rintro _ _ ⟨b15, rfl, rfl⟩
      refine l_mv rfl rfl rfl (m_appendFlN (F := BodyF) 3 tf43 tf83 (p := p) (m := bs.length) (xs := bs) (ys := [nb]) (ao := (some ⟨b15, 0, none⟩)) (k := 1) (c := 1) rfl rfl rfl rfl rfl (k_ptFl (z := nb) 0 rfl (by rw [hnb])) (by first | omega | simp only [List.length_nil, List.length_cons, List.length_append, List.length_set]; omega) (by first | omega | simp only [List.length_nil, List.length_cons, List.length_append, List.length_set]; omega)) ?_
      rintro _ _ ⟨rp16, rc17, rfl, rfl⟩
      refine lv (v := pp b2 0) (e_fieldPt rfl tf49) ?_
      refine lu (m_store 4 tf50 (cs' := #[sB rp16 (bs ++ [nb]) rc17, .slice none 0 0, Ix (gX), Ix (gY)]) rfl rfl rfl rfl rfl rfl rfl) ?_
      refine l_nil ?_
      refine f_block ?_
      refine f_then ?_
      refine c_region ?_
      refine lv (v := Nx (n)) e_move ?_
      refine lv (v := Nx (n + 1)) (e_add (a := ((n : Nat) : Int)) (b := (1 : Int)) rfl rfl (i64n (by omega) (by omega))) ?_
      refine lv (v := Nx (n + 1)) e_assign ?_
      refine l_nil ?_
      refine f_mask (L' := [rowF BodyF 52 rp16 rc17 (bs ++ [nb]), pt b2 (.cells #[sB rp16 (bs ++ [nb]) rc17, .slice none 0 0, Ix (gX), Ix (gY)] 30), pt b1 (.cells #[.slice none 0 0, .slice none 0 0, .int .i64 (0), .int .i64 (0)] 30)]) [false, false, false, true, true, true] rfl ?_
      exact f_cut ⟨(n + 1, (bs ++ [nb]), rp16, rc17), ⟨⟨rfl, rfl, rfl, rfl, rfl⟩, rfl, ⟨by rw [List.length_append]; simp only [sB, rB, List.length_cons, List.length_nil]; omega, by omega, by omega, madeL_snoc hL (by rw [hnb]; show ((1 + 2 * n : Nat) : Int) = _; rw [hn1]) (by rw [hnbm]; exact madeB_ok ⟨hf1, hf2, hf3, hf4⟩ (by omega)) (by rw [hnbm]; exact madeB_x ⟨hf1, hf2, hf3, hf4⟩ n)⟩⟩, (show fs.length - (n + 1) < fs.length - n from by omega)⟩
     refine csk ?_
     obtain ⟨nb, hnb⟩ : ∃ z, z = (⟨((1 + (2 * n) : Nat) : Int), (3 : Int) * (x5.x), (3 : Int) * (x5.y), x5.vx, x5.vy, ((1 + (x5.w.toNat % 40) : Nat) : Int), ((1 + (x5.w.toNat % 40) : Nat) : Int), x5.round, x5.fixed⟩ : KB) := ⟨_, rfl⟩
     have hnbm : nb = madeB x5 n := by rw [hnb]; unfold madeB; simp [hc13, hc14]
     refine c_region ?_
     refine lv (v := pp b2 0) (e_fieldPt rfl tf49) ?_
     refine lv (v := sB p bs c) (e_load1 tf50 rfl (k_pt 3 rfl rfl)) ?_
     refine lv (v := .agg #[Nx (1 + (2 * n)), Ix ((3 : Int) * (x5.x)), Ix ((3 : Int) * (x5.y)), Ix (x5.vx), Ix (x5.vy), Nx (1 + (x5.w.toNat % 40)), Nx (1 + (x5.w.toNat % 40)), .bool (x5.round), .bool (x5.fixed)]) (e_load tf22 rfl (k_pt 0 rfl rfl) rfl) ?_
     refine l_mv rfl rfl rfl (m_slices tf43 tf58 (cells := #[Nx (1 + (2 * n)), Ix ((3 : Int) * (x5.x)), Ix ((3 : Int) * (x5.y)), Ix (x5.vx), Ix (x5.vy), Nx (1 + (x5.w.toNat % 40)), Nx (1 + (x5.w.toNat % 40)), .bool (x5.round), .bool (x5.fixed)]) rfl rfl rfl (by kernel_rfl)) ?_
     rintro _ _ ⟨b18, rfl, rfl⟩
     refine l_mv rfl rfl rfl (m_appendFlN (F := BodyF) 3 tf43 tf83 (p := p) (m := bs.length) (xs := bs) (ys := [nb]) (ao := (some ⟨b18, 0, none⟩)) (k := 1) (c := 1) rfl rfl rfl rfl rfl (k_ptFl (z := nb) 0 rfl (by rw [hnb])) (by first | omega | simp only [List.length_nil, List.length_cons, List.length_append, List.length_set]; omega) (by first | omega | simp only [List.length_nil, List.length_cons, List.length_append, List.length_set]; omega)) ?_
     rintro _ _ ⟨rp19, rc20, rfl, rfl⟩
     refine lv (v := pp b2 0) (e_fieldPt rfl tf49) ?_
     refine lu (m_store 4 tf50 (cs' := #[sB rp19 (bs ++ [nb]) rc20, .slice none 0 0, Ix (gX), Ix (gY)]) rfl rfl rfl rfl rfl rfl rfl) ?_
     refine l_nil ?_
     refine f_block ?_
     refine f_then ?_
     refine c_region ?_
     refine lv (v := Nx (n)) e_move ?_
     refine lv (v := Nx (n + 1)) (e_add (a := ((n : Nat) : Int)) (b := (1 : Int)) rfl rfl (i64n (by omega) (by omega))) ?_
     refine lv (v := Nx (n + 1)) e_assign ?_
     refine l_nil ?_
     refine f_mask (L' := [rowF BodyF 52 rp19 rc20 (bs ++ [nb]), pt b2 (.cells #[sB rp19 (bs ++ [nb]) rc20, .slice none 0 0, Ix (gX), Ix (gY)] 30), pt b1 (.cells #[.slice none 0 0, .slice none 0 0, .int .i64 (0), .int .i64 (0)] 30)]) [false, false, false, true, true, true] rfl ?_
     exact f_cut ⟨(n + 1, (bs ++ [nb]), rp19, rc20), ⟨⟨rfl, rfl, rfl, rfl, rfl⟩, rfl, ⟨by rw [List.length_append]; simp only [sB, rB, List.length_cons, List.length_nil]; omega, by omega, by omega, madeL_snoc hL (by rw [hnb]; show ((1 + 2 * n : Nat) : Int) = _; rw [hn1]) (by rw [hnbm]; exact madeB_ok ⟨hf1, hf2, hf3, hf4⟩ (by omega)) (by rw [hnbm]; exact madeB_x ⟨hf1, hf2, hf3, hf4⟩ n)⟩⟩, (show fs.length - (n + 1) < fs.length - n from by omega)⟩
    refine csk ?_
    refine cs2 ?_
    refine c_region ?_
    refine lv (v := pp b12 8) (e_fieldPt rfl tf14) ?_
    refine lv (v := .bool (x5.fixed)) (e_load1 tf13 rfl (k_pt 0 rfl rfl)) ?_
    refine lnf ?_
    refine c_ifb (x5.fixed) rfl (fun hc21 => ?_) (fun hc21 => ?_)
    ·refine c_region ?_
     refine lv (v := .agg #[.int .i64 (0), .int .i64 (0)]) (e_build tf17 tf16 (vs := []) (cells := #[.int .i64 (0), .int .i64 (0)]) rfl rfl) ?_
     refine lv (v := pp b12 3) (e_fieldPt rfl tf9) ?_
     refine lu (m_store 0 tf15 (cs' := #[Nx (1 + (2 * n)), Ix ((3 : Int) * (x5.x)), Ix ((3 : Int) * (x5.y)), .int .i64 (0), .int .i64 (0), Nx (1 + (x5.w.toNat % 40)), Nx (1 + (x5.h.toNat % 40)), .bool (x5.round), .bool (x5.fixed)]) rfl rfl rfl rfl rfl rfl rfl) ?_
     refine lnf ?_
     obtain ⟨nb, hnb⟩ : ∃ z, z = (⟨((1 + (2 * n) : Nat) : Int), (3 : Int) * (x5.x), (3 : Int) * (x5.y), 0, 0, ((1 + (x5.w.toNat % 40) : Nat) : Int), ((1 + (x5.h.toNat % 40) : Nat) : Int), x5.round, x5.fixed⟩ : KB) := ⟨_, rfl⟩
     have hnbm : nb = madeB x5 n := by rw [hnb]; unfold madeB; simp [hc13, hc21]
     refine c_region ?_
     refine lv (v := pp b2 0) (e_fieldPt rfl tf49) ?_
     refine lv (v := sB p bs c) (e_load1 tf50 rfl (k_pt 3 rfl rfl)) ?_
     refine lv (v := .agg #[Nx (1 + (2 * n)), Ix ((3 : Int) * (x5.x)), Ix ((3 : Int) * (x5.y)), .int .i64 (0), .int .i64 (0), Nx (1 + (x5.w.toNat % 40)), Nx (1 + (x5.h.toNat % 40)), .bool (x5.round), .bool (x5.fixed)]) (e_load tf22 rfl (k_pt 0 rfl rfl) rfl) ?_
     refine l_mv rfl rfl rfl (m_slices tf43 tf58 (cells := #[Nx (1 + (2 * n)), Ix ((3 : Int) * (x5.x)), Ix ((3 : Int) * (x5.y)), .int .i64 (0), .int .i64 (0), Nx (1 + (x5.w.toNat % 40)), Nx (1 + (x5.h.toNat % 40)), .bool (x5.round), .bool (x5.fixed)]) rfl rfl rfl (by kernel_rfl)) ?_
     rintro _ _ ⟨b22, rfl, rfl⟩
     refine l_mv rfl rfl rfl (m_appendFlN (F := BodyF) 3 tf43 tf83 (p := p) (m := bs.length) (xs := bs) (ys := [nb]) (ao := (some ⟨b22, 0, none⟩)) (k := 1) (c := 1) rfl rfl rfl rfl rfl (k_ptFl (z := nb) 0 rfl (by rw [hnb])) (by first | omega | simp only [List.length_nil, List.length_cons, List.length_append, List.length_set]; omega) (by first | omega | simp only [List.length_nil, List.length_cons, List.length_append, List.length_set]; omega)) ?_
     rintro _ _ ⟨rp23, rc24, rfl, rfl⟩
     refine lv (v := pp b2 0) (e_fieldPt rfl tf49) ?_
     refine lu (m_store 4 tf50 (cs' := #[sB rp23 (bs ++ [nb]) rc24, .slice none 0 0, Ix (gX), Ix (gY)]) rfl rfl rfl rfl rfl rfl rfl) ?_
     refine l_nil ?_
     refine f_block ?_
     refine f_then ?_
     refine c_region ?_
     refine lv (v := Nx (n)) e_move ?_
     refine lv (v := Nx (n + 1)) (e_add (a := ((n : Nat) : Int)) (b := (1 : Int)) rfl rfl (i64n (by omega) (by omega))) ?_
     refine lv (v := Nx (n + 1)) e_assign ?_
     refine l_nil ?_
     refine f_mask (L' := [rowF BodyF 52 rp23 rc24 (bs ++ [nb]), pt b2 (.cells #[sB rp23 (bs ++ [nb]) rc24, .slice none 0 0, Ix (gX), Ix (gY)] 30), pt b1 (.cells #[.slice none 0 0, .slice none 0 0, .int .i64 (0), .int .i64 (0)] 30)]) [false, false, false, true, true, true] rfl ?_
     exact f_cut ⟨(n + 1, (bs ++ [nb]), rp23, rc24), ⟨⟨rfl, rfl, rfl, rfl, rfl⟩, rfl, ⟨by rw [List.length_append]; simp only [sB, rB, List.length_cons, List.length_nil]; omega, by omega, by omega, madeL_snoc hL (by rw [hnb]; show ((1 + 2 * n : Nat) : Int) = _; rw [hn1]) (by rw [hnbm]; exact madeB_ok ⟨hf1, hf2, hf3, hf4⟩ (by omega)) (by rw [hnbm]; exact madeB_x ⟨hf1, hf2, hf3, hf4⟩ n)⟩⟩, (show fs.length - (n + 1) < fs.length - n from by omega)⟩
    refine csk ?_
    obtain ⟨nb, hnb⟩ : ∃ z, z = (⟨((1 + (2 * n) : Nat) : Int), (3 : Int) * (x5.x), (3 : Int) * (x5.y), x5.vx, x5.vy, ((1 + (x5.w.toNat % 40) : Nat) : Int), ((1 + (x5.h.toNat % 40) : Nat) : Int), x5.round, x5.fixed⟩ : KB) := ⟨_, rfl⟩
    have hnbm : nb = madeB x5 n := by rw [hnb]; unfold madeB; simp [hc13, hc21]
    refine c_region ?_
    refine lv (v := pp b2 0) (e_fieldPt rfl tf49) ?_
    refine lv (v := sB p bs c) (e_load1 tf50 rfl (k_pt 3 rfl rfl)) ?_
    refine lv (v := .agg #[Nx (1 + (2 * n)), Ix ((3 : Int) * (x5.x)), Ix ((3 : Int) * (x5.y)), Ix (x5.vx), Ix (x5.vy), Nx (1 + (x5.w.toNat % 40)), Nx (1 + (x5.h.toNat % 40)), .bool (x5.round), .bool (x5.fixed)]) (e_load tf22 rfl (k_pt 0 rfl rfl) rfl) ?_
    refine l_mv rfl rfl rfl (m_slices tf43 tf58 (cells := #[Nx (1 + (2 * n)), Ix ((3 : Int) * (x5.x)), Ix ((3 : Int) * (x5.y)), Ix (x5.vx), Ix (x5.vy), Nx (1 + (x5.w.toNat % 40)), Nx (1 + (x5.h.toNat % 40)), .bool (x5.round), .bool (x5.fixed)]) rfl rfl rfl (by kernel_rfl)) ?_
    rintro _ _ ⟨b25, rfl, rfl⟩
    refine l_mv rfl rfl rfl (m_appendFlN (F := BodyF) 3 tf43 tf83 (p := p) (m := bs.length) (xs := bs) (ys := [nb]) (ao := (some ⟨b25, 0, none⟩)) (k := 1) (c := 1) rfl rfl rfl rfl rfl (k_ptFl (z := nb) 0 rfl (by rw [hnb])) (by first | omega | simp only [List.length_nil, List.length_cons, List.length_append, List.length_set]; omega) (by first | omega | simp only [List.length_nil, List.length_cons, List.length_append, List.length_set]; omega)) ?_
    rintro _ _ ⟨rp26, rc27, rfl, rfl⟩
    refine lv (v := pp b2 0) (e_fieldPt rfl tf49) ?_
    refine lu (m_store 4 tf50 (cs' := #[sB rp26 (bs ++ [nb]) rc27, .slice none 0 0, Ix (gX), Ix (gY)]) rfl rfl rfl rfl rfl rfl rfl) ?_
    refine l_nil ?_
    refine f_block ?_
    refine f_then ?_
    refine c_region ?_
    refine lv (v := Nx (n)) e_move ?_
    refine lv (v := Nx (n + 1)) (e_add (a := ((n : Nat) : Int)) (b := (1 : Int)) rfl rfl (i64n (by omega) (by omega))) ?_
    refine lv (v := Nx (n + 1)) e_assign ?_
    refine l_nil ?_
    refine f_mask (L' := [rowF BodyF 52 rp26 rc27 (bs ++ [nb]), pt b2 (.cells #[sB rp26 (bs ++ [nb]) rc27, .slice none 0 0, Ix (gX), Ix (gY)] 30), pt b1 (.cells #[.slice none 0 0, .slice none 0 0, .int .i64 (0), .int .i64 (0)] 30)]) [false, false, false, true, true, true] rfl ?_
    exact f_cut ⟨(n + 1, (bs ++ [nb]), rp26, rc27), ⟨⟨rfl, rfl, rfl, rfl, rfl⟩, rfl, ⟨by rw [List.length_append]; simp only [sB, rB, List.length_cons, List.length_nil]; omega, by omega, by omega, madeL_snoc hL (by rw [hnb]; show ((1 + 2 * n : Nat) : Int) = _; rw [hn1]) (by rw [hnbm]; exact madeB_ok ⟨hf1, hf2, hf3, hf4⟩ (by omega)) (by rw [hnbm]; exact madeB_x ⟨hf1, hf2, hf3, hf4⟩ n)⟩⟩, (show fs.length - (n + 1) < fs.length - n from by omega)⟩
   refine c_exit ?_
   refine f_then_exit ?_
   refine f_then_exit ?_
   refine f_exit ?_
   exact f_cut ⟨n, bs, p, c, ⟨rfl, rfl, rfl⟩, rfl, ⟨by omega, hL, by omega⟩⟩
  refine l_skip rfl rfl rfl rfl rfl rfl ?_
  refine l_skip rfl rfl rfl rfl rfl rfl ?_
  refine lv (v := .bool false) (e_pick_f rfl) ?_
  refine lnf ?_
  refine c_no rfl ?_
  refine c_exit ?_
  refine f_then_exit ?_
  refine f_then_exit ?_
  refine f_exit ?_
  exact f_cut ⟨n, bs, p, c, ⟨rfl, rfl, rfl⟩, rfl, ⟨by omega, hL, by omega⟩⟩
 rintro f0 L0 ⟨n, bs, p, c, ⟨hs1, hs8, hs9⟩, hL, ⟨hn2, hL, hbl⟩⟩
 subst L0
 refine rebase (d := 1) hs1 ?_
 refine rebase (d := 8) hs8 ?_
 refine rebase (d := 9) hs9 ?_
 clear hs1 hs8 hs9
 refine c_emp (r := rowF RopeF 78 none 0 []) (row_nil _ _ _) ?_
 refine c_seq_cut (fun (f : Fm) (L : List Res) => ∃ (k : Nat) (R : List KR) (rp : Option Addr) (rc : Nat), (f 8 = pp b1 0 ∧ f 9 = pp b2 0) ∧ L = [rowF RopeF 78 rp rc R, rowF BodyF 52 p c bs, pt b2 (.cells #[sB p bs c, sB rp R rc, Ix (gX), Ix (gY)] 30), pt b1 (.cells #[.slice none 0 0, .slice none 0 0, .int .i64 (0), .int .i64 (0)] 30)] ∧ (R.length ≤ 6 ∧ (∀ r ∈ R, madeR bs.length r) ∧ 2 * R.length ≤ us.length)) ?_ ?_
 ·refine csr ?_
  refine l_val (v := .int .i64 (0)) rfl rfl rfl e_assign ?_
  refine lnf ?_
  refine c_block ?_
  refine c_mask [true, true, true, true] rfl ?_
  refine c_loop (fun (x_ : Nat × List KR × Option Addr × Nat) (f : Fm) (L : List Res) => match x_ with | (k, R, rp, rc) => (f 1 = sB ua us (uc) ∧ f 8 = pp b1 0 ∧ f 9 = pp b2 0 ∧ f 13 = Nx (2 * k)) ∧ L = [rowF RopeF 78 rp rc R, rowF BodyF 52 p c bs, pt b2 (.cells #[sB p bs c, sB rp R rc, Ix (gX), Ix (gY)] 30), pt b1 (.cells #[.slice none 0 0, .slice none 0 0, .int .i64 (0), .int .i64 (0)] 30)] ∧ (k ≤ 6 ∧ (R.length ≤ k ∧ 2 * k ≤ us.length) ∧ ∀ r ∈ R, madeR bs.length r)) (fun (x_ : Nat × List KR × Option Addr × Nat) => match x_ with | (k, R, rp, rc) => us.length - 2 * k) (0, [], none, 0) ?_ ?_
  ·exact ⟨⟨rfl, rfl, rfl, rfl⟩, rfl, ⟨by omega, ⟨by simp, by omega⟩, fun r hr => by cases hr⟩⟩
  rintro ⟨k, R, rp, rc⟩ f0 L0 ⟨⟨hs1, hs8, hs9, hs13⟩, hL, ⟨hk, hRl, hR⟩⟩
  subst L0
  refine rebase (d := 1) hs1 ?_
  refine rebase (d := 8) hs8 ?_
  refine rebase (d := 9) hs9 ?_
  refine rebase (d := 13) hs13 ?_
  clear hs1 hs8 hs9 hs13
  refine cs2 ?_
  refine c_region ?_
  refine lv (v := Nx (2 * k)) e_move ?_
  refine lv (v := Nx ((2 * k) + 1)) (e_add (a := ((2 * k : Nat) : Int)) (b := (1 : Int)) rfl rfl (i64n (by omega) (by omega))) ?_
  refine lv (v := sB ua us (uc)) e_move ?_
  refine lv (v := Nx (us.length)) (e_len (a := ua) (n := us.length) (c := uc) rfl tf129) ?_
  refine lv (e_lss (a := (((2 * k) + 1 : Nat) : Int)) (b := ((us.length : Nat) : Int)) rfl rfl) ?_
  refine lv (v := .bool (decide ((((2 * k) + 1 : Nat) : Int) < ((us.length : Nat) : Int)))) e_move ?_
  refine l_split (s := 93) (p := (((2 * k) + 1 : Nat) : Int) < ((us.length : Nat) : Int)) rfl (fun hg28 => ?_) (fun hg28 => ?_)
  ·refine g_val (v := Nx (2 * k)) rfl rfl rfl rfl rfl e_move ?_
   refine g_val rfl rfl rfl rfl rfl (e_lss (a := ((2 * k : Nat) : Int)) (b := (12 : Int)) rfl rfl) ?_
   refine lv (v := .bool (decide (((2 * k : Nat) : Int) < (12 : Int)))) (e_pick_t rfl) ?_
   refine lnf ?_
   refine c_if (((2 * k : Nat) : Int) < (12 : Int)) rfl (fun hc29 => ?_) (fun hc29 => ?_)
   ·refine csk ?_
    refine c_seq ?_
    refine c_block ?_
    refine csr ?_
    refine lv (v := pp b2 0) (e_fieldPt rfl tf49) ?_
    refine lv (v := sB p bs c) (e_load1 tf50 rfl (k_pt 2 rfl rfl)) ?_
    refine lv (v := Nx (bs.length)) (e_len (a := p) (n := bs.length) (c := c) rfl tf40) ?_
    refine lv (v := Nx (bs.length)) e_assign ?_
    refine lnf ?_
    refine cs2 ?_
    refine c_region ?_
    refine lv (v := Nx (bs.length)) e_move ?_
    refine lv (e_lss (a := ((bs.length : Nat) : Int)) (b := (2 : Int)) rfl rfl) ?_
    refine lnf ?_
    refine c_if (((bs.length : Nat) : Int) < (2 : Int)) rfl (fun hc30 => ?_) (fun hc30 => ?_)
    ·refine c_exit ?_
     refine f_then_exit ?_
     refine f_exit_other rfl ?_
     refine f_then_exit ?_
     refine f_then_exit ?_
     refine f_exit ?_
     exact f_cut ⟨k, R, rp, rc, ⟨rfl, rfl⟩, rfl, ⟨by omega, hR, by omega⟩⟩
    refine csk ?_
    refine c_seq ?_
    refine c_quiet (by kernel_rfl) (by kernel_rfl) ?_
    refine q_val (v := sB ua us (uc)) rfl rfl rfl e_move ?_
    refine q_val (v := Nx (2 * k)) rfl rfl rfl e_move ?_
    obtain ⟨x31, hx32⟩ : ∃ x_, (us)[2 * k]? = some x_ := ⟨_, List.getElem?_eq_getElem (by omega)⟩
    obtain ⟨ha33, cs34, hc35, rfl⟩ := ue _ _ hx32
    refine q_val (v := .pointer (some ((ba ua).add ((2 * k) * 1)))) rfl rfl rfl (e_indexAddr (k := 2 * k) (len := us.length) (cap := uc) (a := ua) rfl rfl tf130 (by omega) ha33) ?_
    refine q_val (v := Bx (x31)) rfl rfl rfl (e_load1 tf97 rfl (kB hc35)) ?_
    refine q_val (v := Nx (x31.toNat)) rfl rfl rfl (e_conv (a := ((x31).toNat : Int)) rfl ⟨_, tf125⟩ tf41 (i64n rfl (by have := (x31).toNat_lt; omega))) ?_
    refine q_val (v := Nx (bs.length)) rfl rfl rfl e_move ?_
    refine q_val (v := Nx (x31.toNat % bs.length)) rfl rfl rfl (e_rem (a := ((x31.toNat : Nat) : Int)) (b := ((bs.length : Nat) : Int)) rfl rfl (by omega) (nat_tmod _ _)) ?_
    refine q_val (v := sB ua us (uc)) rfl rfl rfl e_move ?_
    refine q_val (v := Nx (2 * k)) rfl rfl rfl e_move ?_
    refine q_val (v := Nx ((2 * k) + 1)) rfl rfl rfl (e_add (a := ((2 * k : Nat) : Int)) (b := (1 : Int)) rfl rfl (i64n (by omega) (by omega))) ?_
    obtain ⟨x37, hx38⟩ : ∃ x_, (us)[(2 * k) + 1]? = some x_ := ⟨_, List.getElem?_eq_getElem (by omega)⟩
    obtain ⟨ha39, cs40, hc41, rfl⟩ := ue _ _ hx38
    refine q_val (v := .pointer (some ((ba ua).add (((2 * k) + 1) * 1)))) rfl rfl rfl (e_indexAddr (k := (2 * k) + 1) (len := us.length) (cap := uc) (a := ua) rfl rfl tf130 (by omega) ha39) ?_
    refine q_val (v := Bx (x37)) rfl rfl rfl (e_load1 tf97 rfl (kB hc41)) ?_
    refine q_val (v := Nx (x37.toNat)) rfl rfl rfl (e_conv (a := ((x37).toNat : Int)) rfl ⟨_, tf125⟩ tf41 (i64n rfl (by have := (x37).toNat_lt; omega))) ?_
    refine q_val (v := Nx (bs.length)) rfl rfl rfl e_move ?_
    refine q_val (v := Nx (x37.toNat % bs.length)) rfl rfl rfl (e_rem (a := ((x37.toNat : Nat) : Int)) (b := ((bs.length : Nat) : Int)) rfl rfl (by omega) (nat_tmod _ _)) ?_
    refine q_val (v := Nx (x31.toNat % bs.length)) rfl rfl rfl e_assign ?_
    refine q_val (v := Nx (x37.toNat % bs.length)) rfl rfl rfl e_assign ?_
    refine q_nil ?_
    refine ftc ?_
    refine lv (v := Nx (x31.toNat % bs.length)) e_move ?_
    refine lv (v := Nx (x37.toNat % bs.length)) e_move ?_
    refine lv (e_neq (a := ((x31.toNat % bs.length : Nat) : Int)) (b := ((x37.toNat % bs.length : Nat) : Int)) rfl rfl) ?_
    refine lnf ?_
    refine c_if (((x31.toNat % bs.length : Nat) : Int) ≠ ((x37.toNat % bs.length : Nat) : Int)) rfl (fun hc43 => ?_) (fun hc43 => ?_)
    ·have ha := Nat.mod_lt x31.toNat (show 0 < bs.length by omega)
     have hb := Nat.mod_lt x37.toNat (show 0 < bs.length by omega)
     have hx8 := x31.toNat_lt
     have hmr : madeR bs.length ⟨((1 + (2 * (min (x31.toNat % bs.length) (x37.toNat % bs.length))) : Nat) : Int), ((1 + (2 * (max (x31.toNat % bs.length) (x37.toNat % bs.length))) : Nat) : Int), ((200 + x31.toNat : Nat) : Int)⟩ := ⟨min (x31.toNat % bs.length) (x37.toNat % bs.length), max (x31.toNat % bs.length) (x37.toNat % bs.length), by omega, by omega, rfl, rfl, by show (200 : Int) ≤ ((200 + x31.toNat : Nat) : Int); omega, by show ((200 + x31.toNat : Nat) : Int) ≤ 455; omega⟩
     refine c_any [⟨[], [], [0], [122], fun f => f 122 = pp b2 1⟩, ⟨[0], [0], [], [123], fun f => f 123 = sB rp R rc⟩, ⟨[], [], [1], [124], fun f => f 124 = Nx (x31.toNat % bs.length)⟩, ⟨[], [], [2], [125], fun f => f 125 = Nx (x37.toNat % bs.length)⟩, ⟨[2, 3], [2, 3], [], [126], fun f => f 126 = Nx (min (x31.toNat % bs.length) (x37.toNat % bs.length))⟩, ⟨[2, 3, 4], [4], [], [127], fun f => f 127 = Nx (2 * (min (x31.toNat % bs.length) (x37.toNat % bs.length)))⟩, ⟨[2, 3, 4, 5], [5], [], [128], fun f => f 128 = Nx (1 + (2 * (min (x31.toNat % bs.length) (x37.toNat % bs.length))))⟩, ⟨[], [], [1], [129], fun f => f 129 = Nx (x31.toNat % bs.length)⟩, ⟨[], [], [2], [130], fun f => f 130 = Nx (x37.toNat % bs.length)⟩, ⟨[7, 8], [7, 8], [], [131], fun f => f 131 = Nx (max (x31.toNat % bs.length) (x37.toNat % bs.length))⟩, ⟨[7, 8, 9], [9], [], [132], fun f => f 132 = Nx (2 * (max (x31.toNat % bs.length) (x37.toNat % bs.length)))⟩, ⟨[7, 8, 9, 10], [10], [], [133], fun f => f 133 = Nx (1 + (2 * (max (x31.toNat % bs.length) (x37.toNat % bs.length))))⟩, ⟨[], [], [3], [134], fun f => f 134 = sB ua us (uc)⟩, ⟨[], [], [4], [135], fun f => f 135 = Nx (2 * k)⟩, ⟨[12, 13], [12, 13], [], [136], fun f => f 136 = .pointer (some ((ba ua).add ((2 * k) * 1)))⟩, ⟨[12, 13, 14], [14], [], [137], fun f => f 137 = Bx (x31)⟩, ⟨[12, 13, 14, 15], [15], [], [138], fun f => f 138 = Nx (x31.toNat)⟩, ⟨[12, 13, 14, 15, 16], [16], [], [139], fun f => f 139 = Nx (200 + x31.toNat)⟩, ⟨[2, 3, 4, 5, 6, 7, 8, 9, 10, 11, 12, 13, 14, 15, 16, 17], [6, 11, 17], [], [140], fun f => f 140 = .agg #[Nx (1 + (2 * (min (x31.toNat % bs.length) (x37.toNat % bs.length)))), Nx (1 + (2 * (max (x31.toNat % bs.length) (x37.toNat % bs.length)))), Nx (200 + x31.toNat)]⟩, ⟨[2, 3, 4, 5, 6, 7, 8, 9, 10, 11, 12, 13, 14, 15, 16, 17, 18], [18], [], [141], fun f => f 141 = .slice (some ⟨(blk (f 141)), 0, none⟩) 1 1⟩, ⟨(List.range 20), [1, 19], [], [142], fun f => f 142 = sB (sla (f 142)) (R ++ [(⟨((1 + (2 * (min (x31.toNat % bs.length) (x37.toNat % bs.length))) : Nat) : Int), ((1 + (2 * (max (x31.toNat % bs.length) (x37.toNat % bs.length))) : Nat) : Int), ((200 + x31.toNat : Nat) : Int)⟩ : KR)]) (slc (f 142))⟩, ⟨(List.range 21), [], [0], [143], fun f => f 143 = pp b2 1⟩, ⟨(List.range 22), [21, 20], [], [], fun _ => True⟩] [⟨none, (some 20), [20], [], fun _ => rowF RopeF 78 rp rc R⟩, ⟨none, none, [], [], fun _ => rowF BodyF 52 p c bs⟩, ⟨none, (some 22), [1, 22], [], fun _ => pt b2 (.cells #[sB p bs c, sB rp R rc, Ix (gX), Ix (gY)] 30)⟩, ⟨none, none, [], [], fun _ => pt b1 (.cells #[.slice none 0 0, .slice none 0 0, .int .i64 (0), .int .i64 (0)] 30)⟩, ⟨(some 19), none, [20], [141], fun f => pt (blk (f 141)) (.cells #[Nx (1 + (2 * (min (x31.toNat % bs.length) (x37.toNat % bs.length)))), Nx (1 + (2 * (max (x31.toNat % bs.length) (x37.toNat % bs.length)))), Nx (200 + x31.toNat)] 78)⟩, ⟨(some 20), none, [], [142], fun f => rowF RopeF 78 (sla (f 142)) (slc (f 142)) (R ++ [(⟨((1 + (2 * (min (x31.toNat % bs.length) (x37.toNat % bs.length))) : Nat) : Int), ((1 + (2 * (max (x31.toNat % bs.length) (x37.toNat % bs.length))) : Nat) : Int), ((200 + x31.toNat : Nat) : Int)⟩ : KR)])⟩, ⟨(some 22), none, [], [142], fun f => pt b2 (.cells #[sB p bs c, sB (sla (f 142)) (R ++ [(⟨((1 + (2 * (min (x31.toNat % bs.length) (x37.toNat % bs.length))) : Nat) : Int), ((1 + (2 * (max (x31.toNat % bs.length) (x37.toNat % bs.length))) : Nat) : Int), ((200 + x31.toNat : Nat) : Int)⟩ : KR)]) (slc (f 142)), Ix (gX), Ix (gY)] 30)⟩] [(9, pp b2 0), (15, Nx (x31.toNat % bs.length)), (16, Nx (x37.toNat % bs.length)), (1, sB ua us (uc)), (13, Nx (2 * k)), (8, pp b1 0)] [3, 5, 0, 4] [] (by kernel_rfl) (by kernel_rfl) (by kernel_rfl) (by kernel_rfl) rfl ⟨rfl, rfl, rfl, rfl, rfl, rfl, trivial⟩ ⟨?_, ?_, ?_, ?_, ?_, ?_, ?_, ?_, ?_, ?_, ?_, ?_, ?_, ?_, ?_, ?_, ?_, ?_, ?_, ?_, ?_, ?_, ?_, trivial⟩ ?_
     ·rintro f M - ⟨i0, -⟩
      exact ob0 (up_cons (d := 9) rfl i0) rfl (e_fieldPt rfl tf55) (.refl _)
     ·rintro f M ⟨k0, -⟩ -
      exact obv (L' := pt b2 (.cells #[sB p bs c, sB rp R rc, Ix (gX), Ix (gY)] 30) :: M) (up_cons (d := 122) rfl k0) rfl (e_load1 tf56 rfl (k_pt 0 rfl rfl)) (perm_front 0 rfl) (by rfl)
     ·rintro f M - ⟨i0, -⟩
      exact ob0 (up_cons (d := 15) rfl i0) rfl e_move (.refl _)
     ·rintro f M - ⟨i0, -⟩
      exact ob0 (up_cons (d := 16) rfl i0) rfl e_move (.refl _)
     ·rintro f M ⟨k0, k1, -⟩ -
      exact ob0 (up_cons (d := 125) (up_cons (d := 124) rfl k0) k1) rfl (ev_eq (congrArg (Value.int .i64) (by omega)) (e_min (a := ((x31.toNat % bs.length : Nat) : Int)) (b := ((x37.toNat % bs.length : Nat) : Int)) rfl rfl)) (.refl _)
     ·rintro f M ⟨k0, -⟩ -
      exact ob0 (up_cons (d := 126) rfl k0) rfl (e_mul (a := (2 : Int)) (b := ((min (x31.toNat % bs.length) (x37.toNat % bs.length) : Nat) : Int)) rfl rfl (i64n (by omega) (by omega))) (.refl _)
     ·rintro f M ⟨k0, -⟩ -
      exact ob0 (up_cons (d := 127) rfl k0) rfl (e_add (a := (1 : Int)) (b := ((2 * (min (x31.toNat % bs.length) (x37.toNat % bs.length)) : Nat) : Int)) rfl rfl (i64n (by omega) (by omega))) (.refl _)
     ·rintro f M - ⟨i0, -⟩
      exact ob0 (up_cons (d := 15) rfl i0) rfl e_move (.refl _)
     ·rintro f M - ⟨i0, -⟩
      exact ob0 (up_cons (d := 16) rfl i0) rfl e_move (.refl _)
     ·rintro f M ⟨k0, k1, -⟩ -
      exact ob0 (up_cons (d := 130) (up_cons (d := 129) rfl k0) k1) rfl (ev_eq (congrArg (Value.int .i64) (by omega)) (e_max (a := ((x31.toNat % bs.length : Nat) : Int)) (b := ((x37.toNat % bs.length : Nat) : Int)) rfl rfl)) (.refl _)
     ·rintro f M ⟨k0, -⟩ -
      exact ob0 (up_cons (d := 131) rfl k0) rfl (e_mul (a := (2 : Int)) (b := ((max (x31.toNat % bs.length) (x37.toNat % bs.length) : Nat) : Int)) rfl rfl (i64n (by omega) (by omega))) (.refl _)
     ·rintro f M ⟨k0, -⟩ -
      exact ob0 (up_cons (d := 132) rfl k0) rfl (e_add (a := (1 : Int)) (b := ((2 * (max (x31.toNat % bs.length) (x37.toNat % bs.length)) : Nat) : Int)) rfl rfl (i64n (by omega) (by omega))) (.refl _)
     ·rintro f M - ⟨i0, -⟩
      exact ob0 (up_cons (d := 1) rfl i0) rfl e_move (.refl _)
     ·rintro f M - ⟨i0, -⟩
      exact ob0 (up_cons (d := 13) rfl i0) rfl e_move (.refl _)
     ·rintro f M ⟨k0, k1, -⟩ -
      exact ob0 (up_cons (d := 135) (up_cons (d := 134) rfl k0) k1) rfl (e_indexAddr (k := 2 * k) (len := us.length) (cap := uc) (a := ua) rfl rfl tf130 (by omega) ha33) (.refl _)
     ·rintro f M ⟨k0, -⟩ -
      exact ob0 (up_cons (d := 136) rfl k0) rfl (e_load1 tf97 rfl (kB hc35)) (.refl _)
     ·rintro f M ⟨k0, -⟩ -
      exact ob0 (up_cons (d := 137) rfl k0) rfl (e_conv (a := ((x31).toNat : Int)) rfl ⟨_, tf125⟩ tf41 (i64n rfl (by have := (x31).toNat_lt; omega))) (.refl _)
     ·rintro f M ⟨k0, -⟩ -
      exact ob0 (up_cons (d := 138) rfl k0) rfl (e_add (a := (200 : Int)) (b := ((x31.toNat : Nat) : Int)) rfl rfl (i64n (by omega) (by omega))) (.refl _)
     ·rintro f M ⟨k0, k1, k2, -⟩ -
      exact ob0 (up_cons (d := 139) (up_cons (d := 133) (up_cons (d := 128) rfl k0) k1) k2) rfl (e_build tf77 tf110 (vs := [(0, Nx (1 + (2 * (min (x31.toNat % bs.length) (x37.toNat % bs.length))))), (1, Nx (1 + (2 * (max (x31.toNat % bs.length) (x37.toNat % bs.length))))), (2, Nx (200 + x31.toNat))]) (cells := #[Nx (1 + (2 * (min (x31.toNat % bs.length) (x37.toNat % bs.length)))), Nx (1 + (2 * (max (x31.toNat % bs.length) (x37.toNat % bs.length)))), Nx (200 + x31.toNat)]) rfl rfl) (.refl _)
     ·rintro f M ⟨k0, -⟩ -
      refine ob_start (L' := M) (by rfl) (up_cons (d := 140) rfl k0) ?_
      refine l_mv rfl rfl rfl (m_slices tf46 tf77 (cells := #[Nx (1 + (2 * (min (x31.toNat % bs.length) (x37.toNat % bs.length)))), Nx (1 + (2 * (max (x31.toNat % bs.length) (x37.toNat % bs.length)))), Nx (200 + x31.toNat)]) rfl rfl rfl rfl) ?_
      rintro _ _ ⟨b45, rfl, rfl⟩
      refine l_nil ?_
      exact f_owes_d (up_cons (d := 140) rfl k0) rfl (perm_front 0 rfl)
     ·rintro f M ⟨k0, k1, -⟩ -
      have hs141 : f 141 = .slice (some ⟨(blk (f 141)), 0, none⟩) 1 1 := k1
      refine ob_start (L' := rowF RopeF 78 rp rc R :: pt (blk (f 141)) (.cells #[Nx (1 + (2 * (min (x31.toNat % bs.length) (x37.toNat % bs.length)))), Nx (1 + (2 * (max (x31.toNat % bs.length) (x37.toNat % bs.length)))), Nx (200 + x31.toNat)] 78) :: M) (by rfl) (up_cons (up_cons (d := 123) rfl k0) hs141) ?_
      refine l_mv rfl rfl rfl (m_appendFlN (F := RopeF) 0 tf46 tf84 (p := rp) (m := R.length) (xs := R) (ys := [(⟨((1 + (2 * (min (x31.toNat % bs.length) (x37.toNat % bs.length))) : Nat) : Int), ((1 + (2 * (max (x31.toNat % bs.length) (x37.toNat % bs.length))) : Nat) : Int), ((200 + x31.toNat : Nat) : Int)⟩ : KR)]) (ao := (some ⟨(blk (f 141)), 0, none⟩)) (k := 1) (c := 1) rfl rfl rfl rfl rfl (k_ptFl (z := (⟨((1 + (2 * (min (x31.toNat % bs.length) (x37.toNat % bs.length))) : Nat) : Int), ((1 + (2 * (max (x31.toNat % bs.length) (x37.toNat % bs.length))) : Nat) : Int), ((200 + x31.toNat : Nat) : Int)⟩ : KR)) 1 rfl rfl) (by first | omega | simp only [List.length_nil, List.length_cons, List.length_append, List.length_set]; omega) (by first | omega | simp only [List.length_nil, List.length_cons, List.length_append, List.length_set]; omega)) ?_
      rintro _ _ ⟨rp48, rc49, rfl, rfl⟩
      refine l_nil ?_
      exact f_owes_d (up_cons (up_cons (d := 123) rfl k0) hs141) rfl ((perm_front 0 rfl).trans (perm_front 1 rfl))
     ·rintro f M - ⟨i0, -⟩
      exact ob0 (up_cons (d := 9) rfl i0) rfl (e_fieldPt rfl tf55) (.refl _)
     ·rintro f M ⟨k0, k1, -⟩ -
      have hs142 : f 142 = sB (sla (f 142)) (R ++ [(⟨((1 + (2 * (min (x31.toNat % bs.length) (x37.toNat % bs.length))) : Nat) : Int), ((1 + (2 * (max (x31.toNat % bs.length) (x37.toNat % bs.length))) : Nat) : Int), ((200 + x31.toNat : Nat) : Int)⟩ : KR)]) (slc (f 142)) := k1
      refine ob_start (L' := pt b2 (.cells #[sB p bs c, sB rp R rc, Ix (gX), Ix (gY)] 30) :: M) (by rfl) (up_cons (up_cons (d := 143) rfl k0) hs142) ?_
      refine lu (m_store 0 tf56 (cs' := #[sB p bs c, sB (sla (f 142)) (R ++ [(⟨((1 + (2 * (min (x31.toNat % bs.length) (x37.toNat % bs.length))) : Nat) : Int), ((1 + (2 * (max (x31.toNat % bs.length) (x37.toNat % bs.length))) : Nat) : Int), ((200 + x31.toNat : Nat) : Int)⟩ : KR)]) (slc (f 142)), Ix (gX), Ix (gY)]) rfl rfl rfl rfl rfl rfl rfl) ?_
      refine l_nil ?_
      exact f_owes_n (up_cons (up_cons (d := 143) rfl k0) hs142) trivial (perm_front 0 rfl)
     rintro fa50 ⟨-, -, -, -, -, -, -, -, -, -, -, -, -, -, -, -, -, -, -, -, -, -, -, -⟩ ⟨j0, j1, j2, j3, -⟩
     refine f_re (L' := [rowF BodyF 52 p c bs, pt b1 (.cells #[.slice none 0 0, .slice none 0 0, .int .i64 (0), .int .i64 (0)] 30), pt (blk (fa50 141)) (.cells #[Nx (1 + (2 * (min (x31.toNat % bs.length) (x37.toNat % bs.length)))), Nx (1 + (2 * (max (x31.toNat % bs.length) (x37.toNat % bs.length)))), Nx (200 + x31.toNat)] 78), rowF RopeF 78 (sla (fa50 142)) (slc (fa50 142)) (R ++ [(⟨((1 + (2 * (min (x31.toNat % bs.length) (x37.toNat % bs.length))) : Nat) : Int), ((1 + (2 * (max (x31.toNat % bs.length) (x37.toNat % bs.length))) : Nat) : Int), ((200 + x31.toNat : Nat) : Int)⟩ : KR)]), pt b2 (.cells #[sB p bs c, sB (sla (fa50 142)) (R ++ [(⟨((1 + (2 * (min (x31.toNat % bs.length) (x37.toNat % bs.length))) : Nat) : Int), ((1 + (2 * (max (x31.toNat % bs.length) (x37.toNat % bs.length))) : Nat) : Int), ((200 + x31.toNat : Nat) : Int)⟩ : KR)]) (slc (fa50 142)), Ix (gX), Ix (gY)] 30)]) (by rfl) ?_
     refine f_rebase (d := 1) j0 ?_
     refine f_rebase (d := 8) j1 ?_
     refine f_rebase (d := 9) j2 ?_
     refine f_rebase (d := 13) j3 ?_
     refine f_block ?_
     refine f_then ?_
     refine c_region ?_
     refine lv (v := Nx (2 * k)) e_move ?_
     refine lv (v := Nx ((2 * k) + 2)) (e_add (a := ((2 * k : Nat) : Int)) (b := (2 : Int)) rfl rfl (i64n (by omega) (by omega))) ?_
     refine lv (v := Nx ((2 * k) + 2)) e_assign ?_
     refine l_nil ?_
     refine f_perm (L' := [rowF RopeF 78 (sla (fa50 142)) (slc (fa50 142)) (R ++ [(⟨((1 + (2 * (min (x31.toNat % bs.length) (x37.toNat % bs.length))) : Nat) : Int), ((1 + (2 * (max (x31.toNat % bs.length) (x37.toNat % bs.length))) : Nat) : Int), ((200 + x31.toNat : Nat) : Int)⟩ : KR)]), rowF BodyF 52 p c bs, pt b2 (.cells #[sB p bs c, sB (sla (fa50 142)) (R ++ [(⟨((1 + (2 * (min (x31.toNat % bs.length) (x37.toNat % bs.length))) : Nat) : Int), ((1 + (2 * (max (x31.toNat % bs.length) (x37.toNat % bs.length))) : Nat) : Int), ((200 + x31.toNat : Nat) : Int)⟩ : KR)]) (slc (fa50 142)), Ix (gX), Ix (gY)] 30), pt b1 (.cells #[.slice none 0 0, .slice none 0 0, .int .i64 (0), .int .i64 (0)] 30), pt (blk (fa50 141)) (.cells #[Nx (1 + (2 * (min (x31.toNat % bs.length) (x37.toNat % bs.length)))), Nx (1 + (2 * (max (x31.toNat % bs.length) (x37.toNat % bs.length)))), Nx (200 + x31.toNat)] 78)]) (perm_ix [3, 0, 4, 1, 2] 5 rfl (by kernel_rfl) (by kernel_rfl)) ?_
     refine f_mask (L' := [rowF RopeF 78 (sla (fa50 142)) (slc (fa50 142)) (R ++ [(⟨((1 + (2 * (min (x31.toNat % bs.length) (x37.toNat % bs.length))) : Nat) : Int), ((1 + (2 * (max (x31.toNat % bs.length) (x37.toNat % bs.length))) : Nat) : Int), ((200 + x31.toNat : Nat) : Int)⟩ : KR)]), rowF BodyF 52 p c bs, pt b2 (.cells #[sB p bs c, sB (sla (fa50 142)) (R ++ [(⟨((1 + (2 * (min (x31.toNat % bs.length) (x37.toNat % bs.length))) : Nat) : Int), ((1 + (2 * (max (x31.toNat % bs.length) (x37.toNat % bs.length))) : Nat) : Int), ((200 + x31.toNat : Nat) : Int)⟩ : KR)]) (slc (fa50 142)), Ix (gX), Ix (gY)] 30), pt b1 (.cells #[.slice none 0 0, .slice none 0 0, .int .i64 (0), .int .i64 (0)] 30)]) [true, true, true, true, false] rfl ?_
     exact f_cut ⟨(k + 1, (R ++ [(⟨((1 + (2 * (min (x31.toNat % bs.length) (x37.toNat % bs.length))) : Nat) : Int), ((1 + (2 * (max (x31.toNat % bs.length) (x37.toNat % bs.length))) : Nat) : Int), ((200 + x31.toNat : Nat) : Int)⟩ : KR)]), (sla (fa50 142)), (slc (fa50 142))), ⟨⟨rfl, rfl, rfl, rfl⟩, rfl, ⟨by omega, ⟨by rw [List.length_append]; simp only [sB, rB, List.length_cons, List.length_nil]; omega, by omega⟩, fun r hr => (List.mem_append.1 hr).elim (hR r) fun h => by rw [List.mem_singleton.1 h]; exact hmr⟩⟩, (show us.length - 2 * (k + 1) < us.length - 2 * k from by omega)⟩
    refine c_skip ?_
    refine f_block ?_
    refine f_then ?_
    refine c_region ?_
    refine lv (v := Nx (2 * k)) e_move ?_
    refine lv (v := Nx ((2 * k) + 2)) (e_add (a := ((2 * k : Nat) : Int)) (b := (2 : Int)) rfl rfl (i64n (by omega) (by omega))) ?_
    refine lv (v := Nx ((2 * k) + 2)) e_assign ?_
    refine l_nil ?_
    exact f_cut ⟨(k + 1, R, rp, rc), ⟨⟨rfl, rfl, rfl, rfl⟩, rfl, ⟨by omega, ⟨by omega, by omega⟩, hR⟩⟩, (show us.length - 2 * (k + 1) < us.length - 2 * k from by omega)⟩
   refine c_exit ?_
   refine f_then_exit ?_
   refine f_then_exit ?_
   refine f_exit ?_
   exact f_cut ⟨k, R, rp, rc, ⟨rfl, rfl⟩, rfl, ⟨by omega, hR, by omega⟩⟩
  refine l_skip rfl rfl rfl rfl rfl rfl ?_
  refine l_skip rfl rfl rfl rfl rfl rfl ?_
  refine lv (v := .bool false) (e_pick_f rfl) ?_
  refine lnf ?_
  refine c_no rfl ?_
  refine c_exit ?_
  refine f_then_exit ?_
  refine f_then_exit ?_
  refine f_exit ?_
  exact f_cut ⟨k, R, rp, rc, ⟨rfl, rfl⟩, rfl, ⟨by omega, hR, by omega⟩⟩
 rintro f0 L0 ⟨k, R, rp, rc, ⟨hs8, hs9⟩, hL, ⟨hRl, hR, hRu⟩⟩
 subst L0
 refine rebase (d := 8) hs8 ?_
 refine rebase (d := 9) hs9 ?_
 clear hs8 hs9
 refine csr ?_
 refine lv (v := .agg #[sB p bs c, sB rp R rc, Ix (gX), Ix (gY)]) (e_load tf86 rfl (k_pt 2 rfl rfl) rfl) ?_
 refine lu (m_store 3 tf86 (cs' := #[sB p bs c, sB rp R rc, Ix (gX), Ix (gY)]) rfl rfl rfl rfl rfl rfl rfl) ?_
 refine lnf ?_
 refine c_ret ?_
 refine retG (m := [.agg #[sB p bs c, sB rp R rc, Ix (gX), Ix (gY)]]) Tryz.results35 ⟨rd_cell tf86 rfl (k_pt 3 rfl rfl) rfl, trivial⟩ rfl ?_
 intro w hw
 have hw2 := st_mask (L' := [rowF RopeF 78 rp rc R, rowF BodyF 52 p c bs]) [true, true, false, false] rfl hw
 exact ⟨bs, R, p, c, rp, rc, by rw [hgX, hgY] <;> rfl, by subst hgX; subst hgY; exact madeP_mk hL hR hn2 hRl hgx hgy, hbl, hRu, hw2.perm (perm_ix [1, 0] 2 rfl (by kernel_rfl) (by kernel_rfl))⟩
theorem made8_ok (β : Base) (w : World) (hw : St β [] w) (v u : Value) (fs : List KF) (us : List UInt8) (hs : Sl FormR β.heap v fs) (hu : Sl U8R β.heap u us) (gx gy : Int) (hgx8 : -128 ≤ gx ∧ gx ≤ 127) (hgy8 : -128 ≤ gy ∧ gy ≤ 127) : Calls Tryz.prog 8 #[v, u, .int .i8 gx, .int .i8 gy] w fun r w' => ∃ bs R p c p2 c2, r = .returned (.agg #[sB p bs c, sB p2 R c2, Ix (Int.tmod gx 32), Ix (Int.tmod gy 32)]) ∧ MadeP bs R (Int.tmod gx 32) (Int.tmod gy 32) ∧ bs.length = min fs.length 16 ∧ 2 * R.length ≤ us.length ∧ St β [rowF BodyF 52 p c bs, rowF RopeF 78 p2 c2 R] w' := by
 refine enter (n := 14) Tryz.func8 rfl Tryz.ntmps8 rfl ?_ hw
 refine csr ?_
 refine l_mv rfl rfl rfl (m_alloc tf85) ?_
 rintro _ _ ⟨b1, rfl, rfl⟩
 refine lnc ?_
 refine lv (v := v) e_move ?_
 refine lv (v := u) e_move ?_
 refine lv (v := .int .i8 (gx)) e_move ?_
 refine lv (v := .int .i8 (gy)) e_move ?_
 refine lcf (cl0 (vs := [v, u, .int .i8 (gx), .int .i8 (gy)]) tf131 rfl rfl) rfl fun w β1 sb kn hw1 back => (made7_ok β1 w hw1 _ _ fs us (Sl.mono _ _ _ _ _ sb hs) (Sl.mono _ _ _ _ _ sb hu) gx gy hgx8 hgy8).mono ?_
 rintro e w' ⟨bs, R, p2, c3, p4, c5, rfl, hmP, hbl, hRu, hw'⟩
 refine ⟨_, rfl, _, back _ _ hw', ?_⟩
 clear hw1 hw' back kn sb
 refine lu (m_store 2 tf86 (cs' := #[sB p2 bs c3, sB p4 R c5, Ix (Int.tmod gx 32), Ix (Int.tmod gy 32)]) rfl rfl rfl rfl rfl rfl rfl) ?_
 refine lnf ?_
 refine c_ret ?_
 refine retG (m := [.agg #[sB p2 bs c3, sB p4 R c5, Ix (Int.tmod gx 32), Ix (Int.tmod gy 32)]]) Tryz.results8 ⟨rd_cell tf86 rfl (k_pt 2 rfl rfl) rfl, trivial⟩ rfl ?_
 intro w hw
 exact ⟨bs, R, _, _, _, _, rfl, hmP, hbl, hRu, st_mask [true, true, false] rfl hw⟩
set_option maxHeartbeats 4000000 in
theorem findS_ok (β : Base) (w : World) (hw : St β [] w) (v rv : Value) (gx gy : Int) (xs : List KB) (hs : Sl KBR β.heap v xs) (i : Int) : Calls Tryz.prog 15 #[.agg #[v, rv, Ix gx, Ix gy], Ix i] w fun r w' => r = .returned (Ix (idxI (fun y : KB => decide (y.id = i)) xs)) ∧ St β [] w' := by
 obtain ⟨va, vc, rfl, vl, vm, ve⟩ := hs.get
 refine enter (n := 21) Tryz.func15 rfl Tryz.ntmps15 rfl ?_ hw
 refine csr ?_
 refine l_mv rfl rfl rfl (m_box (v := .agg #[sB va xs (vc), rv, Ix (gx), Ix (gy)]) rfl) ?_
 rintro _ _ ⟨b1, rfl, rfl⟩
 refine lv (v := .int .i64 (0)) e_assign ?_
 refine lnf ?_
 refine cs2 ?_
 refine c_region ?_
 refine lv (v := pp b1 0) (e_fieldPt rfl tf49) ?_
 refine lv (v := sB va xs (vc)) (e_load1 tf50 rfl (k_pt 0 rfl rfl)) ?_
 refine lv (v := Nx (xs.length)) (e_len (a := va) (n := xs.length) (c := vc) rfl tf40) ?_
 refine lv (v := .int .i64 (0)) e_move ?_
 refine lnf ?_
 refine c_block ?_
 refine c_mask [false] rfl ?_
 refine c_loop (fun (k : Nat) (f : Fm) (L : List Res) => (f 1 = Ix (i) ∧ f 8 = sB va xs (vc) ∧ f 9 = Nx (xs.length) ∧ f 10 = Nx (k)) ∧ L = [] ∧ (k ≤ xs.length ∧ ∀ y ∈ xs.take k, decide (y.id = i) = false)) (fun (k : Nat) => xs.length - k) 0 ?_ ?_
 ·exact ⟨⟨rfl, rfl, rfl, rfl⟩, rfl, ⟨by omega, fun y hy => by simp at hy⟩⟩
 rintro k f0 L0 ⟨⟨hs1, hs8, hs9, hs10⟩, hL, ⟨hk, hp⟩⟩
 subst L0
 refine rebase (d := 1) hs1 ?_
 refine rebase (d := 8) hs8 ?_
 refine rebase (d := 9) hs9 ?_
 refine rebase (d := 10) hs10 ?_
 clear hs1 hs8 hs9 hs10
 refine csr ?_
 refine lv (e_lss (a := ((k : Nat) : Int)) (b := ((xs.length : Nat) : Int)) rfl rfl) ?_
 refine lnf ?_
 refine c_seq ?_
 refine c_if (((k : Nat) : Int) < ((xs.length : Nat) : Int)) rfl (fun hc2 => ?_) (fun hc2 => ?_)
 ·refine csk ?_
  refine c_seq ?_
  refine c_block ?_
  refine csr ?_
  refine lv (v := Nx (k)) e_move ?_
  obtain ⟨x3, hx4⟩ : ∃ x_, (xs)[k]? = some x_ := ⟨_, List.getElem?_eq_getElem (by omega)⟩
  obtain ⟨ha5, cs6, hc7, rfl⟩ := ve _ _ hx4
  refine lv (v := .pointer (some ((ba va).add (k * 9)))) (e_indexAddr (k := k) (len := xs.length) (cap := vc) (a := va) rfl rfl tf43 (by omega) ha5) ?_
  refine lv (v := .agg (bC x3)) (e_load tf22 rfl (kB hc7) rfl) ?_
  refine l_mv rfl rfl rfl (m_alloc tf58) ?_
  rintro _ _ ⟨b9, rfl, rfl⟩
  refine lv (v := Nx (k)) e_assign ?_
  refine lu (m_store 0 tf22 (cs' := (bC x3)) rfl rfl rfl rfl rfl rfl rfl) ?_
  refine lnc ?_
  refine lv (v := pp b9 0) (e_fieldPt rfl tf3) ?_
  refine lv (v := Ix (x3.id)) (e_load1 tf2 rfl (k_pt 0 rfl rfl)) ?_
  refine lv (v := Ix (i)) e_move ?_
  refine lv (e_eql (a := (x3.id)) (b := (i)) rfl rfl) ?_
  refine lnf ?_
  refine c_if ((x3.id) = (i)) rfl (fun hc10 => ?_) (fun hc10 => ?_)
  ·refine csr ?_
   refine lv (v := Nx (k)) e_move ?_
   refine lv (v := Nx (k)) e_assign ?_
   refine lnf ?_
   refine c_ret ?_
   refine f_block_ret ?_
   refine f_then_ret ?_
   refine f_then_ret ?_
   refine f_block_ret ?_
   refine f_then_ret ?_
   refine ret1 Tryz.results15 (v := Nx (k)) rfl ?_
   intro w hw
   exact ⟨congrArg (fun z : Int => Ending.returned (Ix z)) (idx_found hx4 (decide_eq_true hc10) hp).symm, st_mask [false] rfl hw⟩
  refine c_skip ?_
  refine f_block ?_
  refine f_then ?_
  refine c_region ?_
  refine lv (v := Nx (k + 1)) (e_add (a := ((k : Nat) : Int)) (b := (1 : Int)) rfl rfl (i64n (by omega) (by omega))) ?_
  refine lv (v := Nx (k + 1)) e_move ?_
  refine l_nil ?_
  refine f_mask (L' := []) [false] rfl ?_
  exact f_cut ⟨k + 1, ⟨⟨rfl, rfl, rfl, rfl⟩, rfl, ⟨by omega, idx_next hx4 (decide_eq_false hc10) hp⟩⟩, (show xs.length - (k + 1) < xs.length - k from by omega)⟩
 refine c_exit ?_
 refine f_then_exit ?_
 refine f_then_exit ?_
 refine f_exit ?_
 refine ftc ?_
 refine lv (v := .int .i64 (-1)) e_assign ?_
 refine lnf ?_
 refine c_ret ?_
 refine ret1 Tryz.results15 (v := .int .i64 (-1)) rfl ?_
 intro w hw
 exact ⟨congrArg (fun z : Int => Ending.returned (Ix z)) (idx_none (by omega) hp).symm, st_mask [] rfl hw⟩
end Go.Proofs
