/-
 Made, find, far: walked. Printed by a program of my own.
-/
import Derived.Test.YtbhkgodiencdlaaDoorSt9
import Derived.Test.YtbhkgodiencdlaaDoorStMade
namespace Go.Proofs
open Go Go.Sl Go.Stp
theorem tf114 : Tryd.prog.underlying 48 = some (.int .i8) := by kernel_rfl
theorem tf115 : Tryd.prog.underlying 47 = some (.slice 54) := by kernel_rfl
theorem tf116 : slB Tryd.prog 47 54 8 = true := by kernel_rfl
theorem tf117 : tyB Tryd.prog 54 true 8 = true := by kernel_rfl
theorem tf118 : (Tryd.prog.info? 54).bind (·.zero) = some (.agg #[.int .i8 (0), .int .i8 (0), .int .i8 (0), .int .i8 (0), .int .u8 (0), .int .u8 (0), .bool false, .bool false]) := by kernel_rfl
theorem tf119 : fldB Tryd.prog 54 0 0 1 false = true := by kernel_rfl
theorem tf120 : tyB Tryd.prog 48 false 1 = true := by kernel_rfl
theorem tf121 : fldB Tryd.prog 54 1 1 1 false = true := by kernel_rfl
theorem tf122 : fldB Tryd.prog 54 2 2 1 false = true := by kernel_rfl
theorem tf123 : fldB Tryd.prog 54 3 3 1 false = true := by kernel_rfl
theorem tf124 : fldB Tryd.prog 54 4 4 1 false = true := by kernel_rfl
theorem tf125 : Tryd.prog.underlying 5 = some (.int .u8) := by kernel_rfl
theorem tf126 : fldB Tryd.prog 54 5 5 1 false = true := by kernel_rfl
theorem tf127 : fldB Tryd.prog 54 6 6 1 false = true := by kernel_rfl
theorem tf128 : fldB Tryd.prog 54 7 7 1 false = true := by kernel_rfl
theorem tf129 : Tryd.prog.underlying 41 = some (.slice 5) := by kernel_rfl
theorem tf130 : slB Tryd.prog 41 5 1 = true := by kernel_rfl
theorem tf131 : cfB Tryd.prog 49 = true := by kernel_rfl
set_option maxHeartbeats 4000000 in
theorem made7_ok (β : Base) (w : World) (hw : St β [] w) (v u : Value) (fs : List KF) (us : List UInt8) (hs : Sl FormR β.heap v fs) (hu : Sl U8R β.heap u us) (gx gy : Int) (hgx8 : -128 ≤ gx ∧ gx ≤ 127) (hgy8 : -128 ≤ gy ∧ gy ≤ 127) : Calls Tryd.prog 49 #[v, u, .int .i8 gx, .int .i8 gy] w fun r w' => ∃ bs R p c p2 c2, r = .returned (.agg #[.slice p bs.length c, .slice p2 R.length c2, Ix (Int.tmod gx 32), Ix (Int.tmod gy 32)]) ∧ MadeP bs R (Int.tmod gx 32) (Int.tmod gy 32) ∧ bs.length = min fs.length 16 ∧ 2 * R.length ≤ us.length ∧ St β [rowF BodyF 31 p c bs, rowF RopeF 35 p2 c2 R] w' := by
 obtain ⟨va, vc, rfl, vl, vm, ve⟩ := hs.get
 obtain ⟨ua, uc, rfl, ul, um, ue⟩ := hu.get
 refine enter (n := 145) Tryd.func49 rfl Tryd.ntmps49 rfl ?_ hw
 refine c_seq ?_
 refine c_region ?_
 refine l_mv rfl rfl rfl (m_alloc tf85) ?_
 rintro _ _ ⟨b1, rfl, rfl⟩
 refine l_nil ?_
 refine f_then ?_
 refine c_seq ?_
 refine c_region ?_
 refine l_val (v := .int .i8 (gx)) rfl rfl rfl (e_move) ?_
 refine l_val (v := Ix (gx)) rfl rfl rfl (e_conv (a := (gx)) rfl ⟨_, tf114⟩ tf41 (i64w (by omega))) ?_
 refine l_val (v := Ix (Int.tmod (gx) 32)) rfl rfl rfl (e_rem (a := (gx)) (b := (32 : Int)) rfl rfl (by decide) rfl) ?_
 refine l_val (v := .int .i8 (gy)) rfl rfl rfl (e_move) ?_
 refine l_val (v := Ix (gy)) rfl rfl rfl (e_conv (a := (gy)) rfl ⟨_, tf114⟩ tf41 (i64w (by omega))) ?_
 refine l_val (v := Ix (Int.tmod (gy) 32)) rfl rfl rfl (e_rem (a := (gy)) (b := (32 : Int)) rfl rfl (by decide) rfl) ?_
 refine l_val (v := .agg #[Ix (Int.tmod (gx) 32), Ix (Int.tmod (gy) 32)]) rfl rfl rfl (e_build tf17 tf16 (vs := [(0, Ix (Int.tmod (gx) 32)), (1, Ix (Int.tmod (gy) 32))]) (cells := #[Ix (Int.tmod (gx) 32), Ix (Int.tmod (gy) 32)]) rfl rfl) ?_
 refine l_val (v := .agg #[.slice none 0 0, .slice none 0 0, Ix (Int.tmod (gx) 32), Ix (Int.tmod (gy) 32)]) rfl rfl rfl (e_build tf85 tf88 (vs := [(2, .agg #[Ix (Int.tmod (gx) 32), Ix (Int.tmod (gy) 32)])]) (cells := #[.slice none 0 0, .slice none 0 0, Ix (Int.tmod (gx) 32), Ix (Int.tmod (gy) 32)]) rfl rfl) ?_
 refine l_mv rfl rfl rfl (m_alloc tf85) ?_
 rintro _ _ ⟨b2, rfl, rfl⟩
 refine l_mu rfl rfl (m_store 0 tf86 (b := b2) (o := 0) (T := 27) (cs := #[.slice none 0 0, .slice none 0 0, .int .i64 (0), .int .i64 (0)]) (cs' := #[.slice none 0 0, .slice none 0 0, Ix (Int.tmod (gx) 32), Ix (Int.tmod (gy) 32)]) (v := .agg #[.slice none 0 0, .slice none 0 0, Ix (Int.tmod (gx) 32), Ix (Int.tmod (gy) 32)]) rfl rfl rfl rfl rfl rfl rfl) ?_
 refine l_nil ?_
 refine f_then ?_
 refine c_emp (r := rowF BodyF 31 none 0 []) (row_nil _ _ _) ?_
 have hgx := tmod_bd gx
 have hgy := tmod_bd gy
 obtain ⟨gX, hgX⟩ : ∃ z, z = Int.tmod gx 32 := ⟨_, rfl⟩
 obtain ⟨gY, hgY⟩ : ∃ z, z = Int.tmod gy 32 := ⟨_, rfl⟩
 rw [← hgX] at hgx
 rw [← hgY] at hgy
 rw [← hgX, ← hgY]
 refine c_seq_cut (fun (f : Fm) (L : List Res) => ∃ (n : Nat) (bs : List KB) (p : Option Addr) (c : Nat), (f 1 = .slice ua (us.length) (uc) ∧ f 8 = .pointer (some ⟨b1, 0, none⟩) ∧ f 9 = .pointer (some ⟨b2, 0, none⟩)) ∧ L = [rowF BodyF 31 p c bs, pt b2 (.cells #[.slice p (bs.length) c, .slice none 0 0, Ix (gX), Ix (gY)] 27), pt b1 (.cells #[.slice none 0 0, .slice none 0 0, .int .i64 (0), .int .i64 (0)] 27)] ∧ (bs.length ≤ 16 ∧ madeL bs ∧ bs.length = min fs.length 16)) ?_ ?_
 ·
  refine c_seq ?_
  refine c_region ?_
  refine l_val (v := .int .i64 (0)) rfl rfl rfl (e_assign) ?_
  refine l_nil ?_
  refine f_then ?_
  refine c_block ?_
  refine c_mask [true, true, true] rfl ?_
  refine c_loop (fun (x_ : Nat × List KB × Option Addr × Nat) (f : Fm) (L : List Res) => match x_ with | (n, bs, p, c) => (f 0 = .slice va (fs.length) (vc) ∧ f 1 = .slice ua (us.length) (uc) ∧ f 8 = .pointer (some ⟨b1, 0, none⟩) ∧ f 9 = .pointer (some ⟨b2, 0, none⟩) ∧ f 10 = Nx (n)) ∧ L = [rowF BodyF 31 p c bs, pt b2 (.cells #[.slice p (bs.length) c, .slice none 0 0, Ix (gX), Ix (gY)] 27), pt b1 (.cells #[.slice none 0 0, .slice none 0 0, .int .i64 (0), .int .i64 (0)] 27)] ∧ (n = bs.length ∧ n ≤ 16 ∧ n ≤ fs.length ∧ madeL bs)) (fun (x_ : Nat × List KB × Option Addr × Nat) => match x_ with | (n, bs, p, c) => fs.length - n) (0, [], none, 0) ?_ ?_
  ·exact ⟨⟨rfl, rfl, rfl, rfl, rfl⟩, rfl, ⟨rfl, by omega, by omega, madeL_nil⟩⟩
  rintro ⟨n, bs, p, c⟩ f0 L0 ⟨⟨hs0, hs1, hs8, hs9, hs10⟩, hL, ⟨hn1, hn2, hn3, hL⟩⟩
  subst L0
  refine rebase (d := 0) hs0 ?_
  refine rebase (d := 1) hs1 ?_
  refine rebase (d := 8) hs8 ?_
  refine rebase (d := 9) hs9 ?_
  refine rebase (d := 10) hs10 ?_
  clear hs0 hs1 hs8 hs9 hs10
  refine c_seq ?_
  refine c_seq ?_
  refine c_region ?_
  refine l_val (v := Nx (n)) rfl rfl rfl (e_move) ?_
  refine l_val (v := .slice va (fs.length) (vc)) rfl rfl rfl (e_move) ?_
  refine l_val (v := Nx (fs.length)) rfl rfl rfl (e_len (a := va) (n := fs.length) (c := vc) rfl tf115) ?_
  refine l_val (v := .bool (decide (((n : Nat) : Int) < ((fs.length : Nat) : Int)))) rfl rfl rfl (e_lss (a := ((n : Nat) : Int)) (b := ((fs.length : Nat) : Int)) rfl rfl) ?_
  refine l_val (v := .bool (decide (((n : Nat) : Int) < ((fs.length : Nat) : Int)))) rfl rfl rfl (e_move) ?_
  refine l_split (s := 29) (p := ((n : Nat) : Int) < ((fs.length : Nat) : Int)) rfl (fun hg3 => ?_) (fun hg3 => ?_)
  ·
   refine g_val (v := Nx (n)) rfl rfl rfl rfl rfl (e_move) ?_
   refine g_val (v := .bool (decide (((n : Nat) : Int) < (16 : Int)))) rfl rfl rfl rfl rfl (e_lss (a := ((n : Nat) : Int)) (b := (16 : Int)) rfl rfl) ?_
   refine l_val (v := .bool (decide (((n : Nat) : Int) < (16 : Int)))) rfl rfl rfl (e_pick_t rfl) ?_
   refine l_nil ?_
   refine f_then ?_
   refine c_if (((n : Nat) : Int) < (16 : Int)) rfl (fun hc4 => ?_) (fun hc4 => ?_)
   ·
    refine c_skip ?_
    refine f_then ?_
    refine c_seq ?_
    refine c_block ?_
    refine c_seq ?_
    refine c_region ?_
    refine l_val (v := .slice va (fs.length) (vc)) rfl rfl rfl (e_move) ?_
    refine l_val (v := Nx (n)) rfl rfl rfl (e_move) ?_
    obtain ⟨x5, hx6⟩ : ∃ x_, (fs)[n]? = some x_ := ⟨_, List.getElem?_eq_getElem (by omega)⟩
    obtain ⟨ha7, cs8, hc9, hr10⟩ := ve _ _ hx6
    obtain ⟨rfl, hFx5⟩ := hr10
    obtain ⟨hf1, hf2, hf3, hf4⟩ := hFx5
    refine l_val (v := .pointer (some ((ba va).add (n * 8)))) rfl rfl rfl (e_indexAddr (k := n) (len := fs.length) (cap := vc) (a := va) rfl rfl tf116 (by omega) ha7) ?_
    refine l_val (v := .agg #[.int .i8 (x5.x), .int .i8 (x5.y), .int .i8 (x5.vx), .int .i8 (x5.vy), Bx (x5.w), Bx (x5.h), .bool (x5.round), .bool (x5.fixed)]) rfl rfl rfl (e_load tf117 (cs := [.int .i8 (x5.x), .int .i8 (x5.y), .int .i8 (x5.vx), .int .i8 (x5.vy), Bx (x5.w), Bx (x5.h), .bool (x5.round), .bool (x5.fixed)]) rfl (Knows.of_base (Cs.mono _ _) hc9) rfl) ?_
    refine l_mv rfl rfl rfl (m_alloc tf118) ?_
    rintro _ _ ⟨b11, rfl, rfl⟩
    refine l_mu rfl rfl (m_store 0 tf117 (b := b11) (o := 0) (T := 54) (cs := #[.int .i8 (0), .int .i8 (0), .int .i8 (0), .int .i8 (0), .int .u8 (0), .int .u8 (0), .bool false, .bool false]) (cs' := #[.int .i8 (x5.x), .int .i8 (x5.y), .int .i8 (x5.vx), .int .i8 (x5.vy), Bx (x5.w), Bx (x5.h), .bool (x5.round), .bool (x5.fixed)]) (v := .agg #[.int .i8 (x5.x), .int .i8 (x5.y), .int .i8 (x5.vx), .int .i8 (x5.vy), Bx (x5.w), Bx (x5.h), .bool (x5.round), .bool (x5.fixed)]) rfl rfl rfl rfl rfl rfl rfl) ?_
    refine l_nil ?_
    refine f_then ?_
    refine c_seq ?_
    refine c_region ?_
    refine l_val (v := Nx (n)) rfl rfl rfl (e_move) ?_
    refine l_val (v := Nx (2 * n)) rfl rfl rfl (e_mul (a := (2 : Int)) (b := ((n : Nat) : Int)) rfl rfl (i64n (by omega) (by omega))) ?_
    refine l_val (v := Nx (1 + (2 * n))) rfl rfl rfl (e_add (a := (1 : Int)) (b := ((2 * n : Nat) : Int)) rfl rfl (i64n (by omega) (by omega))) ?_
    refine l_val (v := .pointer (some ⟨b11, 0, none⟩)) rfl rfl rfl (e_fieldPt (b := b11) (o := 0) rfl tf119) ?_
    refine l_val (v := .int .i8 (x5.x)) rfl rfl rfl (e_load1 tf120 (v := .int .i8 (x5.x)) rfl (k_pt 0 (cs := #[.int .i8 (x5.x), .int .i8 (x5.y), .int .i8 (x5.vx), .int .i8 (x5.vy), Bx (x5.w), Bx (x5.h), .bool (x5.round), .bool (x5.fixed)]) (vs := [.int .i8 (x5.x)]) rfl rfl)) ?_
    refine l_val (v := Ix (x5.x)) rfl rfl rfl (e_conv (a := (x5.x)) rfl ⟨_, tf114⟩ tf41 (i64w (by omega))) ?_
    refine l_val (v := Ix ((3 : Int) * (x5.x))) rfl rfl rfl (e_mul (a := (3 : Int)) (b := (x5.x)) rfl rfl (i64w (by omega))) ?_
    refine l_val (v := .pointer (some ⟨b11, 1, none⟩)) rfl rfl rfl (e_fieldPt (b := b11) (o := 0) rfl tf121) ?_
    refine l_val (v := .int .i8 (x5.y)) rfl rfl rfl (e_load1 tf120 (v := .int .i8 (x5.y)) rfl (k_pt 0 (cs := #[.int .i8 (x5.x), .int .i8 (x5.y), .int .i8 (x5.vx), .int .i8 (x5.vy), Bx (x5.w), Bx (x5.h), .bool (x5.round), .bool (x5.fixed)]) (vs := [.int .i8 (x5.y)]) rfl rfl)) ?_
    refine l_val (v := Ix (x5.y)) rfl rfl rfl (e_conv (a := (x5.y)) rfl ⟨_, tf114⟩ tf41 (i64w (by omega))) ?_
    refine l_val (v := Ix ((3 : Int) * (x5.y))) rfl rfl rfl (e_mul (a := (3 : Int)) (b := (x5.y)) rfl rfl (i64w (by omega))) ?_
    refine l_val (v := .agg #[Ix ((3 : Int) * (x5.x)), Ix ((3 : Int) * (x5.y))]) rfl rfl rfl (e_build tf17 tf16 (vs := [(0, Ix ((3 : Int) * (x5.x))), (1, Ix ((3 : Int) * (x5.y)))]) (cells := #[Ix ((3 : Int) * (x5.x)), Ix ((3 : Int) * (x5.y))]) rfl rfl) ?_
    refine l_val (v := .pointer (some ⟨b11, 2, none⟩)) rfl rfl rfl (e_fieldPt (b := b11) (o := 0) rfl tf122) ?_
    refine l_val (v := .int .i8 (x5.vx)) rfl rfl rfl (e_load1 tf120 (v := .int .i8 (x5.vx)) rfl (k_pt 0 (cs := #[.int .i8 (x5.x), .int .i8 (x5.y), .int .i8 (x5.vx), .int .i8 (x5.vy), Bx (x5.w), Bx (x5.h), .bool (x5.round), .bool (x5.fixed)]) (vs := [.int .i8 (x5.vx)]) rfl rfl)) ?_
    refine l_val (v := Ix (x5.vx)) rfl rfl rfl (e_conv (a := (x5.vx)) rfl ⟨_, tf114⟩ tf41 (i64w (by omega))) ?_
    refine l_val (v := .pointer (some ⟨b11, 3, none⟩)) rfl rfl rfl (e_fieldPt (b := b11) (o := 0) rfl tf123) ?_
    refine l_val (v := .int .i8 (x5.vy)) rfl rfl rfl (e_load1 tf120 (v := .int .i8 (x5.vy)) rfl (k_pt 0 (cs := #[.int .i8 (x5.x), .int .i8 (x5.y), .int .i8 (x5.vx), .int .i8 (x5.vy), Bx (x5.w), Bx (x5.h), .bool (x5.round), .bool (x5.fixed)]) (vs := [.int .i8 (x5.vy)]) rfl rfl)) ?_
    refine l_val (v := Ix (x5.vy)) rfl rfl rfl (e_conv (a := (x5.vy)) rfl ⟨_, tf114⟩ tf41 (i64w (by omega))) ?_
    refine l_val (v := .agg #[Ix (x5.vx), Ix (x5.vy)]) rfl rfl rfl (e_build tf17 tf16 (vs := [(0, Ix (x5.vx)), (1, Ix (x5.vy))]) (cells := #[Ix (x5.vx), Ix (x5.vy)]) rfl rfl) ?_
    refine l_val (v := .pointer (some ⟨b11, 4, none⟩)) rfl rfl rfl (e_fieldPt (b := b11) (o := 0) rfl tf124) ?_
    refine l_val (v := Bx (x5.w)) rfl rfl rfl (e_load1 tf97 (v := Bx (x5.w)) rfl (k_pt 0 (cs := #[.int .i8 (x5.x), .int .i8 (x5.y), .int .i8 (x5.vx), .int .i8 (x5.vy), Bx (x5.w), Bx (x5.h), .bool (x5.round), .bool (x5.fixed)]) (vs := [Bx (x5.w)]) rfl rfl)) ?_
    refine l_val (v := Nx (x5.w.toNat)) rfl rfl rfl (e_conv (a := ((x5.w).toNat : Int)) rfl ⟨_, tf125⟩ tf41 (i64n rfl (by have := (x5.w).toNat_lt; omega))) ?_
    refine l_val (v := Nx (x5.w.toNat % 40)) rfl rfl rfl (e_rem (a := ((x5.w.toNat : Nat) : Int)) (b := (40 : Int)) rfl rfl (by decide) (nat_tmod _ 40)) ?_
    refine l_val (v := Nx (1 + (x5.w.toNat % 40))) rfl rfl rfl (e_add (a := (1 : Int)) (b := ((x5.w.toNat % 40 : Nat) : Int)) rfl rfl (i64n (by omega) (by omega))) ?_
    refine l_val (v := .pointer (some ⟨b11, 5, none⟩)) rfl rfl rfl (e_fieldPt (b := b11) (o := 0) rfl tf126) ?_
    refine l_val (v := Bx (x5.h)) rfl rfl rfl (e_load1 tf97 (v := Bx (x5.h)) rfl (k_pt 0 (cs := #[.int .i8 (x5.x), .int .i8 (x5.y), .int .i8 (x5.vx), .int .i8 (x5.vy), Bx (x5.w), Bx (x5.h), .bool (x5.round), .bool (x5.fixed)]) (vs := [Bx (x5.h)]) rfl rfl)) ?_
    refine l_val (v := Nx (x5.h.toNat)) rfl rfl rfl (e_conv (a := ((x5.h).toNat : Int)) rfl ⟨_, tf125⟩ tf41 (i64n rfl (by have := (x5.h).toNat_lt; omega))) ?_
    refine l_val (v := Nx (x5.h.toNat % 40)) rfl rfl rfl (e_rem (a := ((x5.h.toNat : Nat) : Int)) (b := (40 : Int)) rfl rfl (by decide) (nat_tmod _ 40)) ?_
    refine l_val (v := Nx (1 + (x5.h.toNat % 40))) rfl rfl rfl (e_add (a := (1 : Int)) (b := ((x5.h.toNat % 40 : Nat) : Int)) rfl rfl (i64n (by omega) (by omega))) ?_
    refine l_val (v := .pointer (some ⟨b11, 6, none⟩)) rfl rfl rfl (e_fieldPt (b := b11) (o := 0) rfl tf127) ?_
    refine l_val (v := .bool (x5.round)) rfl rfl rfl (e_load1 tf13 (v := .bool (x5.round)) rfl (k_pt 0 (cs := #[.int .i8 (x5.x), .int .i8 (x5.y), .int .i8 (x5.vx), .int .i8 (x5.vy), Bx (x5.w), Bx (x5.h), .bool (x5.round), .bool (x5.fixed)]) (vs := [.bool (x5.round)]) rfl rfl)) ?_
    refine l_val (v := .pointer (some ⟨b11, 7, none⟩)) rfl rfl rfl (e_fieldPt (b := b11) (o := 0) rfl tf128) ?_
    refine l_val (v := .bool (x5.fixed)) rfl rfl rfl (e_load1 tf13 (v := .bool (x5.fixed)) rfl (k_pt 0 (cs := #[.int .i8 (x5.x), .int .i8 (x5.y), .int .i8 (x5.vx), .int .i8 (x5.vy), Bx (x5.w), Bx (x5.h), .bool (x5.round), .bool (x5.fixed)]) (vs := [.bool (x5.fixed)]) rfl rfl)) ?_
    refine l_val (v := .agg #[Nx (1 + (2 * n)), Ix ((3 : Int) * (x5.x)), Ix ((3 : Int) * (x5.y)), Ix (x5.vx), Ix (x5.vy), Nx (1 + (x5.w.toNat % 40)), Nx (1 + (x5.h.toNat % 40)), .bool (x5.round), .bool (x5.fixed)]) rfl rfl rfl (e_build tf58 tf102 (vs := [(0, Nx (1 + (2 * n))), (1, .agg #[Ix ((3 : Int) * (x5.x)), Ix ((3 : Int) * (x5.y))]), (2, .agg #[Ix (x5.vx), Ix (x5.vy)]), (3, Nx (1 + (x5.w.toNat % 40))), (4, Nx (1 + (x5.h.toNat % 40))), (5, .bool (x5.round)), (6, .bool (x5.fixed))]) (cells := #[Nx (1 + (2 * n)), Ix ((3 : Int) * (x5.x)), Ix ((3 : Int) * (x5.y)), Ix (x5.vx), Ix (x5.vy), Nx (1 + (x5.w.toNat % 40)), Nx (1 + (x5.h.toNat % 40)), .bool (x5.round), .bool (x5.fixed)]) rfl (by kernel_rfl)) ?_
    refine l_mv rfl rfl rfl (m_alloc tf58) ?_
    rintro _ _ ⟨b12, rfl, rfl⟩
    refine l_mu rfl rfl (m_store 0 tf22 (b := b12) (o := 0) (T := 31) (cs := #[.int .i64 (0), .int .i64 (0), .int .i64 (0), .int .i64 (0), .int .i64 (0), .int .i64 (0), .int .i64 (0), .bool false, .bool false]) (cs' := #[Nx (1 + (2 * n)), Ix ((3 : Int) * (x5.x)), Ix ((3 : Int) * (x5.y)), Ix (x5.vx), Ix (x5.vy), Nx (1 + (x5.w.toNat % 40)), Nx (1 + (x5.h.toNat % 40)), .bool (x5.round), .bool (x5.fixed)]) (v := .agg #[Nx (1 + (2 * n)), Ix ((3 : Int) * (x5.x)), Ix ((3 : Int) * (x5.y)), Ix (x5.vx), Ix (x5.vy), Nx (1 + (x5.w.toNat % 40)), Nx (1 + (x5.h.toNat % 40)), .bool (x5.round), .bool (x5.fixed)]) rfl rfl rfl rfl rfl rfl rfl) ?_
    refine l_nil ?_
    refine f_then ?_
    refine c_seq ?_
    refine c_seq ?_
    refine c_region ?_
    refine l_val (v := .pointer (some ⟨b12, 7, none⟩)) rfl rfl rfl (e_fieldPt (b := b12) (o := 0) rfl tf12) ?_
    refine l_val (v := .bool (x5.round)) rfl rfl rfl (e_load1 tf13 (v := .bool (x5.round)) rfl (k_pt 0 (cs := #[Nx (1 + (2 * n)), Ix ((3 : Int) * (x5.x)), Ix ((3 : Int) * (x5.y)), Ix (x5.vx), Ix (x5.vy), Nx (1 + (x5.w.toNat % 40)), Nx (1 + (x5.h.toNat % 40)), .bool (x5.round), .bool (x5.fixed)]) (vs := [.bool (x5.round)]) rfl rfl)) ?_
    refine l_nil ?_
    refine f_then ?_
    refine c_ifb (x5.round) rfl (fun hc13 => ?_) (fun hc13 => ?_)
    ·
     refine c_region ?_
     refine l_val (v := .pointer (some ⟨b12, 5, none⟩)) rfl rfl rfl (e_fieldPt (b := b12) (o := 0) rfl tf10) ?_
     refine l_val (v := Nx (1 + (x5.w.toNat % 40))) rfl rfl rfl (e_load1 tf2 (v := Nx (1 + (x5.w.toNat % 40))) rfl (k_pt 0 (cs := #[Nx (1 + (2 * n)), Ix ((3 : Int) * (x5.x)), Ix ((3 : Int) * (x5.y)), Ix (x5.vx), Ix (x5.vy), Nx (1 + (x5.w.toNat % 40)), Nx (1 + (x5.h.toNat % 40)), .bool (x5.round), .bool (x5.fixed)]) (vs := [Nx (1 + (x5.w.toNat % 40))]) rfl rfl)) ?_
     refine l_val (v := .pointer (some ⟨b12, 6, none⟩)) rfl rfl rfl (e_fieldPt (b := b12) (o := 0) rfl tf11) ?_
     refine l_mu rfl rfl (m_store 0 tf2 (b := b12) (o := 6) (T := 31) (cs := #[Nx (1 + (2 * n)), Ix ((3 : Int) * (x5.x)), Ix ((3 : Int) * (x5.y)), Ix (x5.vx), Ix (x5.vy), Nx (1 + (x5.w.toNat % 40)), Nx (1 + (x5.h.toNat % 40)), .bool (x5.round), .bool (x5.fixed)]) (cs' := #[Nx (1 + (2 * n)), Ix ((3 : Int) * (x5.x)), Ix ((3 : Int) * (x5.y)), Ix (x5.vx), Ix (x5.vy), Nx (1 + (x5.w.toNat % 40)), Nx (1 + (x5.w.toNat % 40)), .bool (x5.round), .bool (x5.fixed)]) (v := Nx (1 + (x5.w.toNat % 40))) rfl rfl rfl rfl rfl rfl rfl) ?_
     refine l_nil ?_
     refine f_then ?_
     refine c_seq ?_
     refine c_seq ?_
     refine c_region ?_
     refine l_val (v := .pointer (some ⟨b12, 8, none⟩)) rfl rfl rfl (e_fieldPt (b := b12) (o := 0) rfl tf14) ?_
     refine l_val (v := .bool (x5.fixed)) rfl rfl rfl (e_load1 tf13 (v := .bool (x5.fixed)) rfl (k_pt 0 (cs := #[Nx (1 + (2 * n)), Ix ((3 : Int) * (x5.x)), Ix ((3 : Int) * (x5.y)), Ix (x5.vx), Ix (x5.vy), Nx (1 + (x5.w.toNat % 40)), Nx (1 + (x5.w.toNat % 40)), .bool (x5.round), .bool (x5.fixed)]) (vs := [.bool (x5.fixed)]) rfl rfl)) ?_
     refine l_nil ?_
     refine f_then ?_
     refine c_ifb (x5.fixed) rfl (fun hc14 => ?_) (fun hc14 => ?_)
     ·
      refine c_region ?_
      refine l_val (v := .agg #[.int .i64 (0), .int .i64 (0)]) rfl rfl rfl (e_build tf17 tf16 (vs := []) (cells := #[.int .i64 (0), .int .i64 (0)]) rfl rfl) ?_
      refine l_val (v := .pointer (some ⟨b12, 3, none⟩)) rfl rfl rfl (e_fieldPt (b := b12) (o := 0) rfl tf9) ?_
      refine l_mu rfl rfl (m_store 0 tf15 (b := b12) (o := 3) (T := 31) (cs := #[Nx (1 + (2 * n)), Ix ((3 : Int) * (x5.x)), Ix ((3 : Int) * (x5.y)), Ix (x5.vx), Ix (x5.vy), Nx (1 + (x5.w.toNat % 40)), Nx (1 + (x5.w.toNat % 40)), .bool (x5.round), .bool (x5.fixed)]) (cs' := #[Nx (1 + (2 * n)), Ix ((3 : Int) * (x5.x)), Ix ((3 : Int) * (x5.y)), .int .i64 (0), .int .i64 (0), Nx (1 + (x5.w.toNat % 40)), Nx (1 + (x5.w.toNat % 40)), .bool (x5.round), .bool (x5.fixed)]) (v := .agg #[.int .i64 (0), .int .i64 (0)]) rfl rfl rfl rfl rfl rfl rfl) ?_
      refine l_nil ?_
      refine f_then ?_
      obtain ⟨nb, hnb⟩ : ∃ z, z = (⟨((1 + (2 * n) : Nat) : Int), (3 : Int) * (x5.x), (3 : Int) * (x5.y), 0, 0, ((1 + (x5.w.toNat % 40) : Nat) : Int), ((1 + (x5.w.toNat % 40) : Nat) : Int), x5.round, x5.fixed⟩ : KB) := ⟨_, rfl⟩
      have hnbm : nb = madeB x5 n := by rw [hnb]; unfold madeB; simp [hc13, hc14]
      refine c_region ?_
      refine l_val (v := .pointer (some ⟨b2, 0, none⟩)) rfl rfl rfl (e_fieldPt (b := b2) (o := 0) rfl tf49) ?_
      refine l_val (v := .slice p (bs.length) c) rfl rfl rfl (e_load1 tf50 (v := .slice p (bs.length) c) rfl (k_pt 3 (cs := #[.slice p (bs.length) c, .slice none 0 0, Ix (gX), Ix (gY)]) (vs := [.slice p (bs.length) c]) rfl rfl)) ?_
      refine l_val (v := .agg #[Nx (1 + (2 * n)), Ix ((3 : Int) * (x5.x)), Ix ((3 : Int) * (x5.y)), .int .i64 (0), .int .i64 (0), Nx (1 + (x5.w.toNat % 40)), Nx (1 + (x5.w.toNat % 40)), .bool (x5.round), .bool (x5.fixed)]) rfl rfl rfl (e_load tf22 (cs := [Nx (1 + (2 * n)), Ix ((3 : Int) * (x5.x)), Ix ((3 : Int) * (x5.y)), .int .i64 (0), .int .i64 (0), Nx (1 + (x5.w.toNat % 40)), Nx (1 + (x5.w.toNat % 40)), .bool (x5.round), .bool (x5.fixed)]) rfl (k_pt 0 (cs := #[Nx (1 + (2 * n)), Ix ((3 : Int) * (x5.x)), Ix ((3 : Int) * (x5.y)), .int .i64 (0), .int .i64 (0), Nx (1 + (x5.w.toNat % 40)), Nx (1 + (x5.w.toNat % 40)), .bool (x5.round), .bool (x5.fixed)]) (vs := [Nx (1 + (2 * n)), Ix ((3 : Int) * (x5.x)), Ix ((3 : Int) * (x5.y)), .int .i64 (0), .int .i64 (0), Nx (1 + (x5.w.toNat % 40)), Nx (1 + (x5.w.toNat % 40)), .bool (x5.round), .bool (x5.fixed)]) rfl rfl) rfl) ?_
      refine l_mv rfl rfl rfl (m_slices tf43 tf58 (vs := [(0, .agg #[Nx (1 + (2 * n)), Ix ((3 : Int) * (x5.x)), Ix ((3 : Int) * (x5.y)), .int .i64 (0), .int .i64 (0), Nx (1 + (x5.w.toNat % 40)), Nx (1 + (x5.w.toNat % 40)), .bool (x5.round), .bool (x5.fixed)])]) (cells := #[Nx (1 + (2 * n)), Ix ((3 : Int) * (x5.x)), Ix ((3 : Int) * (x5.y)), .int .i64 (0), .int .i64 (0), Nx (1 + (x5.w.toNat % 40)), Nx (1 + (x5.w.toNat % 40)), .bool (x5.round), .bool (x5.fixed)]) rfl rfl rfl (by kernel_rfl)) ?_
      rintro _ _ ⟨b15, rfl, rfl⟩
      refine l_mv rfl rfl rfl (m_appendFlN (F := BodyF) 3 tf43 tf83 (p := p) (m := bs.length) (xs := bs) (ys := [nb]) (ao := (some ⟨b15, 0, none⟩)) (k := 1) (c := 1) rfl rfl rfl rfl rfl (k_ptFl (z := nb) 0 rfl (by rw [hnb])) (by first | omega | simp only [List.length_nil, List.length_cons, List.length_append, List.length_set]; omega) (by first | omega | simp only [List.length_nil, List.length_cons, List.length_append, List.length_set]; omega)) ?_
      rintro _ _ ⟨rp16, rc17, rfl, rfl⟩
      refine l_val (v := .pointer (some ⟨b2, 0, none⟩)) rfl rfl rfl (e_fieldPt (b := b2) (o := 0) rfl tf49) ?_
      refine l_mu rfl rfl (m_store 4 tf50 (b := b2) (o := 0) (T := 27) (cs := #[.slice p (bs.length) c, .slice none 0 0, Ix (gX), Ix (gY)]) (cs' := #[.slice rp16 ((bs ++ [nb]).length) rc17, .slice none 0 0, Ix (gX), Ix (gY)]) (v := .slice rp16 ((bs ++ [nb]).length) rc17) rfl rfl rfl rfl rfl rfl rfl) ?_
      refine l_nil ?_
      refine f_block ?_
      refine f_then ?_
      refine c_region ?_
      refine l_val (v := Nx (n)) rfl rfl rfl (e_move) ?_
      refine l_val (v := Nx (n + 1)) rfl rfl rfl (e_add (a := ((n : Nat) : Int)) (b := (1 : Int)) rfl rfl (i64n (by omega) (by omega))) ?_
      refine l_val (v := Nx (n + 1)) rfl rfl rfl (e_assign) ?_
      refine l_nil ?_
      refine f_mask (L' := [rowF BodyF 31 rp16 rc17 (bs ++ [nb]), pt b2 (.cells #[.slice rp16 ((bs ++ [nb]).length) rc17, .slice none 0 0, Ix (gX), Ix (gY)] 27), pt b1 (.cells #[.slice none 0 0, .slice none 0 0, .int .i64 (0), .int .i64 (0)] 27)]) [false, false, false, true, true, true] rfl ?_
      exact f_cut ⟨(n + 1, (bs ++ [nb]), rp16, rc17), ⟨⟨rfl, rfl, rfl, rfl, rfl⟩, rfl, ⟨by rw [List.length_append]; simp only [List.length_cons, List.length_nil]; omega, by omega, by omega, madeL_snoc hL (by rw [hnb]; show ((1 + 2 * n : Nat) : Int) = _; rw [hn1]) (by rw [hnbm]; exact madeB_ok ⟨hf1, hf2, hf3, hf4⟩ (by omega)) (by rw [hnbm]; exact madeB_x ⟨hf1, hf2, hf3, hf4⟩ n)⟩⟩, (show fs.length - (n + 1) < fs.length - n from by omega)⟩
     ·
      refine c_skip ?_
      refine f_then ?_
      obtain ⟨nb, hnb⟩ : ∃ z, z = (⟨((1 + (2 * n) : Nat) : Int), (3 : Int) * (x5.x), (3 : Int) * (x5.y), x5.vx, x5.vy, ((1 + (x5.w.toNat % 40) : Nat) : Int), ((1 + (x5.w.toNat % 40) : Nat) : Int), x5.round, x5.fixed⟩ : KB) := ⟨_, rfl⟩
      have hnbm : nb = madeB x5 n := by rw [hnb]; unfold madeB; simp [hc13, hc14]
      refine c_region ?_
      refine l_val (v := .pointer (some ⟨b2, 0, none⟩)) rfl rfl rfl (e_fieldPt (b := b2) (o := 0) rfl tf49) ?_
      refine l_val (v := .slice p (bs.length) c) rfl rfl rfl (e_load1 tf50 (v := .slice p (bs.length) c) rfl (k_pt 3 (cs := #[.slice p (bs.length) c, .slice none 0 0, Ix (gX), Ix (gY)]) (vs := [.slice p (bs.length) c]) rfl rfl)) ?_
      refine l_val (v := .agg #[Nx (1 + (2 * n)), Ix ((3 : Int) * (x5.x)), Ix ((3 : Int) * (x5.y)), Ix (x5.vx), Ix (x5.vy), Nx (1 + (x5.w.toNat % 40)), Nx (1 + (x5.w.toNat % 40)), .bool (x5.round), .bool (x5.fixed)]) rfl rfl rfl (e_load tf22 (cs := [Nx (1 + (2 * n)), Ix ((3 : Int) * (x5.x)), Ix ((3 : Int) * (x5.y)), Ix (x5.vx), Ix (x5.vy), Nx (1 + (x5.w.toNat % 40)), Nx (1 + (x5.w.toNat % 40)), .bool (x5.round), .bool (x5.fixed)]) rfl (k_pt 0 (cs := #[Nx (1 + (2 * n)), Ix ((3 : Int) * (x5.x)), Ix ((3 : Int) * (x5.y)), Ix (x5.vx), Ix (x5.vy), Nx (1 + (x5.w.toNat % 40)), Nx (1 + (x5.w.toNat % 40)), .bool (x5.round), .bool (x5.fixed)]) (vs := [Nx (1 + (2 * n)), Ix ((3 : Int) * (x5.x)), Ix ((3 : Int) * (x5.y)), Ix (x5.vx), Ix (x5.vy), Nx (1 + (x5.w.toNat % 40)), Nx (1 + (x5.w.toNat % 40)), .bool (x5.round), .bool (x5.fixed)]) rfl rfl) rfl) ?_
      refine l_mv rfl rfl rfl (m_slices tf43 tf58 (vs := [(0, .agg #[Nx (1 + (2 * n)), Ix ((3 : Int) * (x5.x)), Ix ((3 : Int) * (x5.y)), Ix (x5.vx), Ix (x5.vy), Nx (1 + (x5.w.toNat % 40)), Nx (1 + (x5.w.toNat % 40)), .bool (x5.round), .bool (x5.fixed)])]) (cells := #[Nx (1 + (2 * n)), Ix ((3 : Int) * (x5.x)), Ix ((3 : Int) * (x5.y)), Ix (x5.vx), Ix (x5.vy), Nx (1 + (x5.w.toNat % 40)), Nx (1 + (x5.w.toNat % 40)), .bool (x5.round), .bool (x5.fixed)]) rfl rfl rfl (by kernel_rfl)) ?_
      rintro _ _ ⟨b18, rfl, rfl⟩
      refine l_mv rfl rfl rfl (m_appendFlN (F := BodyF) 3 tf43 tf83 (p := p) (m := bs.length) (xs := bs) (ys := [nb]) (ao := (some ⟨b18, 0, none⟩)) (k := 1) (c := 1) rfl rfl rfl rfl rfl (k_ptFl (z := nb) 0 rfl (by rw [hnb])) (by first | omega | simp only [List.length_nil, List.length_cons, List.length_append, List.length_set]; omega) (by first | omega | simp only [List.length_nil, List.length_cons, List.length_append, List.length_set]; omega)) ?_
      rintro _ _ ⟨rp19, rc20, rfl, rfl⟩
      refine l_val (v := .pointer (some ⟨b2, 0, none⟩)) rfl rfl rfl (e_fieldPt (b := b2) (o := 0) rfl tf49) ?_
      refine l_mu rfl rfl (m_store 4 tf50 (b := b2) (o := 0) (T := 27) (cs := #[.slice p (bs.length) c, .slice none 0 0, Ix (gX), Ix (gY)]) (cs' := #[.slice rp19 ((bs ++ [nb]).length) rc20, .slice none 0 0, Ix (gX), Ix (gY)]) (v := .slice rp19 ((bs ++ [nb]).length) rc20) rfl rfl rfl rfl rfl rfl rfl) ?_
      refine l_nil ?_
      refine f_block ?_
      refine f_then ?_
      refine c_region ?_
      refine l_val (v := Nx (n)) rfl rfl rfl (e_move) ?_
      refine l_val (v := Nx (n + 1)) rfl rfl rfl (e_add (a := ((n : Nat) : Int)) (b := (1 : Int)) rfl rfl (i64n (by omega) (by omega))) ?_
      refine l_val (v := Nx (n + 1)) rfl rfl rfl (e_assign) ?_
      refine l_nil ?_
      refine f_mask (L' := [rowF BodyF 31 rp19 rc20 (bs ++ [nb]), pt b2 (.cells #[.slice rp19 ((bs ++ [nb]).length) rc20, .slice none 0 0, Ix (gX), Ix (gY)] 27), pt b1 (.cells #[.slice none 0 0, .slice none 0 0, .int .i64 (0), .int .i64 (0)] 27)]) [false, false, false, true, true, true] rfl ?_
      exact f_cut ⟨(n + 1, (bs ++ [nb]), rp19, rc20), ⟨⟨rfl, rfl, rfl, rfl, rfl⟩, rfl, ⟨by rw [List.length_append]; simp only [List.length_cons, List.length_nil]; omega, by omega, by omega, madeL_snoc hL (by rw [hnb]; show ((1 + 2 * n : Nat) : Int) = _; rw [hn1]) (by rw [hnbm]; exact madeB_ok ⟨hf1, hf2, hf3, hf4⟩ (by omega)) (by rw [hnbm]; exact madeB_x ⟨hf1, hf2, hf3, hf4⟩ n)⟩⟩, (show fs.length - (n + 1) < fs.length - n from by omega)⟩
    ·
     refine c_skip ?_
     refine f_then ?_
     refine c_seq ?_
     refine c_seq ?_
     refine c_region ?_
     refine l_val (v := .pointer (some ⟨b12, 8, none⟩)) rfl rfl rfl (e_fieldPt (b := b12) (o := 0) rfl tf14) ?_
     refine l_val (v := .bool (x5.fixed)) rfl rfl rfl (e_load1 tf13 (v := .bool (x5.fixed)) rfl (k_pt 0 (cs := #[Nx (1 + (2 * n)), Ix ((3 : Int) * (x5.x)), Ix ((3 : Int) * (x5.y)), Ix (x5.vx), Ix (x5.vy), Nx (1 + (x5.w.toNat % 40)), Nx (1 + (x5.h.toNat % 40)), .bool (x5.round), .bool (x5.fixed)]) (vs := [.bool (x5.fixed)]) rfl rfl)) ?_
     refine l_nil ?_
     refine f_then ?_
     refine c_ifb (x5.fixed) rfl (fun hc21 => ?_) (fun hc21 => ?_)
     ·
      refine c_region ?_
      refine l_val (v := .agg #[.int .i64 (0), .int .i64 (0)]) rfl rfl rfl (e_build tf17 tf16 (vs := []) (cells := #[.int .i64 (0), .int .i64 (0)]) rfl rfl) ?_
      refine l_val (v := .pointer (some ⟨b12, 3, none⟩)) rfl rfl rfl (e_fieldPt (b := b12) (o := 0) rfl tf9) ?_
      refine l_mu rfl rfl (m_store 0 tf15 (b := b12) (o := 3) (T := 31) (cs := #[Nx (1 + (2 * n)), Ix ((3 : Int) * (x5.x)), Ix ((3 : Int) * (x5.y)), Ix (x5.vx), Ix (x5.vy), Nx (1 + (x5.w.toNat % 40)), Nx (1 + (x5.h.toNat % 40)), .bool (x5.round), .bool (x5.fixed)]) (cs' := #[Nx (1 + (2 * n)), Ix ((3 : Int) * (x5.x)), Ix ((3 : Int) * (x5.y)), .int .i64 (0), .int .i64 (0), Nx (1 + (x5.w.toNat % 40)), Nx (1 + (x5.h.toNat % 40)), .bool (x5.round), .bool (x5.fixed)]) (v := .agg #[.int .i64 (0), .int .i64 (0)]) rfl rfl rfl rfl rfl rfl rfl) ?_
      refine l_nil ?_
      refine f_then ?_
      obtain ⟨nb, hnb⟩ : ∃ z, z = (⟨((1 + (2 * n) : Nat) : Int), (3 : Int) * (x5.x), (3 : Int) * (x5.y), 0, 0, ((1 + (x5.w.toNat % 40) : Nat) : Int), ((1 + (x5.h.toNat % 40) : Nat) : Int), x5.round, x5.fixed⟩ : KB) := ⟨_, rfl⟩
      have hnbm : nb = madeB x5 n := by rw [hnb]; unfold madeB; simp [hc13, hc21]
      refine c_region ?_
      refine l_val (v := .pointer (some ⟨b2, 0, none⟩)) rfl rfl rfl (e_fieldPt (b := b2) (o := 0) rfl tf49) ?_
      refine l_val (v := .slice p (bs.length) c) rfl rfl rfl (e_load1 tf50 (v := .slice p (bs.length) c) rfl (k_pt 3 (cs := #[.slice p (bs.length) c, .slice none 0 0, Ix (gX), Ix (gY)]) (vs := [.slice p (bs.length) c]) rfl rfl)) ?_
      refine l_val (v := .agg #[Nx (1 + (2 * n)), Ix ((3 : Int) * (x5.x)), Ix ((3 : Int) * (x5.y)), .int .i64 (0), .int .i64 (0), Nx (1 + (x5.w.toNat % 40)), Nx (1 + (x5.h.toNat % 40)), .bool (x5.round), .bool (x5.fixed)]) rfl rfl rfl (e_load tf22 (cs := [Nx (1 + (2 * n)), Ix ((3 : Int) * (x5.x)), Ix ((3 : Int) * (x5.y)), .int .i64 (0), .int .i64 (0), Nx (1 + (x5.w.toNat % 40)), Nx (1 + (x5.h.toNat % 40)), .bool (x5.round), .bool (x5.fixed)]) rfl (k_pt 0 (cs := #[Nx (1 + (2 * n)), Ix ((3 : Int) * (x5.x)), Ix ((3 : Int) * (x5.y)), .int .i64 (0), .int .i64 (0), Nx (1 + (x5.w.toNat % 40)), Nx (1 + (x5.h.toNat % 40)), .bool (x5.round), .bool (x5.fixed)]) (vs := [Nx (1 + (2 * n)), Ix ((3 : Int) * (x5.x)), Ix ((3 : Int) * (x5.y)), .int .i64 (0), .int .i64 (0), Nx (1 + (x5.w.toNat % 40)), Nx (1 + (x5.h.toNat % 40)), .bool (x5.round), .bool (x5.fixed)]) rfl rfl) rfl) ?_
      refine l_mv rfl rfl rfl (m_slices tf43 tf58 (vs := [(0, .agg #[Nx (1 + (2 * n)), Ix ((3 : Int) * (x5.x)), Ix ((3 : Int) * (x5.y)), .int .i64 (0), .int .i64 (0), Nx (1 + (x5.w.toNat % 40)), Nx (1 + (x5.h.toNat % 40)), .bool (x5.round), .bool (x5.fixed)])]) (cells := #[Nx (1 + (2 * n)), Ix ((3 : Int) * (x5.x)), Ix ((3 : Int) * (x5.y)), .int .i64 (0), .int .i64 (0), Nx (1 + (x5.w.toNat % 40)), Nx (1 + (x5.h.toNat % 40)), .bool (x5.round), .bool (x5.fixed)]) rfl rfl rfl (by kernel_rfl)) ?_
      rintro _ _ ⟨b22, rfl, rfl⟩
      refine l_mv rfl rfl rfl (m_appendFlN (F := BodyF) 3 tf43 tf83 (p := p) (m := bs.length) (xs := bs) (ys := [nb]) (ao := (some ⟨b22, 0, none⟩)) (k := 1) (c := 1) rfl rfl rfl rfl rfl (k_ptFl (z := nb) 0 rfl (by rw [hnb])) (by first | omega | simp only [List.length_nil, List.length_cons, List.length_append, List.length_set]; omega) (by first | omega | simp only [List.length_nil, List.length_cons, List.length_append, List.length_set]; omega)) ?_
      rintro _ _ ⟨rp23, rc24, rfl, rfl⟩
      refine l_val (v := .pointer (some ⟨b2, 0, none⟩)) rfl rfl rfl (e_fieldPt (b := b2) (o := 0) rfl tf49) ?_
      refine l_mu rfl rfl (m_store 4 tf50 (b := b2) (o := 0) (T := 27) (cs := #[.slice p (bs.length) c, .slice none 0 0, Ix (gX), Ix (gY)]) (cs' := #[.slice rp23 ((bs ++ [nb]).length) rc24, .slice none 0 0, Ix (gX), Ix (gY)]) (v := .slice rp23 ((bs ++ [nb]).length) rc24) rfl rfl rfl rfl rfl rfl rfl) ?_
      refine l_nil ?_
      refine f_block ?_
      refine f_then ?_
      refine c_region ?_
      refine l_val (v := Nx (n)) rfl rfl rfl (e_move) ?_
      refine l_val (v := Nx (n + 1)) rfl rfl rfl (e_add (a := ((n : Nat) : Int)) (b := (1 : Int)) rfl rfl (i64n (by omega) (by omega))) ?_
      refine l_val (v := Nx (n + 1)) rfl rfl rfl (e_assign) ?_
      refine l_nil ?_
      refine f_mask (L' := [rowF BodyF 31 rp23 rc24 (bs ++ [nb]), pt b2 (.cells #[.slice rp23 ((bs ++ [nb]).length) rc24, .slice none 0 0, Ix (gX), Ix (gY)] 27), pt b1 (.cells #[.slice none 0 0, .slice none 0 0, .int .i64 (0), .int .i64 (0)] 27)]) [false, false, false, true, true, true] rfl ?_
      exact f_cut ⟨(n + 1, (bs ++ [nb]), rp23, rc24), ⟨⟨rfl, rfl, rfl, rfl, rfl⟩, rfl, ⟨by rw [List.length_append]; simp only [List.length_cons, List.length_nil]; omega, by omega, by omega, madeL_snoc hL (by rw [hnb]; show ((1 + 2 * n : Nat) : Int) = _; rw [hn1]) (by rw [hnbm]; exact madeB_ok ⟨hf1, hf2, hf3, hf4⟩ (by omega)) (by rw [hnbm]; exact madeB_x ⟨hf1, hf2, hf3, hf4⟩ n)⟩⟩, (show fs.length - (n + 1) < fs.length - n from by omega)⟩
     ·
      refine c_skip ?_
      refine f_then ?_
      obtain ⟨nb, hnb⟩ : ∃ z, z = (⟨((1 + (2 * n) : Nat) : Int), (3 : Int) * (x5.x), (3 : Int) * (x5.y), x5.vx, x5.vy, ((1 + (x5.w.toNat % 40) : Nat) : Int), ((1 + (x5.h.toNat % 40) : Nat) : Int), x5.round, x5.fixed⟩ : KB) := ⟨_, rfl⟩
      have hnbm : nb = madeB x5 n := by rw [hnb]; unfold madeB; simp [hc13, hc21]
      refine c_region ?_
      refine l_val (v := .pointer (some ⟨b2, 0, none⟩)) rfl rfl rfl (e_fieldPt (b := b2) (o := 0) rfl tf49) ?_
      refine l_val (v := .slice p (bs.length) c) rfl rfl rfl (e_load1 tf50 (v := .slice p (bs.length) c) rfl (k_pt 3 (cs := #[.slice p (bs.length) c, .slice none 0 0, Ix (gX), Ix (gY)]) (vs := [.slice p (bs.length) c]) rfl rfl)) ?_
      refine l_val (v := .agg #[Nx (1 + (2 * n)), Ix ((3 : Int) * (x5.x)), Ix ((3 : Int) * (x5.y)), Ix (x5.vx), Ix (x5.vy), Nx (1 + (x5.w.toNat % 40)), Nx (1 + (x5.h.toNat % 40)), .bool (x5.round), .bool (x5.fixed)]) rfl rfl rfl (e_load tf22 (cs := [Nx (1 + (2 * n)), Ix ((3 : Int) * (x5.x)), Ix ((3 : Int) * (x5.y)), Ix (x5.vx), Ix (x5.vy), Nx (1 + (x5.w.toNat % 40)), Nx (1 + (x5.h.toNat % 40)), .bool (x5.round), .bool (x5.fixed)]) rfl (k_pt 0 (cs := #[Nx (1 + (2 * n)), Ix ((3 : Int) * (x5.x)), Ix ((3 : Int) * (x5.y)), Ix (x5.vx), Ix (x5.vy), Nx (1 + (x5.w.toNat % 40)), Nx (1 + (x5.h.toNat % 40)), .bool (x5.round), .bool (x5.fixed)]) (vs := [Nx (1 + (2 * n)), Ix ((3 : Int) * (x5.x)), Ix ((3 : Int) * (x5.y)), Ix (x5.vx), Ix (x5.vy), Nx (1 + (x5.w.toNat % 40)), Nx (1 + (x5.h.toNat % 40)), .bool (x5.round), .bool (x5.fixed)]) rfl rfl) rfl) ?_
      refine l_mv rfl rfl rfl (m_slices tf43 tf58 (vs := [(0, .agg #[Nx (1 + (2 * n)), Ix ((3 : Int) * (x5.x)), Ix ((3 : Int) * (x5.y)), Ix (x5.vx), Ix (x5.vy), Nx (1 + (x5.w.toNat % 40)), Nx (1 + (x5.h.toNat % 40)), .bool (x5.round), .bool (x5.fixed)])]) (cells := #[Nx (1 + (2 * n)), Ix ((3 : Int) * (x5.x)), Ix ((3 : Int) * (x5.y)), Ix (x5.vx), Ix (x5.vy), Nx (1 + (x5.w.toNat % 40)), Nx (1 + (x5.h.toNat % 40)), .bool (x5.round), .bool (x5.fixed)]) rfl rfl rfl (by kernel_rfl)) ?_
      rintro _ _ ⟨b25, rfl, rfl⟩
      refine l_mv rfl rfl rfl (m_appendFlN (F := BodyF) 3 tf43 tf83 (p := p) (m := bs.length) (xs := bs) (ys := [nb]) (ao := (some ⟨b25, 0, none⟩)) (k := 1) (c := 1) rfl rfl rfl rfl rfl (k_ptFl (z := nb) 0 rfl (by rw [hnb])) (by first | omega | simp only [List.length_nil, List.length_cons, List.length_append, List.length_set]; omega) (by first | omega | simp only [List.length_nil, List.length_cons, List.length_append, List.length_set]; omega)) ?_
      rintro _ _ ⟨rp26, rc27, rfl, rfl⟩
      refine l_val (v := .pointer (some ⟨b2, 0, none⟩)) rfl rfl rfl (e_fieldPt (b := b2) (o := 0) rfl tf49) ?_
      refine l_mu rfl rfl (m_store 4 tf50 (b := b2) (o := 0) (T := 27) (cs := #[.slice p (bs.length) c, .slice none 0 0, Ix (gX), Ix (gY)]) (cs' := #[.slice rp26 ((bs ++ [nb]).length) rc27, .slice none 0 0, Ix (gX), Ix (gY)]) (v := .slice rp26 ((bs ++ [nb]).length) rc27) rfl rfl rfl rfl rfl rfl rfl) ?_
      refine l_nil ?_
      refine f_block ?_
      refine f_then ?_
      refine c_region ?_
      refine l_val (v := Nx (n)) rfl rfl rfl (e_move) ?_
      refine l_val (v := Nx (n + 1)) rfl rfl rfl (e_add (a := ((n : Nat) : Int)) (b := (1 : Int)) rfl rfl (i64n (by omega) (by omega))) ?_
      refine l_val (v := Nx (n + 1)) rfl rfl rfl (e_assign) ?_
      refine l_nil ?_
      refine f_mask (L' := [rowF BodyF 31 rp26 rc27 (bs ++ [nb]), pt b2 (.cells #[.slice rp26 ((bs ++ [nb]).length) rc27, .slice none 0 0, Ix (gX), Ix (gY)] 27), pt b1 (.cells #[.slice none 0 0, .slice none 0 0, .int .i64 (0), .int .i64 (0)] 27)]) [false, false, false, true, true, true] rfl ?_
      exact f_cut ⟨(n + 1, (bs ++ [nb]), rp26, rc27), ⟨⟨rfl, rfl, rfl, rfl, rfl⟩, rfl, ⟨by rw [List.length_append]; simp only [List.length_cons, List.length_nil]; omega, by omega, by omega, madeL_snoc hL (by rw [hnb]; show ((1 + 2 * n : Nat) : Int) = _; rw [hn1]) (by rw [hnbm]; exact madeB_ok ⟨hf1, hf2, hf3, hf4⟩ (by omega)) (by rw [hnbm]; exact madeB_x ⟨hf1, hf2, hf3, hf4⟩ n)⟩⟩, (show fs.length - (n + 1) < fs.length - n from by omega)⟩
   ·
    refine c_exit ?_
    refine f_then_exit ?_
    refine f_then_exit ?_
    refine f_exit ?_
    exact f_cut ⟨n, bs, p, c, ⟨rfl, rfl, rfl⟩, rfl, ⟨by omega, hL, by omega⟩⟩
  ·
   refine l_skip rfl rfl rfl rfl rfl rfl ?_
   refine l_skip rfl rfl rfl rfl rfl rfl ?_
   refine l_val (v := .bool false) rfl rfl rfl (e_pick_f rfl) ?_
   refine l_nil ?_
   refine f_then ?_
   refine c_no rfl ?_
   refine c_exit ?_
   refine f_then_exit ?_
   refine f_then_exit ?_
   refine f_exit ?_
   exact f_cut ⟨n, bs, p, c, ⟨rfl, rfl, rfl⟩, rfl, ⟨by omega, hL, by omega⟩⟩
 rintro f0 L0 ⟨n, bs, p, c, ⟨hs1, hs8, hs9⟩, hL, ⟨hn2, hL, hbl⟩⟩
 subst L0
 refine rebase (d := 1) hs1 ?_
 refine rebase (d := 8) hs8 ?_
 refine rebase (d := 9) hs9 ?_
 clear hs1 hs8 hs9
 refine c_emp (r := rowF RopeF 35 none 0 []) (row_nil _ _ _) ?_
 refine c_seq_cut (fun (f : Fm) (L : List Res) => ∃ (k : Nat) (R : List KR) (rp : Option Addr) (rc : Nat), (f 8 = .pointer (some ⟨b1, 0, none⟩) ∧ f 9 = .pointer (some ⟨b2, 0, none⟩)) ∧ L = [rowF RopeF 35 rp rc R, rowF BodyF 31 p c bs, pt b2 (.cells #[.slice p (bs.length) c, .slice rp (R.length) rc, Ix (gX), Ix (gY)] 27), pt b1 (.cells #[.slice none 0 0, .slice none 0 0, .int .i64 (0), .int .i64 (0)] 27)] ∧ (R.length ≤ 6 ∧ (∀ r ∈ R, madeR bs.length r) ∧ 2 * R.length ≤ us.length)) ?_ ?_
 ·
  refine c_seq ?_
  refine c_region ?_
  refine l_val (v := .int .i64 (0)) rfl rfl rfl (e_assign) ?_
  refine l_nil ?_
  refine f_then ?_
  refine c_block ?_
  refine c_mask [true, true, true, true] rfl ?_
  refine c_loop (fun (x_ : Nat × List KR × Option Addr × Nat) (f : Fm) (L : List Res) => match x_ with | (k, R, rp, rc) => (f 1 = .slice ua (us.length) (uc) ∧ f 8 = .pointer (some ⟨b1, 0, none⟩) ∧ f 9 = .pointer (some ⟨b2, 0, none⟩) ∧ f 13 = Nx (2 * k)) ∧ L = [rowF RopeF 35 rp rc R, rowF BodyF 31 p c bs, pt b2 (.cells #[.slice p (bs.length) c, .slice rp (R.length) rc, Ix (gX), Ix (gY)] 27), pt b1 (.cells #[.slice none 0 0, .slice none 0 0, .int .i64 (0), .int .i64 (0)] 27)] ∧ (k ≤ 6 ∧ (R.length ≤ k ∧ 2 * k ≤ us.length) ∧ ∀ r ∈ R, madeR bs.length r)) (fun (x_ : Nat × List KR × Option Addr × Nat) => match x_ with | (k, R, rp, rc) => us.length - 2 * k) (0, [], none, 0) ?_ ?_
  ·exact ⟨⟨rfl, rfl, rfl, rfl⟩, rfl, ⟨by omega, ⟨by simp, by omega⟩, fun r hr => by cases hr⟩⟩
  rintro ⟨k, R, rp, rc⟩ f0 L0 ⟨⟨hs1, hs8, hs9, hs13⟩, hL, ⟨hk, hRl, hR⟩⟩
  subst L0
  refine rebase (d := 1) hs1 ?_
  refine rebase (d := 8) hs8 ?_
  refine rebase (d := 9) hs9 ?_
  refine rebase (d := 13) hs13 ?_
  clear hs1 hs8 hs9 hs13
  refine c_seq ?_
  refine c_seq ?_
  refine c_region ?_
  refine l_val (v := Nx (2 * k)) rfl rfl rfl (e_move) ?_
  refine l_val (v := Nx ((2 * k) + 1)) rfl rfl rfl (e_add (a := ((2 * k : Nat) : Int)) (b := (1 : Int)) rfl rfl (i64n (by omega) (by omega))) ?_
  refine l_val (v := .slice ua (us.length) (uc)) rfl rfl rfl (e_move) ?_
  refine l_val (v := Nx (us.length)) rfl rfl rfl (e_len (a := ua) (n := us.length) (c := uc) rfl tf129) ?_
  refine l_val (v := .bool (decide ((((2 * k) + 1 : Nat) : Int) < ((us.length : Nat) : Int)))) rfl rfl rfl (e_lss (a := (((2 * k) + 1 : Nat) : Int)) (b := ((us.length : Nat) : Int)) rfl rfl) ?_
  refine l_val (v := .bool (decide ((((2 * k) + 1 : Nat) : Int) < ((us.length : Nat) : Int)))) rfl rfl rfl (e_move) ?_
  refine l_split (s := 93) (p := (((2 * k) + 1 : Nat) : Int) < ((us.length : Nat) : Int)) rfl (fun hg28 => ?_) (fun hg28 => ?_)
  ·
   refine g_val (v := Nx (2 * k)) rfl rfl rfl rfl rfl (e_move) ?_
   refine g_val (v := .bool (decide (((2 * k : Nat) : Int) < (12 : Int)))) rfl rfl rfl rfl rfl (e_lss (a := ((2 * k : Nat) : Int)) (b := (12 : Int)) rfl rfl) ?_
   refine l_val (v := .bool (decide (((2 * k : Nat) : Int) < (12 : Int)))) rfl rfl rfl (e_pick_t rfl) ?_
   refine l_nil ?_
   refine f_then ?_
   refine c_if (((2 * k : Nat) : Int) < (12 : Int)) rfl (fun hc29 => ?_) (fun hc29 => ?_)
   ·
    refine c_skip ?_
    refine f_then ?_
    refine c_seq ?_
    refine c_block ?_
    refine c_seq ?_
    refine c_region ?_
    refine l_val (v := .pointer (some ⟨b2, 0, none⟩)) rfl rfl rfl (e_fieldPt (b := b2) (o := 0) rfl tf49) ?_
    refine l_val (v := .slice p (bs.length) c) rfl rfl rfl (e_load1 tf50 (v := .slice p (bs.length) c) rfl (k_pt 2 (cs := #[.slice p (bs.length) c, .slice rp (R.length) rc, Ix (gX), Ix (gY)]) (vs := [.slice p (bs.length) c]) rfl rfl)) ?_
    refine l_val (v := Nx (bs.length)) rfl rfl rfl (e_len (a := p) (n := bs.length) (c := c) rfl tf40) ?_
    refine l_val (v := Nx (bs.length)) rfl rfl rfl (e_assign) ?_
    refine l_nil ?_
    refine f_then ?_
    refine c_seq ?_
    refine c_seq ?_
    refine c_region ?_
    refine l_val (v := Nx (bs.length)) rfl rfl rfl (e_move) ?_
    refine l_val (v := .bool (decide (((bs.length : Nat) : Int) < (2 : Int)))) rfl rfl rfl (e_lss (a := ((bs.length : Nat) : Int)) (b := (2 : Int)) rfl rfl) ?_
    refine l_nil ?_
    refine f_then ?_
    refine c_if (((bs.length : Nat) : Int) < (2 : Int)) rfl (fun hc30 => ?_) (fun hc30 => ?_)
    ·
     refine c_exit ?_
     refine f_then_exit ?_
     refine f_exit_other rfl ?_
     refine f_then_exit ?_
     refine f_then_exit ?_
     refine f_exit ?_
     exact f_cut ⟨k, R, rp, rc, ⟨rfl, rfl⟩, rfl, ⟨by omega, hR, by omega⟩⟩
    ·
     refine c_skip ?_
     refine f_then ?_
     refine c_seq ?_
     refine c_quiet (by kernel_rfl) (by kernel_rfl) ?_
     refine q_val (v := .slice ua (us.length) (uc)) rfl rfl rfl (e_move) ?_
     refine q_val (v := Nx (2 * k)) rfl rfl rfl (e_move) ?_
     obtain ⟨x31, hx32⟩ : ∃ x_, (us)[2 * k]? = some x_ := ⟨_, List.getElem?_eq_getElem (by omega)⟩
     obtain ⟨ha33, cs34, hc35, rfl⟩ := ue _ _ hx32
     refine q_val (v := .pointer (some ((ba ua).add ((2 * k) * 1)))) rfl rfl rfl (e_indexAddr (k := 2 * k) (len := us.length) (cap := uc) (a := ua) rfl rfl tf130 (by omega) ha33) ?_
     refine q_val (v := Bx (x31)) rfl rfl rfl (e_load1 tf97 (v := Bx (x31)) rfl (Knows.of_base (Cs.mono _ _) hc35)) ?_
     refine q_val (v := Nx (x31.toNat)) rfl rfl rfl (e_conv (a := ((x31).toNat : Int)) rfl ⟨_, tf125⟩ tf41 (i64n rfl (by have := (x31).toNat_lt; omega))) ?_
     refine q_val (v := Nx (bs.length)) rfl rfl rfl (e_move) ?_
     refine q_val (v := Nx (x31.toNat % bs.length)) rfl rfl rfl (e_rem (a := ((x31.toNat : Nat) : Int)) (b := ((bs.length : Nat) : Int)) rfl rfl (by omega) (nat_tmod _ _)) ?_
     refine q_val (v := .slice ua (us.length) (uc)) rfl rfl rfl (e_move) ?_
     refine q_val (v := Nx (2 * k)) rfl rfl rfl (e_move) ?_
     refine q_val (v := Nx ((2 * k) + 1)) rfl rfl rfl (e_add (a := ((2 * k : Nat) : Int)) (b := (1 : Int)) rfl rfl (i64n (by omega) (by omega))) ?_
     obtain ⟨x37, hx38⟩ : ∃ x_, (us)[(2 * k) + 1]? = some x_ := ⟨_, List.getElem?_eq_getElem (by omega)⟩
     obtain ⟨ha39, cs40, hc41, rfl⟩ := ue _ _ hx38
     refine q_val (v := .pointer (some ((ba ua).add (((2 * k) + 1) * 1)))) rfl rfl rfl (e_indexAddr (k := (2 * k) + 1) (len := us.length) (cap := uc) (a := ua) rfl rfl tf130 (by omega) ha39) ?_
     refine q_val (v := Bx (x37)) rfl rfl rfl (e_load1 tf97 (v := Bx (x37)) rfl (Knows.of_base (Cs.mono _ _) hc41)) ?_
     refine q_val (v := Nx (x37.toNat)) rfl rfl rfl (e_conv (a := ((x37).toNat : Int)) rfl ⟨_, tf125⟩ tf41 (i64n rfl (by have := (x37).toNat_lt; omega))) ?_
     refine q_val (v := Nx (bs.length)) rfl rfl rfl (e_move) ?_
     refine q_val (v := Nx (x37.toNat % bs.length)) rfl rfl rfl (e_rem (a := ((x37.toNat : Nat) : Int)) (b := ((bs.length : Nat) : Int)) rfl rfl (by omega) (nat_tmod _ _)) ?_
     refine q_val (v := Nx (x31.toNat % bs.length)) rfl rfl rfl (e_assign) ?_
     refine q_val (v := Nx (x37.toNat % bs.length)) rfl rfl rfl (e_assign) ?_
     refine q_nil ?_
     refine f_then ?_
     refine c_seq ?_
     refine c_region ?_
     refine l_val (v := Nx (x31.toNat % bs.length)) rfl rfl rfl (e_move) ?_
     refine l_val (v := Nx (x37.toNat % bs.length)) rfl rfl rfl (e_move) ?_
     refine l_val (v := .bool (decide (((x31.toNat % bs.length : Nat) : Int) ≠ ((x37.toNat % bs.length : Nat) : Int)))) rfl rfl rfl (e_neq (a := ((x31.toNat % bs.length : Nat) : Int)) (b := ((x37.toNat % bs.length : Nat) : Int)) rfl rfl) ?_
     refine l_nil ?_
     refine f_then ?_
     refine c_if (((x31.toNat % bs.length : Nat) : Int) ≠ ((x37.toNat % bs.length : Nat) : Int)) rfl (fun hc43 => ?_) (fun hc43 => ?_)
     ·
      have ha := Nat.mod_lt x31.toNat (show 0 < bs.length by omega)
      have hb := Nat.mod_lt x37.toNat (show 0 < bs.length by omega)
      have hx8 := x31.toNat_lt
      have hmr : madeR bs.length ⟨((1 + (2 * (min (x31.toNat % bs.length) (x37.toNat % bs.length))) : Nat) : Int), ((1 + (2 * (max (x31.toNat % bs.length) (x37.toNat % bs.length))) : Nat) : Int), ((200 + x31.toNat : Nat) : Int)⟩ := ⟨min (x31.toNat % bs.length) (x37.toNat % bs.length), max (x31.toNat % bs.length) (x37.toNat % bs.length), by omega, by omega, rfl, rfl, by show (200 : Int) ≤ ((200 + x31.toNat : Nat) : Int); omega, by show ((200 + x31.toNat : Nat) : Int) ≤ 455; omega⟩
      refine c_any [⟨[], [], [0], [122], fun f => f 122 = .pointer (some ⟨b2, 1, none⟩)⟩, ⟨[0], [0], [], [123], fun f => f 123 = .slice rp (R.length) rc⟩, ⟨[], [], [1], [124], fun f => f 124 = Nx (x31.toNat % bs.length)⟩, ⟨[], [], [2], [125], fun f => f 125 = Nx (x37.toNat % bs.length)⟩, ⟨[2, 3], [2, 3], [], [126], fun f => f 126 = Nx (min (x31.toNat % bs.length) (x37.toNat % bs.length))⟩, ⟨[2, 3, 4], [4], [], [127], fun f => f 127 = Nx (2 * (min (x31.toNat % bs.length) (x37.toNat % bs.length)))⟩, ⟨[2, 3, 4, 5], [5], [], [128], fun f => f 128 = Nx (1 + (2 * (min (x31.toNat % bs.length) (x37.toNat % bs.length))))⟩, ⟨[], [], [1], [129], fun f => f 129 = Nx (x31.toNat % bs.length)⟩, ⟨[], [], [2], [130], fun f => f 130 = Nx (x37.toNat % bs.length)⟩, ⟨[7, 8], [7, 8], [], [131], fun f => f 131 = Nx (max (x31.toNat % bs.length) (x37.toNat % bs.length))⟩, ⟨[7, 8, 9], [9], [], [132], fun f => f 132 = Nx (2 * (max (x31.toNat % bs.length) (x37.toNat % bs.length)))⟩, ⟨[7, 8, 9, 10], [10], [], [133], fun f => f 133 = Nx (1 + (2 * (max (x31.toNat % bs.length) (x37.toNat % bs.length))))⟩, ⟨[], [], [3], [134], fun f => f 134 = .slice ua (us.length) (uc)⟩, ⟨[], [], [4], [135], fun f => f 135 = Nx (2 * k)⟩, ⟨[12, 13], [12, 13], [], [136], fun f => f 136 = .pointer (some ((ba ua).add ((2 * k) * 1)))⟩, ⟨[12, 13, 14], [14], [], [137], fun f => f 137 = Bx (x31)⟩, ⟨[12, 13, 14, 15], [15], [], [138], fun f => f 138 = Nx (x31.toNat)⟩, ⟨[12, 13, 14, 15, 16], [16], [], [139], fun f => f 139 = Nx (200 + x31.toNat)⟩, ⟨[2, 3, 4, 5, 6, 7, 8, 9, 10, 11, 12, 13, 14, 15, 16, 17], [6, 11, 17], [], [140], fun f => f 140 = .agg #[Nx (1 + (2 * (min (x31.toNat % bs.length) (x37.toNat % bs.length)))), Nx (1 + (2 * (max (x31.toNat % bs.length) (x37.toNat % bs.length)))), Nx (200 + x31.toNat)]⟩, ⟨[2, 3, 4, 5, 6, 7, 8, 9, 10, 11, 12, 13, 14, 15, 16, 17, 18], [18], [], [141], fun f => f 141 = .slice (some ⟨(blk (f 141)), 0, none⟩) 1 1⟩, ⟨[0, 1, 2, 3, 4, 5, 6, 7, 8, 9, 10, 11, 12, 13, 14, 15, 16, 17, 18, 19], [1, 19], [], [142], fun f => f 142 = .slice (sla (f 142)) ((R ++ [(⟨((1 + (2 * (min (x31.toNat % bs.length) (x37.toNat % bs.length))) : Nat) : Int), ((1 + (2 * (max (x31.toNat % bs.length) (x37.toNat % bs.length))) : Nat) : Int), ((200 + x31.toNat : Nat) : Int)⟩ : KR)]).length) (slc (f 142))⟩, ⟨[0, 1, 2, 3, 4, 5, 6, 7, 8, 9, 10, 11, 12, 13, 14, 15, 16, 17, 18, 19, 20], [], [0], [143], fun f => f 143 = .pointer (some ⟨b2, 1, none⟩)⟩, ⟨[0, 1, 2, 3, 4, 5, 6, 7, 8, 9, 10, 11, 12, 13, 14, 15, 16, 17, 18, 19, 20, 21], [21, 20], [], [], fun _ => True⟩] [⟨none, (some 20), [20], [], fun _ => rowF RopeF 35 rp rc R⟩, ⟨none, none, [], [], fun _ => rowF BodyF 31 p c bs⟩, ⟨none, (some 22), [1, 22], [], fun _ => pt b2 (.cells #[.slice p (bs.length) c, .slice rp (R.length) rc, Ix (gX), Ix (gY)] 27)⟩, ⟨none, none, [], [], fun _ => pt b1 (.cells #[.slice none 0 0, .slice none 0 0, .int .i64 (0), .int .i64 (0)] 27)⟩, ⟨(some 19), none, [20], [141], fun f => pt (blk (f 141)) (.cells #[Nx (1 + (2 * (min (x31.toNat % bs.length) (x37.toNat % bs.length)))), Nx (1 + (2 * (max (x31.toNat % bs.length) (x37.toNat % bs.length)))), Nx (200 + x31.toNat)] 35)⟩, ⟨(some 20), none, [], [142], fun f => rowF RopeF 35 (sla (f 142)) (slc (f 142)) (R ++ [(⟨((1 + (2 * (min (x31.toNat % bs.length) (x37.toNat % bs.length))) : Nat) : Int), ((1 + (2 * (max (x31.toNat % bs.length) (x37.toNat % bs.length))) : Nat) : Int), ((200 + x31.toNat : Nat) : Int)⟩ : KR)])⟩, ⟨(some 22), none, [], [142], fun f => pt b2 (.cells #[.slice p (bs.length) c, .slice (sla (f 142)) ((R ++ [(⟨((1 + (2 * (min (x31.toNat % bs.length) (x37.toNat % bs.length))) : Nat) : Int), ((1 + (2 * (max (x31.toNat % bs.length) (x37.toNat % bs.length))) : Nat) : Int), ((200 + x31.toNat : Nat) : Int)⟩ : KR)]).length) (slc (f 142)), Ix (gX), Ix (gY)] 27)⟩] [(9, .pointer (some ⟨b2, 0, none⟩)), (15, Nx (x31.toNat % bs.length)), (16, Nx (x37.toNat % bs.length)), (1, .slice ua (us.length) (uc)), (13, Nx (2 * k)), (8, .pointer (some ⟨b1, 0, none⟩))] [3, 5, 0, 4] [] (by kernel_rfl) (by kernel_rfl) (by kernel_rfl) (by kernel_rfl) rfl ⟨rfl, rfl, rfl, rfl, rfl, rfl, trivial⟩ ⟨?_, ?_, ?_, ?_, ?_, ?_, ?_, ?_, ?_, ?_, ?_, ?_, ?_, ?_, ?_, ?_, ?_, ?_, ?_, ?_, ?_, ?_, ?_, trivial⟩ ?_
      ·rintro f M - ⟨i0, -⟩
       have hs9 : f 9 = .pointer (some ⟨b2, 0, none⟩) := i0
       refine ob_start (L' := M) (by rfl) (up_cons rfl hs9) ?_
       refine l_val (v := .pointer (some ⟨b2, 1, none⟩)) rfl rfl rfl (e_fieldPt (b := b2) (o := 0) rfl tf55) ?_
       refine l_nil ?_
       exact f_owes_d (up_cons rfl hs9) rfl (List.Perm.refl _)
      ·rintro f M ⟨k0, -⟩ -
       have hs122 : f 122 = .pointer (some ⟨b2, 1, none⟩) := k0
       refine ob_start (L' := pt b2 (.cells #[.slice p (bs.length) c, .slice rp (R.length) rc, Ix (gX), Ix (gY)] 27) :: M) (by rfl) (up_cons rfl hs122) ?_
       refine l_val (v := .slice rp (R.length) rc) rfl rfl rfl (e_load1 tf56 (v := .slice rp (R.length) rc) rfl (k_pt 0 (cs := #[.slice p (bs.length) c, .slice rp (R.length) rc, Ix (gX), Ix (gY)]) (vs := [.slice rp (R.length) rc]) rfl rfl)) ?_
       refine l_nil ?_
       exact f_owes_d (up_cons rfl hs122) rfl (perm_front 0 rfl)
      ·rintro f M - ⟨i0, -⟩
       have hs15 : f 15 = Nx (x31.toNat % bs.length) := i0
       refine ob_start (L' := M) (by rfl) (up_cons rfl hs15) ?_
       refine l_val (v := Nx (x31.toNat % bs.length)) rfl rfl rfl (e_move) ?_
       refine l_nil ?_
       exact f_owes_d (up_cons rfl hs15) rfl (List.Perm.refl _)
      ·rintro f M - ⟨i0, -⟩
       have hs16 : f 16 = Nx (x37.toNat % bs.length) := i0
       refine ob_start (L' := M) (by rfl) (up_cons rfl hs16) ?_
       refine l_val (v := Nx (x37.toNat % bs.length)) rfl rfl rfl (e_move) ?_
       refine l_nil ?_
       exact f_owes_d (up_cons rfl hs16) rfl (List.Perm.refl _)
      ·rintro f M ⟨k0, k1, -⟩ -
       have hs124 : f 124 = Nx (x31.toNat % bs.length) := k0
       have hs125 : f 125 = Nx (x37.toNat % bs.length) := k1
       refine ob_start (L' := M) (by rfl) (up_cons (up_cons rfl hs124) hs125) ?_
       refine l_val (v := Nx (min (x31.toNat % bs.length) (x37.toNat % bs.length))) rfl rfl rfl (ev_eq (congrArg (Value.int .i64) (by omega)) (e_min (a := ((x31.toNat % bs.length : Nat) : Int)) (b := ((x37.toNat % bs.length : Nat) : Int)) rfl rfl)) ?_
       refine l_nil ?_
       exact f_owes_d (up_cons (up_cons rfl hs124) hs125) rfl (List.Perm.refl _)
      ·rintro f M ⟨k0, -⟩ -
       have hs126 : f 126 = Nx (min (x31.toNat % bs.length) (x37.toNat % bs.length)) := k0
       refine ob_start (L' := M) (by rfl) (up_cons rfl hs126) ?_
       refine l_val (v := Nx (2 * (min (x31.toNat % bs.length) (x37.toNat % bs.length)))) rfl rfl rfl (e_mul (a := (2 : Int)) (b := ((min (x31.toNat % bs.length) (x37.toNat % bs.length) : Nat) : Int)) rfl rfl (i64n (by omega) (by omega))) ?_
       refine l_nil ?_
       exact f_owes_d (up_cons rfl hs126) rfl (List.Perm.refl _)
      ·rintro f M ⟨k0, -⟩ -
       have hs127 : f 127 = Nx (2 * (min (x31.toNat % bs.length) (x37.toNat % bs.length))) := k0
       refine ob_start (L' := M) (by rfl) (up_cons rfl hs127) ?_
       refine l_val (v := Nx (1 + (2 * (min (x31.toNat % bs.length) (x37.toNat % bs.length))))) rfl rfl rfl (e_add (a := (1 : Int)) (b := ((2 * (min (x31.toNat % bs.length) (x37.toNat % bs.length)) : Nat) : Int)) rfl rfl (i64n (by omega) (by omega))) ?_
       refine l_nil ?_
       exact f_owes_d (up_cons rfl hs127) rfl (List.Perm.refl _)
      ·rintro f M - ⟨i0, -⟩
       have hs15 : f 15 = Nx (x31.toNat % bs.length) := i0
       refine ob_start (L' := M) (by rfl) (up_cons rfl hs15) ?_
       refine l_val (v := Nx (x31.toNat % bs.length)) rfl rfl rfl (e_move) ?_
       refine l_nil ?_
       exact f_owes_d (up_cons rfl hs15) rfl (List.Perm.refl _)
      ·rintro f M - ⟨i0, -⟩
       have hs16 : f 16 = Nx (x37.toNat % bs.length) := i0
       refine ob_start (L' := M) (by rfl) (up_cons rfl hs16) ?_
       refine l_val (v := Nx (x37.toNat % bs.length)) rfl rfl rfl (e_move) ?_
       refine l_nil ?_
       exact f_owes_d (up_cons rfl hs16) rfl (List.Perm.refl _)
      ·rintro f M ⟨k0, k1, -⟩ -
       have hs129 : f 129 = Nx (x31.toNat % bs.length) := k0
       have hs130 : f 130 = Nx (x37.toNat % bs.length) := k1
       refine ob_start (L' := M) (by rfl) (up_cons (up_cons rfl hs129) hs130) ?_
       refine l_val (v := Nx (max (x31.toNat % bs.length) (x37.toNat % bs.length))) rfl rfl rfl (ev_eq (congrArg (Value.int .i64) (by omega)) (e_max (a := ((x31.toNat % bs.length : Nat) : Int)) (b := ((x37.toNat % bs.length : Nat) : Int)) rfl rfl)) ?_
       refine l_nil ?_
       exact f_owes_d (up_cons (up_cons rfl hs129) hs130) rfl (List.Perm.refl _)
      ·rintro f M ⟨k0, -⟩ -
       have hs131 : f 131 = Nx (max (x31.toNat % bs.length) (x37.toNat % bs.length)) := k0
       refine ob_start (L' := M) (by rfl) (up_cons rfl hs131) ?_
       refine l_val (v := Nx (2 * (max (x31.toNat % bs.length) (x37.toNat % bs.length)))) rfl rfl rfl (e_mul (a := (2 : Int)) (b := ((max (x31.toNat % bs.length) (x37.toNat % bs.length) : Nat) : Int)) rfl rfl (i64n (by omega) (by omega))) ?_
       refine l_nil ?_
       exact f_owes_d (up_cons rfl hs131) rfl (List.Perm.refl _)
      ·rintro f M ⟨k0, -⟩ -
       have hs132 : f 132 = Nx (2 * (max (x31.toNat % bs.length) (x37.toNat % bs.length))) := k0
       refine ob_start (L' := M) (by rfl) (up_cons rfl hs132) ?_
       refine l_val (v := Nx (1 + (2 * (max (x31.toNat % bs.length) (x37.toNat % bs.length))))) rfl rfl rfl (e_add (a := (1 : Int)) (b := ((2 * (max (x31.toNat % bs.length) (x37.toNat % bs.length)) : Nat) : Int)) rfl rfl (i64n (by omega) (by omega))) ?_
       refine l_nil ?_
       exact f_owes_d (up_cons rfl hs132) rfl (List.Perm.refl _)
      ·rintro f M - ⟨i0, -⟩
       have hs1 : f 1 = .slice ua (us.length) (uc) := i0
       refine ob_start (L' := M) (by rfl) (up_cons rfl hs1) ?_
       refine l_val (v := .slice ua (us.length) (uc)) rfl rfl rfl (e_move) ?_
       refine l_nil ?_
       exact f_owes_d (up_cons rfl hs1) rfl (List.Perm.refl _)
      ·rintro f M - ⟨i0, -⟩
       have hs13 : f 13 = Nx (2 * k) := i0
       refine ob_start (L' := M) (by rfl) (up_cons rfl hs13) ?_
       refine l_val (v := Nx (2 * k)) rfl rfl rfl (e_move) ?_
       refine l_nil ?_
       exact f_owes_d (up_cons rfl hs13) rfl (List.Perm.refl _)
      ·rintro f M ⟨k0, k1, -⟩ -
       have hs134 : f 134 = .slice ua (us.length) (uc) := k0
       have hs135 : f 135 = Nx (2 * k) := k1
       refine ob_start (L' := M) (by rfl) (up_cons (up_cons rfl hs134) hs135) ?_
       refine l_val (v := .pointer (some ((ba ua).add ((2 * k) * 1)))) rfl rfl rfl (e_indexAddr (k := 2 * k) (len := us.length) (cap := uc) (a := ua) rfl rfl tf130 (by omega) ha33) ?_
       refine l_nil ?_
       exact f_owes_d (up_cons (up_cons rfl hs134) hs135) rfl (List.Perm.refl _)
      ·rintro f M ⟨k0, -⟩ -
       have hs136 : f 136 = .pointer (some ((ba ua).add ((2 * k) * 1))) := k0
       refine ob_start (L' := M) (by rfl) (up_cons rfl hs136) ?_
       refine l_val (v := Bx (x31)) rfl rfl rfl (e_load1 tf97 (v := Bx (x31)) rfl (Knows.of_base (Cs.mono _ _) hc35)) ?_
       refine l_nil ?_
       exact f_owes_d (up_cons rfl hs136) rfl (List.Perm.refl _)
      ·rintro f M ⟨k0, -⟩ -
       have hs137 : f 137 = Bx (x31) := k0
       refine ob_start (L' := M) (by rfl) (up_cons rfl hs137) ?_
       refine l_val (v := Nx (x31.toNat)) rfl rfl rfl (e_conv (a := ((x31).toNat : Int)) rfl ⟨_, tf125⟩ tf41 (i64n rfl (by have := (x31).toNat_lt; omega))) ?_
       refine l_nil ?_
       exact f_owes_d (up_cons rfl hs137) rfl (List.Perm.refl _)
      ·rintro f M ⟨k0, -⟩ -
       have hs138 : f 138 = Nx (x31.toNat) := k0
       refine ob_start (L' := M) (by rfl) (up_cons rfl hs138) ?_
       refine l_val (v := Nx (200 + x31.toNat)) rfl rfl rfl (e_add (a := (200 : Int)) (b := ((x31.toNat : Nat) : Int)) rfl rfl (i64n (by omega) (by omega))) ?_
       refine l_nil ?_
       exact f_owes_d (up_cons rfl hs138) rfl (List.Perm.refl _)
      ·rintro f M ⟨k0, k1, k2, -⟩ -
       have hs128 : f 128 = Nx (1 + (2 * (min (x31.toNat % bs.length) (x37.toNat % bs.length)))) := k0
       have hs133 : f 133 = Nx (1 + (2 * (max (x31.toNat % bs.length) (x37.toNat % bs.length)))) := k1
       have hs139 : f 139 = Nx (200 + x31.toNat) := k2
       refine ob_start (L' := M) (by rfl) (up_cons (up_cons (up_cons rfl hs128) hs133) hs139) ?_
       refine l_val (v := .agg #[Nx (1 + (2 * (min (x31.toNat % bs.length) (x37.toNat % bs.length)))), Nx (1 + (2 * (max (x31.toNat % bs.length) (x37.toNat % bs.length)))), Nx (200 + x31.toNat)]) rfl rfl rfl (e_build tf77 tf110 (vs := [(0, Nx (1 + (2 * (min (x31.toNat % bs.length) (x37.toNat % bs.length))))), (1, Nx (1 + (2 * (max (x31.toNat % bs.length) (x37.toNat % bs.length))))), (2, Nx (200 + x31.toNat))]) (cells := #[Nx (1 + (2 * (min (x31.toNat % bs.length) (x37.toNat % bs.length)))), Nx (1 + (2 * (max (x31.toNat % bs.length) (x37.toNat % bs.length)))), Nx (200 + x31.toNat)]) rfl rfl) ?_
       refine l_nil ?_
       exact f_owes_d (up_cons (up_cons (up_cons rfl hs128) hs133) hs139) rfl (List.Perm.refl _)
      ·rintro f M ⟨k0, -⟩ -
       have hs140 : f 140 = .agg #[Nx (1 + (2 * (min (x31.toNat % bs.length) (x37.toNat % bs.length)))), Nx (1 + (2 * (max (x31.toNat % bs.length) (x37.toNat % bs.length)))), Nx (200 + x31.toNat)] := k0
       refine ob_start (L' := M) (by rfl) (up_cons rfl hs140) ?_
       refine l_mv rfl rfl rfl (m_slices tf46 tf77 (vs := [(0, .agg #[Nx (1 + (2 * (min (x31.toNat % bs.length) (x37.toNat % bs.length)))), Nx (1 + (2 * (max (x31.toNat % bs.length) (x37.toNat % bs.length)))), Nx (200 + x31.toNat)])]) (cells := #[Nx (1 + (2 * (min (x31.toNat % bs.length) (x37.toNat % bs.length)))), Nx (1 + (2 * (max (x31.toNat % bs.length) (x37.toNat % bs.length)))), Nx (200 + x31.toNat)]) rfl rfl rfl rfl) ?_
       rintro _ _ ⟨b45, rfl, rfl⟩
       refine l_nil ?_
       exact f_owes_d (up_cons rfl hs140) rfl (perm_front 0 rfl)
      ·rintro f M ⟨k0, k1, -⟩ -
       have hs123 : f 123 = .slice rp (R.length) rc := k0
       have hs141 : f 141 = .slice (some ⟨(blk (f 141)), 0, none⟩) 1 1 := k1
       refine ob_start (L' := rowF RopeF 35 rp rc R :: pt (blk (f 141)) (.cells #[Nx (1 + (2 * (min (x31.toNat % bs.length) (x37.toNat % bs.length)))), Nx (1 + (2 * (max (x31.toNat % bs.length) (x37.toNat % bs.length)))), Nx (200 + x31.toNat)] 35) :: M) (by rfl) (up_cons (up_cons rfl hs123) hs141) ?_
       refine l_mv rfl rfl rfl (m_appendFlN (F := RopeF) 0 tf46 tf84 (p := rp) (m := R.length) (xs := R) (ys := [(⟨((1 + (2 * (min (x31.toNat % bs.length) (x37.toNat % bs.length))) : Nat) : Int), ((1 + (2 * (max (x31.toNat % bs.length) (x37.toNat % bs.length))) : Nat) : Int), ((200 + x31.toNat : Nat) : Int)⟩ : KR)]) (ao := (some ⟨(blk (f 141)), 0, none⟩)) (k := 1) (c := 1) rfl rfl rfl rfl rfl (k_ptFl (z := (⟨((1 + (2 * (min (x31.toNat % bs.length) (x37.toNat % bs.length))) : Nat) : Int), ((1 + (2 * (max (x31.toNat % bs.length) (x37.toNat % bs.length))) : Nat) : Int), ((200 + x31.toNat : Nat) : Int)⟩ : KR)) 1 rfl rfl) (by first | omega | simp only [List.length_nil, List.length_cons, List.length_append, List.length_set]; omega) (by first | omega | simp only [List.length_nil, List.length_cons, List.length_append, List.length_set]; omega)) ?_
       rintro _ _ ⟨rp48, rc49, rfl, rfl⟩
       refine l_nil ?_
       exact f_owes_d (up_cons (up_cons rfl hs123) hs141) rfl ((perm_front 0 rfl).trans (perm_front 1 rfl))
      ·rintro f M - ⟨i0, -⟩
       have hs9 : f 9 = .pointer (some ⟨b2, 0, none⟩) := i0
       refine ob_start (L' := M) (by rfl) (up_cons rfl hs9) ?_
       refine l_val (v := .pointer (some ⟨b2, 1, none⟩)) rfl rfl rfl (e_fieldPt (b := b2) (o := 0) rfl tf55) ?_
       refine l_nil ?_
       exact f_owes_d (up_cons rfl hs9) rfl (List.Perm.refl _)
      ·rintro f M ⟨k0, k1, -⟩ -
       have hs143 : f 143 = .pointer (some ⟨b2, 1, none⟩) := k0
       have hs142 : f 142 = .slice (sla (f 142)) ((R ++ [(⟨((1 + (2 * (min (x31.toNat % bs.length) (x37.toNat % bs.length))) : Nat) : Int), ((1 + (2 * (max (x31.toNat % bs.length) (x37.toNat % bs.length))) : Nat) : Int), ((200 + x31.toNat : Nat) : Int)⟩ : KR)]).length) (slc (f 142)) := k1
       refine ob_start (L' := pt b2 (.cells #[.slice p (bs.length) c, .slice rp (R.length) rc, Ix (gX), Ix (gY)] 27) :: M) (by rfl) (up_cons (up_cons rfl hs143) hs142) ?_
       refine l_mu rfl rfl (m_store 0 tf56 (b := b2) (o := 1) (T := 27) (cs := #[.slice p (bs.length) c, .slice rp (R.length) rc, Ix (gX), Ix (gY)]) (cs' := #[.slice p (bs.length) c, .slice (sla (f 142)) ((R ++ [(⟨((1 + (2 * (min (x31.toNat % bs.length) (x37.toNat % bs.length))) : Nat) : Int), ((1 + (2 * (max (x31.toNat % bs.length) (x37.toNat % bs.length))) : Nat) : Int), ((200 + x31.toNat : Nat) : Int)⟩ : KR)]).length) (slc (f 142)), Ix (gX), Ix (gY)]) (v := .slice (sla (f 142)) ((R ++ [(⟨((1 + (2 * (min (x31.toNat % bs.length) (x37.toNat % bs.length))) : Nat) : Int), ((1 + (2 * (max (x31.toNat % bs.length) (x37.toNat % bs.length))) : Nat) : Int), ((200 + x31.toNat : Nat) : Int)⟩ : KR)]).length) (slc (f 142))) rfl rfl rfl rfl rfl rfl rfl) ?_
       refine l_nil ?_
       exact f_owes_n (up_cons (up_cons rfl hs143) hs142) trivial (perm_front 0 rfl)
      rintro fa50 ⟨-, -, -, -, -, -, -, -, -, -, -, -, -, -, -, -, -, -, -, -, -, -, -, -⟩ ⟨j0, j1, j2, j3, -⟩
      refine f_re (L' := [rowF BodyF 31 p c bs, pt b1 (.cells #[.slice none 0 0, .slice none 0 0, .int .i64 (0), .int .i64 (0)] 27), pt (blk (fa50 141)) (.cells #[Nx (1 + (2 * (min (x31.toNat % bs.length) (x37.toNat % bs.length)))), Nx (1 + (2 * (max (x31.toNat % bs.length) (x37.toNat % bs.length)))), Nx (200 + x31.toNat)] 35), rowF RopeF 35 (sla (fa50 142)) (slc (fa50 142)) (R ++ [(⟨((1 + (2 * (min (x31.toNat % bs.length) (x37.toNat % bs.length))) : Nat) : Int), ((1 + (2 * (max (x31.toNat % bs.length) (x37.toNat % bs.length))) : Nat) : Int), ((200 + x31.toNat : Nat) : Int)⟩ : KR)]), pt b2 (.cells #[.slice p (bs.length) c, .slice (sla (fa50 142)) ((R ++ [(⟨((1 + (2 * (min (x31.toNat % bs.length) (x37.toNat % bs.length))) : Nat) : Int), ((1 + (2 * (max (x31.toNat % bs.length) (x37.toNat % bs.length))) : Nat) : Int), ((200 + x31.toNat : Nat) : Int)⟩ : KR)]).length) (slc (fa50 142)), Ix (gX), Ix (gY)] 27)]) (by rfl) ?_
      refine f_rebase (d := 1) (v := .slice ua (us.length) (uc)) j0 ?_
      refine f_rebase (d := 8) (v := .pointer (some ⟨b1, 0, none⟩)) j1 ?_
      refine f_rebase (d := 9) (v := .pointer (some ⟨b2, 0, none⟩)) j2 ?_
      refine f_rebase (d := 13) (v := Nx (2 * k)) j3 ?_
      refine f_block ?_
      refine f_then ?_
      refine c_region ?_
      refine l_val (v := Nx (2 * k)) rfl rfl rfl (e_move) ?_
      refine l_val (v := Nx ((2 * k) + 2)) rfl rfl rfl (e_add (a := ((2 * k : Nat) : Int)) (b := (2 : Int)) rfl rfl (i64n (by omega) (by omega))) ?_
      refine l_val (v := Nx ((2 * k) + 2)) rfl rfl rfl (e_assign) ?_
      refine l_nil ?_
      refine f_perm (L' := [rowF RopeF 35 (sla (fa50 142)) (slc (fa50 142)) (R ++ [(⟨((1 + (2 * (min (x31.toNat % bs.length) (x37.toNat % bs.length))) : Nat) : Int), ((1 + (2 * (max (x31.toNat % bs.length) (x37.toNat % bs.length))) : Nat) : Int), ((200 + x31.toNat : Nat) : Int)⟩ : KR)]), rowF BodyF 31 p c bs, pt b2 (.cells #[.slice p (bs.length) c, .slice (sla (fa50 142)) ((R ++ [(⟨((1 + (2 * (min (x31.toNat % bs.length) (x37.toNat % bs.length))) : Nat) : Int), ((1 + (2 * (max (x31.toNat % bs.length) (x37.toNat % bs.length))) : Nat) : Int), ((200 + x31.toNat : Nat) : Int)⟩ : KR)]).length) (slc (fa50 142)), Ix (gX), Ix (gY)] 27), pt b1 (.cells #[.slice none 0 0, .slice none 0 0, .int .i64 (0), .int .i64 (0)] 27), pt (blk (fa50 141)) (.cells #[Nx (1 + (2 * (min (x31.toNat % bs.length) (x37.toNat % bs.length)))), Nx (1 + (2 * (max (x31.toNat % bs.length) (x37.toNat % bs.length)))), Nx (200 + x31.toNat)] 35)]) (perm_ix [3, 0, 4, 1, 2] 5 rfl (by kernel_rfl) (by kernel_rfl)) ?_
      refine f_mask (L' := [rowF RopeF 35 (sla (fa50 142)) (slc (fa50 142)) (R ++ [(⟨((1 + (2 * (min (x31.toNat % bs.length) (x37.toNat % bs.length))) : Nat) : Int), ((1 + (2 * (max (x31.toNat % bs.length) (x37.toNat % bs.length))) : Nat) : Int), ((200 + x31.toNat : Nat) : Int)⟩ : KR)]), rowF BodyF 31 p c bs, pt b2 (.cells #[.slice p (bs.length) c, .slice (sla (fa50 142)) ((R ++ [(⟨((1 + (2 * (min (x31.toNat % bs.length) (x37.toNat % bs.length))) : Nat) : Int), ((1 + (2 * (max (x31.toNat % bs.length) (x37.toNat % bs.length))) : Nat) : Int), ((200 + x31.toNat : Nat) : Int)⟩ : KR)]).length) (slc (fa50 142)), Ix (gX), Ix (gY)] 27), pt b1 (.cells #[.slice none 0 0, .slice none 0 0, .int .i64 (0), .int .i64 (0)] 27)]) [true, true, true, true, false] rfl ?_
      exact f_cut ⟨(k + 1, (R ++ [(⟨((1 + (2 * (min (x31.toNat % bs.length) (x37.toNat % bs.length))) : Nat) : Int), ((1 + (2 * (max (x31.toNat % bs.length) (x37.toNat % bs.length))) : Nat) : Int), ((200 + x31.toNat : Nat) : Int)⟩ : KR)]), (sla (fa50 142)), (slc (fa50 142))), ⟨⟨rfl, rfl, rfl, rfl⟩, rfl, ⟨by omega, ⟨by rw [List.length_append]; simp only [List.length_cons, List.length_nil]; omega, by omega⟩, fun r hr => (List.mem_append.1 hr).elim (hR r) fun h => by rw [List.mem_singleton.1 h]; exact hmr⟩⟩, (show us.length - 2 * (k + 1) < us.length - 2 * k from by omega)⟩
     ·
      refine c_skip ?_
      refine f_block ?_
      refine f_then ?_
      refine c_region ?_
      refine l_val (v := Nx (2 * k)) rfl rfl rfl (e_move) ?_
      refine l_val (v := Nx ((2 * k) + 2)) rfl rfl rfl (e_add (a := ((2 * k : Nat) : Int)) (b := (2 : Int)) rfl rfl (i64n (by omega) (by omega))) ?_
      refine l_val (v := Nx ((2 * k) + 2)) rfl rfl rfl (e_assign) ?_
      refine l_nil ?_
      exact f_cut ⟨(k + 1, R, rp, rc), ⟨⟨rfl, rfl, rfl, rfl⟩, rfl, ⟨by omega, ⟨by omega, by omega⟩, hR⟩⟩, (show us.length - 2 * (k + 1) < us.length - 2 * k from by omega)⟩
   ·
    refine c_exit ?_
    refine f_then_exit ?_
    refine f_then_exit ?_
    refine f_exit ?_
    exact f_cut ⟨k, R, rp, rc, ⟨rfl, rfl⟩, rfl, ⟨by omega, hR, by omega⟩⟩
  ·
   refine l_skip rfl rfl rfl rfl rfl rfl ?_
   refine l_skip rfl rfl rfl rfl rfl rfl ?_
   refine l_val (v := .bool false) rfl rfl rfl (e_pick_f rfl) ?_
   refine l_nil ?_
   refine f_then ?_
   refine c_no rfl ?_
   refine c_exit ?_
   refine f_then_exit ?_
   refine f_then_exit ?_
   refine f_exit ?_
   exact f_cut ⟨k, R, rp, rc, ⟨rfl, rfl⟩, rfl, ⟨by omega, hR, by omega⟩⟩
 rintro f0 L0 ⟨k, R, rp, rc, ⟨hs8, hs9⟩, hL, ⟨hRl, hR, hRu⟩⟩
 subst L0
 refine rebase (d := 8) hs8 ?_
 refine rebase (d := 9) hs9 ?_
 clear hs8 hs9
 refine c_seq ?_
 refine c_region ?_
 refine l_val (v := .agg #[.slice p (bs.length) c, .slice rp (R.length) rc, Ix (gX), Ix (gY)]) rfl rfl rfl (e_load tf86 (cs := [.slice p (bs.length) c, .slice rp (R.length) rc, Ix (gX), Ix (gY)]) rfl (k_pt 2 (cs := #[.slice p (bs.length) c, .slice rp (R.length) rc, Ix (gX), Ix (gY)]) (vs := [.slice p (bs.length) c, .slice rp (R.length) rc, Ix (gX), Ix (gY)]) rfl rfl) rfl) ?_
 refine l_mu rfl rfl (m_store 3 tf86 (b := b1) (o := 0) (T := 27) (cs := #[.slice none 0 0, .slice none 0 0, .int .i64 (0), .int .i64 (0)]) (cs' := #[.slice p (bs.length) c, .slice rp (R.length) rc, Ix (gX), Ix (gY)]) (v := .agg #[.slice p (bs.length) c, .slice rp (R.length) rc, Ix (gX), Ix (gY)]) rfl rfl rfl rfl rfl rfl rfl) ?_
 refine l_nil ?_
 refine f_then ?_
 refine c_ret ?_
 refine retG (l := [.cell 8 27]) (m := [.agg #[.slice p (bs.length) c, .slice rp (R.length) rc, Ix (gX), Ix (gY)]]) (v := .agg #[.slice p (bs.length) c, .slice rp (R.length) rc, Ix (gX), Ix (gY)]) Tryd.results49 ⟨rd_cell tf86 (cs := [.slice p (bs.length) c, .slice rp (R.length) rc, Ix (gX), Ix (gY)]) rfl (k_pt 3 (cs := #[.slice p (bs.length) c, .slice rp (R.length) rc, Ix (gX), Ix (gY)]) (vs := [.slice p (bs.length) c, .slice rp (R.length) rc, Ix (gX), Ix (gY)]) rfl rfl) rfl, trivial⟩ rfl ?_
 intro w hw
 have hw2 := st_mask (L' := [rowF RopeF 35 rp rc R, rowF BodyF 31 p c bs]) [true, true, false, false] rfl hw
 exact ⟨bs, R, p, c, rp, rc, by rw [hgX, hgY], by subst hgX; subst hgY; exact madeP_mk hL hR hn2 hRl hgx hgy, hbl, hRu, hw2.perm (perm_ix [1, 0] 2 rfl (by kernel_rfl) (by kernel_rfl))⟩
theorem made8_ok (β : Base) (w : World) (hw : St β [] w) (v u : Value) (fs : List KF) (us : List UInt8) (hs : Sl FormR β.heap v fs) (hu : Sl U8R β.heap u us) (gx gy : Int) (hgx8 : -128 ≤ gx ∧ gx ≤ 127) (hgy8 : -128 ≤ gy ∧ gy ≤ 127) : Calls Tryd.prog 21 #[v, u, .int .i8 gx, .int .i8 gy] w fun r w' => ∃ bs R p c p2 c2, r = .returned (.agg #[.slice p bs.length c, .slice p2 R.length c2, Ix (Int.tmod gx 32), Ix (Int.tmod gy 32)]) ∧ MadeP bs R (Int.tmod gx 32) (Int.tmod gy 32) ∧ bs.length = min fs.length 16 ∧ 2 * R.length ≤ us.length ∧ St β [rowF BodyF 31 p c bs, rowF RopeF 35 p2 c2 R] w' := by
 refine enter (n := 14) Tryd.func21 rfl Tryd.ntmps21 rfl ?_ hw
 refine c_seq ?_
 refine c_region ?_
 refine l_mv rfl rfl rfl (m_alloc tf85) ?_
 rintro _ _ ⟨b1, rfl, rfl⟩
 refine l_nil ?_
 refine f_then ?_
 refine c_seq ?_
 refine c_region ?_
 refine l_val (v := v) rfl rfl rfl (e_move) ?_
 refine l_val (v := u) rfl rfl rfl (e_move) ?_
 refine l_val (v := .int .i8 (gx)) rfl rfl rfl (e_move) ?_
 refine l_val (v := .int .i8 (gy)) rfl rfl rfl (e_move) ?_
 refine l_call rfl rfl rfl (cl_value (fst := []) (cap := []) (vs := [v, u, .int .i8 (gx), .int .i8 (gy)]) (all := [v, u, .int .i8 (gx), .int .i8 (gy)]) tf131 rfl rfl rfl) ?_
 intro w hw
 obtain ⟨β1, sb, kn, hw1, back⟩ := St.frame_all hw
 refine (made7_ok β1 w hw1 _ _ fs us (Sl.mono _ _ _ _ _ sb hs) (Sl.mono _ _ _ _ _ sb hu) gx gy hgx8 hgy8).mono ?_
 rintro e w' ⟨bs, R, p2, c3, p4, c5, rfl, hmP, hbl, hRu, hw'⟩
 refine ⟨_, rfl, _, back _ _ hw', ?_⟩
 clear hw hw1 hw' back kn sb
 refine l_mu rfl rfl (m_store 2 tf86 (b := b1) (o := 0) (T := 27) (cs := #[.slice none 0 0, .slice none 0 0, .int .i64 (0), .int .i64 (0)]) (cs' := #[.slice p2 (bs.length) c3, .slice p4 (R.length) c5, Ix (Int.tmod gx 32), Ix (Int.tmod gy 32)]) (v := .agg #[.slice p2 (bs.length) c3, .slice p4 (R.length) c5, Ix (Int.tmod gx 32), Ix (Int.tmod gy 32)]) rfl rfl rfl rfl rfl rfl rfl) ?_
 refine l_nil ?_
 refine f_then ?_
 refine c_ret ?_
 refine retG (l := [.cell 8 27]) (m := [.agg #[.slice p2 (bs.length) c3, .slice p4 (R.length) c5, Ix (Int.tmod gx 32), Ix (Int.tmod gy 32)]]) (v := .agg #[.slice p2 (bs.length) c3, .slice p4 (R.length) c5, Ix (Int.tmod gx 32), Ix (Int.tmod gy 32)]) Tryd.results21 ⟨rd_cell tf86 (cs := [.slice p2 (bs.length) c3, .slice p4 (R.length) c5, Ix (Int.tmod gx 32), Ix (Int.tmod gy 32)]) rfl (k_pt 2 (cs := #[.slice p2 (bs.length) c3, .slice p4 (R.length) c5, Ix (Int.tmod gx 32), Ix (Int.tmod gy 32)]) (vs := [.slice p2 (bs.length) c3, .slice p4 (R.length) c5, Ix (Int.tmod gx 32), Ix (Int.tmod gy 32)]) rfl rfl) rfl, trivial⟩ rfl ?_
 intro w hw
 exact ⟨bs, R, _, _, _, _, rfl, hmP, hbl, hRu, st_mask [true, true, false] rfl hw⟩
end Go.Proofs
