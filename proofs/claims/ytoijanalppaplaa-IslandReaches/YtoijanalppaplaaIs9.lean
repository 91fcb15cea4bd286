/-
  IslandReaches: walked. Printed by a program of my own.
-/
import Derived.Test.YtoijanalppaplaaIsLaw3
namespace Go.Proofs
open Go Go.Sl Go.Brd Go.Stp Go.Isl
theorem tf84 : fldB Try.prog 39 1 1 2 true = true := by kernel_rfl
theorem tf85 : Try.prog.underlying 5 = some (.int .u8) := by kernel_rfl
theorem tf86 : Try.prog.underlying 3 = some (.int .i64) := by kernel_rfl
theorem tf87 : fldB Try.prog 39 2 3 2 true = true := by kernel_rfl
theorem tf88 : Try.prog.underlying 25 = some (.int .u16) := by kernel_rfl
theorem tf89 : cfB Try.prog 17 = true := by kernel_rfl
theorem tf90 : fldB Try.prog 46 0 0 2 true = true := by kernel_rfl
theorem tf91 : fldB Try.prog 46 1 2 2 true = true := by kernel_rfl
theorem tf92 : lay Try.prog 10000 30 = some [.int .i64, .int .i64] := by kernel_rfl
theorem tf93 : isAggT Try.prog 30 = true := by kernel_rfl
theorem tf94 : Try.prog.eqGuardType Try.prog.depth 30 = false := by kernel_rfl
theorem atc_ok (β : Base) (w : World) (hw : St β [] w) (c : Nat) (b : KB) (hb : okB b) (dx dy : Int) (hx1 : -1000000 ≤ b.x + dx ∧ b.x + dx ≤ 1000000) (hx2 : -1000000 ≤ b.y + dy ∧ b.y + dy ≤ 1000000) (hc : Cs β.heap ⟨c, 0, none⟩ (bodyE b)) : Calls Try.prog 17 #[Ix dx, Ix dy, .pointer (some ⟨c, 0, none⟩)] w fun r w' => r = .returned (.tuple #[.agg #[Ix (b.x + dx - b.w), Ix (b.y + dy - b.h)], .agg #[Ix (b.x + dx + b.w), Ix (b.y + dy + b.h)]]) ∧ St β [] w' := by
  refine enter (n := 25) Try.func17 rfl Try.ntmps17 rfl ?_ hw
  refine c_seq ?_
  refine c_region ?_
  refine l_mv rfl rfl rfl (m_alloc tf8) ?_
  rintro _ _ ⟨b1, rfl, rfl⟩
  refine l_mv rfl rfl rfl (m_alloc tf8) ?_
  rintro _ _ ⟨b2, rfl, rfl⟩
  refine l_nil ?_
  refine f_then ?_
  refine c_seq ?_
  refine c_region ?_
  refine l_val (v := .agg (bC b)) rfl rfl rfl (e_load tf1 (cs := (bodyE b)) rfl (Knows.of_base (Cs.mono _ _) hc) rfl) ?_
  refine l_mv rfl rfl rfl (m_alloc tf17) ?_
  rintro _ _ ⟨b3, rfl, rfl⟩
  refine l_mu rfl rfl (m_store 0 tf1 (b := b3) (o := 0) (T := 39) (cs := #[.int .i64 (0), .int .i64 (0), .int .i64 (0), .int .i64 (0), .int .i64 (0), .int .i64 (0), .int .i64 (0), .bool false, .bool false]) (cs' := (bC b)) (v := .agg (bC b)) rfl rfl rfl rfl rfl rfl rfl) ?_
  refine l_nil ?_
  refine f_then ?_
  refine c_seq ?_
  refine c_region ?_
  refine l_val (v := .pointer (some ((⟨c, 0, none⟩ : Addr).add 1))) rfl rfl rfl (e_fieldAddr (a := ⟨c, 0, none⟩) rfl tf84) ?_
  refine l_val (v := .pointer (some (((⟨c, 0, none⟩ : Addr).add 1 : Addr).add 0))) rfl rfl rfl (e_fieldAddr (a := (⟨c, 0, none⟩ : Addr).add 1) rfl tf10) ?_
  refine l_val (v := Ix (b.x)) rfl rfl rfl (e_load1 tf11 (v := Ix (b.x)) rfl (Knows.imp (Knows.imp (Knows.of_base (Cs.mono _ _) hc) (fun _ h => Cs.sub (vs := [Ix (b.x), Ix (b.y)]) 1 h rfl)) (fun _ h => Cs.sub (vs := [Ix (b.x)]) 0 h rfl))) ?_
  refine l_val (v := Ix (dx)) rfl rfl rfl (e_move) ?_
  refine l_val (v := Ix ((b.x) + (dx))) rfl rfl rfl (e_add (a := (b.x)) (b := (dx)) rfl rfl (i64w (by omega))) ?_
  refine l_val (v := .pointer (some ((⟨c, 0, none⟩ : Addr).add 1))) rfl rfl rfl (e_fieldAddr (a := ⟨c, 0, none⟩) rfl tf84) ?_
  refine l_val (v := .pointer (some (((⟨c, 0, none⟩ : Addr).add 1 : Addr).add 1))) rfl rfl rfl (e_fieldAddr (a := (⟨c, 0, none⟩ : Addr).add 1) rfl tf12) ?_
  refine l_val (v := Ix (b.y)) rfl rfl rfl (e_load1 tf11 (v := Ix (b.y)) rfl (Knows.imp (Knows.imp (Knows.of_base (Cs.mono _ _) hc) (fun _ h => Cs.sub (vs := [Ix (b.x), Ix (b.y)]) 1 h rfl)) (fun _ h => Cs.sub (vs := [Ix (b.y)]) 1 h rfl))) ?_
  refine l_val (v := Ix (dy)) rfl rfl rfl (e_move) ?_
  refine l_val (v := Ix ((b.y) + (dy))) rfl rfl rfl (e_add (a := (b.y)) (b := (dy)) rfl rfl (i64w (by omega))) ?_
  refine l_val (v := .agg #[Ix ((b.x) + (dx)), Ix ((b.y) + (dy))]) rfl rfl rfl (e_build tf8 tf13 (vs := [(0, Ix ((b.x) + (dx))), (1, Ix ((b.y) + (dy)))]) (cells := #[Ix ((b.x) + (dx)), Ix ((b.y) + (dy))]) rfl rfl) ?_
  refine l_val (v := .pointer (some ⟨b3, 1, none⟩)) rfl rfl rfl (e_fieldPt (b := b3) (o := 0) rfl tf84) ?_
  refine l_mu rfl rfl (m_store 0 tf5 (b := b3) (o := 1) (T := 39) (cs := (bC b)) (cs' := #[Ix (b.id), Ix ((b.x) + (dx)), Ix ((b.y) + (dy)), Ix (b.vx), Ix (b.vy), Ix (b.w), Ix (b.h), .bool (b.round), .bool (b.fixed)]) (v := .agg #[Ix ((b.x) + (dx)), Ix ((b.y) + (dy))]) rfl rfl rfl rfl rfl rfl rfl) ?_
  refine l_nil ?_
  refine f_then ?_
  refine c_seq ?_
  refine c_region ?_
  refine l_val (v := .agg #[Ix (b.id), Ix ((b.x) + (dx)), Ix ((b.y) + (dy)), Ix (b.vx), Ix (b.vy), Ix (b.w), Ix (b.h), .bool (b.round), .bool (b.fixed)]) rfl rfl rfl (e_load tf1 (cs := [Ix (b.id), Ix ((b.x) + (dx)), Ix ((b.y) + (dy)), Ix (b.vx), Ix (b.vy), Ix (b.w), Ix (b.h), .bool (b.round), .bool (b.fixed)]) rfl (k_pt 0 (cs := #[Ix (b.id), Ix ((b.x) + (dx)), Ix ((b.y) + (dy)), Ix (b.vx), Ix (b.vy), Ix (b.w), Ix (b.h), .bool (b.round), .bool (b.fixed)]) (vs := [Ix (b.id), Ix ((b.x) + (dx)), Ix ((b.y) + (dy)), Ix (b.vx), Ix (b.vy), Ix (b.w), Ix (b.h), .bool (b.round), .bool (b.fixed)]) rfl rfl) rfl) ?_
  refine l_call rfl rfl rfl (cl_value (fst := []) (cap := []) (vs := [.agg #[Ix (b.id), Ix ((b.x) + (dx)), Ix ((b.y) + (dy)), Ix (b.vx), Ix (b.vy), Ix (b.w), Ix (b.h), .bool (b.round), .bool (b.fixed)]]) (all := [.agg #[Ix (b.id), Ix ((b.x) + (dx)), Ix ((b.y) + (dy)), Ix (b.vx), Ix (b.vy), Ix (b.w), Ix (b.h), .bool (b.round), .bool (b.fixed)]]) tf7 rfl rfl rfl) ?_
  intro w hw
  obtain ⟨β1, sb, kn, hw1, back⟩ := St.frame_all hw
  refine (bounds_ok β1 w hw1 (movedB b dx dy) (movedB_ok hb hx1 hx2)).mono ?_
  rintro e w' ⟨rfl, hw'⟩
  refine ⟨_, rfl, _, back _ _ hw', ?_⟩
  clear hw hw1 hw' back kn sb
  refine l_val (v := .agg #[Ix (b.x + dx - b.w), Ix (b.y + dy - b.h)]) rfl rfl rfl (e_extract (vs := #[.agg #[Ix (b.x + dx - b.w), Ix (b.y + dy - b.h)], .agg #[Ix (b.x + dx + b.w), Ix (b.y + dy + b.h)]]) rfl rfl) ?_
  refine l_val (v := .agg #[Ix (b.x + dx + b.w), Ix (b.y + dy + b.h)]) rfl rfl rfl (e_extract (vs := #[.agg #[Ix (b.x + dx - b.w), Ix (b.y + dy - b.h)], .agg #[Ix (b.x + dx + b.w), Ix (b.y + dy + b.h)]]) rfl rfl) ?_
  refine l_mu rfl rfl (m_store 2 tf5 (b := b1) (o := 0) (T := 30) (cs := #[.int .i64 (0), .int .i64 (0)]) (cs' := #[Ix (b.x + dx - b.w), Ix (b.y + dy - b.h)]) (v := .agg #[Ix (b.x + dx - b.w), Ix (b.y + dy - b.h)]) rfl rfl rfl rfl rfl rfl rfl) ?_
  refine l_mu rfl rfl (m_store 1 tf5 (b := b2) (o := 0) (T := 30) (cs := #[.int .i64 (0), .int .i64 (0)]) (cs' := #[Ix (b.x + dx + b.w), Ix (b.y + dy + b.h)]) (v := .agg #[Ix (b.x + dx + b.w), Ix (b.y + dy + b.h)]) rfl rfl rfl rfl rfl rfl rfl) ?_
  refine l_nil ?_
  refine f_then ?_
  refine c_ret ?_
  refine retG (l := [.cell 5 30, .cell 6 30]) (m := [.agg #[Ix (b.x + dx - b.w), Ix (b.y + dy - b.h)], .agg #[Ix (b.x + dx + b.w), Ix (b.y + dy + b.h)]]) (v := .tuple #[.agg #[Ix (b.x + dx - b.w), Ix (b.y + dy - b.h)], .agg #[Ix (b.x + dx + b.w), Ix (b.y + dy + b.h)]]) Try.results17 ⟨rd_cell tf5 (cs := [Ix (b.x + dx - b.w), Ix (b.y + dy - b.h)]) rfl (k_pt 2 (cs := #[Ix (b.x + dx - b.w), Ix (b.y + dy - b.h)]) (vs := [Ix (b.x + dx - b.w), Ix (b.y + dy - b.h)]) rfl rfl) rfl, rd_cell tf5 (cs := [Ix (b.x + dx + b.w), Ix (b.y + dy + b.h)]) rfl (k_pt 1 (cs := #[Ix (b.x + dx + b.w), Ix (b.y + dy + b.h)]) (vs := [Ix (b.x + dx + b.w), Ix (b.y + dy + b.h)]) rfl rfl) rfl, trivial⟩ rfl ?_
  intro w hw
  exact ⟨rfl, st_mask [false, false, false] rfl hw⟩
set_option maxHeartbeats 4000000 in
theorem reaches_ok (β : Base) (w : World) (hw : St β [] w) (v : Value) (fs : List KF) (hs : Sl FormR β.heap v fs) (gx gy : Int) (hgx8 : -128 ≤ gx ∧ gx ≤ 127) (hgy8 : -128 ≤ gy ∧ gy ≤ 127) (wh : UInt8) (px py : Nat) (hpx : px ≤ 65535) (hpy : py ≤ 65535) : Calls Try.prog 4 #[v, .int .i8 gx, .int .i8 gy, Bx wh, .int .u16 ((px : Nat) : Int), .int .u16 ((py : Nat) : Int)] w fun r w' => r = .returned (.bool true) ∧ St β [] w' := by
  refine enter (n := 175) Try.func4 rfl Try.ntmps4 rfl ?_ hw
  refine c_seq ?_
  refine c_region ?_
  refine l_val (v := .bool false) rfl rfl rfl (e_assign) ?_
  refine l_nil ?_
  refine f_then ?_
  refine c_seq ?_
  refine c_seq ?_
  refine c_region ?_
  refine l_call rfl rfl rfl (cl_value (fst := []) (cap := []) (vs := []) (all := []) tf81 rfl rfl rfl) ?_
  intro w hw
  obtain ⟨β1, sb, kn, hw1, back⟩ := St.frame_all hw
  refine (awake_ok β1 w hw1).mono ?_
  rintro e w' ⟨rfl, hw'⟩
  refine ⟨_, rfl, _, back _ _ hw', ?_⟩
  clear hw hw1 hw' back kn sb
  refine l_val (v := .bool false) rfl rfl rfl (e_not (a := true) rfl) ?_
  refine l_nil ?_
  refine f_then ?_
  refine c_no rfl ?_
  refine c_skip ?_
  refine f_then ?_
  refine c_seq ?_
  refine c_region ?_
  refine l_val (v := v) rfl rfl rfl (e_move) ?_
  refine l_val (v := .int .i8 (gx)) rfl rfl rfl (e_move) ?_
  refine l_val (v := .int .i8 (gy)) rfl rfl rfl (e_move) ?_
  refine l_call rfl rfl rfl (cl_value (fst := []) (cap := []) (vs := [v, .slice none 0 0, .int .i8 (gx), .int .i8 (gy)]) (all := [v, .slice none 0 0, .int .i8 (gx), .int .i8 (gy)]) tf82 rfl rfl rfl) ?_
  intro w hw
  obtain ⟨β1, sb, kn, hw1, back⟩ := St.frame_all hw
  refine (made7_ok β1 w hw1 _ _ fs [] (Sl.mono _ _ _ _ _ sb hs) (Sl.nil _ _) gx gy hgx8 hgy8).mono ?_
  rintro e w' ⟨bs, R, p1, c2, q3, d4, rfl, hmP, hbl, hrl, hw'⟩
  refine ⟨_, rfl, _, back _ _ hw', ?_⟩
  clear hw hw1 hw' back kn sb
  refine l_mv rfl rfl rfl (m_alloc tf67) ?_
  rintro _ _ ⟨b5, rfl, rfl⟩
  refine l_mu rfl rfl (m_store 0 tf31 (b := b5) (o := 0) (T := 32) (cs := #[.slice none 0 0, .slice none 0 0, .int .i64 (0), .int .i64 (0)]) (cs' := #[.slice p1 (bs.length) c2, .slice q3 (R.length) d4, Ix ((Int.tmod gx 32)), Ix ((Int.tmod gy 32))]) (v := .agg #[.slice p1 (bs.length) c2, .slice q3 (R.length) d4, Ix ((Int.tmod gx 32)), Ix ((Int.tmod gy 32))]) rfl rfl rfl rfl rfl rfl rfl) ?_
  refine l_nil ?_
  refine f_then ?_
  refine c_seq ?_
  refine c_seq ?_
  have hgX := tmod_bd gx
  have hgY := tmod_bd gy
  obtain ⟨gX, hgx1⟩ : ∃ z, z = Int.tmod gx 32 := ⟨_, rfl⟩
  obtain ⟨gY, hgy1⟩ : ∃ z, z = Int.tmod gy 32 := ⟨_, rfl⟩
  rw [← hgx1] at hgX hmP
  rw [← hgy1] at hgY hmP
  rw [← hgx1, ← hgy1]
  have hok := hmP.ok
  obtain ⟨hk1, hk2, hk3, hk4, hk5, hk6⟩ := id hok
  have hfew := hmP.few
  refine c_freeze2 (M := [pt b5 (.cells #[.slice p1 (bs.length) c2, .slice q3 (R.length) d4, Ix (gX), Ix (gY)] 32)]) (K := [rowF BodyF 39 p1 c2 bs, rowF RopeF 49 q3 d4 R]) rfl (fun βf ext1 kn1 bk1 => ?_)
  have hslB : Sl KBR βf.heap (.slice p1 bs.length c2) bs := kn1 _ (k_fl 0 (F := BodyF) rfl)
  obtain ⟨-, hcB, hmB, heB⟩ := hslB.parts
  have hslR : Sl KRR βf.heap (.slice q3 R.length d4) R := kn1 _ (k_fl 1 (F := RopeF) rfl)
  obtain ⟨-, hcR, hmR, heR⟩ := hslR.parts
  refine c_region ?_
  refine l_val (v := .pointer (some ⟨b5, 0, none⟩)) rfl rfl rfl (e_fieldPt (b := b5) (o := 0) rfl tf33) ?_
  refine l_val (v := .slice p1 (bs.length) (c2)) rfl rfl rfl (e_load1 tf26 (v := .slice p1 (bs.length) (c2)) rfl (k_pt 0 (cs := #[.slice p1 (bs.length) (c2), .slice q3 (R.length) (d4), Ix (gX), Ix (gY)]) (vs := [.slice p1 (bs.length) (c2)]) rfl rfl)) ?_
  refine l_val (v := Nx (bs.length)) rfl rfl rfl (e_len (a := p1) (n := bs.length) (c := c2) rfl tf15) ?_
  refine l_val (v := .bool (decide (((bs.length : Nat) : Int) = (0 : Int)))) rfl rfl rfl (e_eql (a := ((bs.length : Nat) : Int)) (b := (0 : Int)) rfl rfl) ?_
  refine l_nil ?_
  refine f_then ?_
  refine c_if (((bs.length : Nat) : Int) = (0 : Int)) rfl (fun hc6 => ?_) (fun hc6 => ?_)
  ·
    refine c_seq ?_
    refine c_region ?_
    refine l_val (v := .bool true) rfl rfl rfl (e_assign) ?_
    refine l_nil ?_
    refine f_then ?_
    refine c_ret ?_
    refine f_then_ret ?_
    refine ret1 Try.results4 (v := .bool true) rfl ?_
    intro w hw
    exact ⟨rfl, st_mask [false, false] rfl (bk1 _ _ (st_mask [false] rfl hw))⟩
  ·
    refine c_skip ?_
    refine f_then ?_
    refine c_seq ?_
    have hml : wh.toNat % bs.length < bs.length := Nat.mod_lt _ (by omega)
    obtain ⟨x7, hx8⟩ : ∃ x_, (bs)[wh.toNat % bs.length]? = some x_ := ⟨_, List.getElem?_eq_getElem (by omega)⟩
    obtain ⟨ha9, cs10, hc11, rfl⟩ := heB _ _ hx8
    refine c_any [⟨[], [], [0], [34], fun f => f 34 = .pointer (some ⟨b5, 0, none⟩)⟩, ⟨[0], [0], [], [35], fun f => f 35 = .slice p1 (bs.length) (c2)⟩, ⟨[], [], [1], [36], fun f => f 36 = Bx (wh)⟩, ⟨[2], [2], [], [37], fun f => f 37 = Nx (wh.toNat)⟩, ⟨[], [], [0], [38], fun f => f 38 = .pointer (some ⟨b5, 0, none⟩)⟩, ⟨[4], [4], [], [39], fun f => f 39 = .slice p1 (bs.length) (c2)⟩, ⟨[4, 5], [5], [], [40], fun f => f 40 = Nx (bs.length)⟩, ⟨[2, 3, 4, 5, 6], [3, 6], [], [41], fun f => f 41 = Nx (wh.toNat % bs.length)⟩, ⟨[0, 1, 2, 3, 4, 5, 6, 7], [1, 7], [], [42], fun f => f 42 = .pointer (some ((ba p1).add ((wh.toNat % bs.length) * 9)))⟩, ⟨[0, 1, 2, 3, 4, 5, 6, 7, 8], [8], [], [43], fun f => f 43 = .agg (bC x7)⟩, ⟨[], [], [], [14], fun f => f 14 = .pointer (some ⟨(blk (f 14)), 0, none⟩)⟩, ⟨[0, 1, 2, 3, 4, 5, 6, 7, 8, 9, 10], [10, 9], [], [], fun _ => True⟩] [⟨none, none, [1, 5], [], fun _ => pt b5 (.cells #[.slice p1 (bs.length) (c2), .slice q3 (R.length) (d4), Ix (gX), Ix (gY)] 32)⟩, ⟨(some 10), (some 11), [11], [14], fun f => pt (blk (f 14)) (.cells #[.int .i64 (0), .int .i64 (0), .int .i64 (0), .int .i64 (0), .int .i64 (0), .int .i64 (0), .int .i64 (0), .bool false, .bool false] 39)⟩, ⟨(some 11), none, [], [14], fun f => pt (blk (f 14)) (.cells (bC x7) 39)⟩] [(13, .pointer (some ⟨b5, 0, none⟩)), (3, Bx (wh)), (4, .int .u16 (((px : Nat)) : Int)), (5, .int .u16 (((py : Nat)) : Int))] [2, 3, 0] [] (by kernel_rfl) (by kernel_rfl) (by kernel_rfl) (by kernel_rfl) rfl ⟨rfl, rfl, rfl, rfl, trivial⟩ ⟨?_, ?_, ?_, ?_, ?_, ?_, ?_, ?_, ?_, ?_, ?_, ?_, trivial⟩ ?_
    · rintro f M - ⟨i0, -⟩
      have hs13 : f 13 = .pointer (some ⟨b5, 0, none⟩) := i0
      refine ob_start (L' := M) (by rfl) (up_cons rfl hs13) ?_
      refine l_val (v := .pointer (some ⟨b5, 0, none⟩)) rfl rfl rfl (e_fieldPt (b := b5) (o := 0) rfl tf33) ?_
      refine l_nil ?_
      exact f_owes_d (up_cons rfl hs13) rfl (List.Perm.refl _)
    · rintro f M ⟨k0, -⟩ -
      have hs34 : f 34 = .pointer (some ⟨b5, 0, none⟩) := k0
      refine ob_start (L' := pt b5 (.cells #[.slice p1 (bs.length) (c2), .slice q3 (R.length) (d4), Ix (gX), Ix (gY)] 32) :: M) (by rfl) (up_cons rfl hs34) ?_
      refine l_val (v := .slice p1 (bs.length) (c2)) rfl rfl rfl (e_load1 tf26 (v := .slice p1 (bs.length) (c2)) rfl (k_pt 0 (cs := #[.slice p1 (bs.length) (c2), .slice q3 (R.length) (d4), Ix (gX), Ix (gY)]) (vs := [.slice p1 (bs.length) (c2)]) rfl rfl)) ?_
      refine l_nil ?_
      exact f_owes_d (up_cons rfl hs34) rfl (perm_front 0 rfl)
    · rintro f M - ⟨i0, -⟩
      have hs3 : f 3 = Bx (wh) := i0
      refine ob_start (L' := M) (by rfl) (up_cons rfl hs3) ?_
      refine l_val (v := Bx (wh)) rfl rfl rfl (e_move) ?_
      refine l_nil ?_
      exact f_owes_d (up_cons rfl hs3) rfl (List.Perm.refl _)
    · rintro f M ⟨k0, -⟩ -
      have hs36 : f 36 = Bx (wh) := k0
      refine ob_start (L' := M) (by rfl) (up_cons rfl hs36) ?_
      refine l_val (v := Nx (wh.toNat)) rfl rfl rfl (e_conv (a := ((wh).toNat : Int)) rfl ⟨_, tf85⟩ tf86 (i64n rfl (by have := (wh).toNat_lt; omega))) ?_
      refine l_nil ?_
      exact f_owes_d (up_cons rfl hs36) rfl (List.Perm.refl _)
    · rintro f M - ⟨i0, -⟩
      have hs13 : f 13 = .pointer (some ⟨b5, 0, none⟩) := i0
      refine ob_start (L' := M) (by rfl) (up_cons rfl hs13) ?_
      refine l_val (v := .pointer (some ⟨b5, 0, none⟩)) rfl rfl rfl (e_fieldPt (b := b5) (o := 0) rfl tf33) ?_
      refine l_nil ?_
      exact f_owes_d (up_cons rfl hs13) rfl (List.Perm.refl _)
    · rintro f M ⟨k0, -⟩ -
      have hs38 : f 38 = .pointer (some ⟨b5, 0, none⟩) := k0
      refine ob_start (L' := pt b5 (.cells #[.slice p1 (bs.length) (c2), .slice q3 (R.length) (d4), Ix (gX), Ix (gY)] 32) :: M) (by rfl) (up_cons rfl hs38) ?_
      refine l_val (v := .slice p1 (bs.length) (c2)) rfl rfl rfl (e_load1 tf26 (v := .slice p1 (bs.length) (c2)) rfl (k_pt 0 (cs := #[.slice p1 (bs.length) (c2), .slice q3 (R.length) (d4), Ix (gX), Ix (gY)]) (vs := [.slice p1 (bs.length) (c2)]) rfl rfl)) ?_
      refine l_nil ?_
      exact f_owes_d (up_cons rfl hs38) rfl (perm_front 0 rfl)
    · rintro f M ⟨k0, -⟩ -
      have hs39 : f 39 = .slice p1 (bs.length) (c2) := k0
      refine ob_start (L' := M) (by rfl) (up_cons rfl hs39) ?_
      refine l_val (v := Nx (bs.length)) rfl rfl rfl (e_len (a := p1) (n := bs.length) (c := c2) rfl tf15) ?_
      refine l_nil ?_
      exact f_owes_d (up_cons rfl hs39) rfl (List.Perm.refl _)
    · rintro f M ⟨k0, k1, -⟩ -
      have hs37 : f 37 = Nx (wh.toNat) := k0
      have hs40 : f 40 = Nx (bs.length) := k1
      refine ob_start (L' := M) (by rfl) (up_cons (up_cons rfl hs37) hs40) ?_
      refine l_val (v := Nx (wh.toNat % bs.length)) rfl rfl rfl (e_rem (a := ((wh.toNat : Nat) : Int)) (b := ((bs.length : Nat) : Int)) rfl rfl (by omega) (nat_tmod _ _)) ?_
      refine l_nil ?_
      exact f_owes_d (up_cons (up_cons rfl hs37) hs40) rfl (List.Perm.refl _)
    · rintro f M ⟨k0, k1, -⟩ -
      have hs35 : f 35 = .slice p1 (bs.length) (c2) := k0
      have hs41 : f 41 = Nx (wh.toNat % bs.length) := k1
      refine ob_start (L' := M) (by rfl) (up_cons (up_cons rfl hs35) hs41) ?_
      refine l_val (v := .pointer (some ((ba p1).add ((wh.toNat % bs.length) * 9)))) rfl rfl rfl (e_indexAddr (k := wh.toNat % bs.length) (len := bs.length) (cap := c2) (a := p1) rfl rfl tf16 (by omega) ha9) ?_
      refine l_nil ?_
      exact f_owes_d (up_cons (up_cons rfl hs35) hs41) rfl (List.Perm.refl _)
    · rintro f M ⟨k0, -⟩ -
      have hs42 : f 42 = .pointer (some ((ba p1).add ((wh.toNat % bs.length) * 9))) := k0
      refine ob_start (L' := M) (by rfl) (up_cons rfl hs42) ?_
      refine l_val (v := .agg (bC x7)) rfl rfl rfl (e_load tf1 (cs := (bodyE x7)) rfl (Knows.of_base (Cs.mono _ _) hc11) rfl) ?_
      refine l_nil ?_
      exact f_owes_d (up_cons rfl hs42) rfl (List.Perm.refl _)
    · rintro f M - -
      refine ob_start (L' := M) (by rfl) rfl ?_
      refine l_mv rfl rfl rfl (m_alloc tf17) ?_
      rintro _ _ ⟨b14, rfl, rfl⟩
      refine l_nil ?_
      exact f_owes_d rfl rfl (perm_front 0 rfl)
    · rintro f M ⟨k0, k1, -⟩ -
      have hs14 : f 14 = .pointer (some ⟨(blk (f 14)), 0, none⟩) := k0
      have hs43 : f 43 = .agg (bC x7) := k1
      refine ob_start (L' := pt (blk (f 14)) (.cells #[.int .i64 (0), .int .i64 (0), .int .i64 (0), .int .i64 (0), .int .i64 (0), .int .i64 (0), .int .i64 (0), .bool false, .bool false] 39) :: M) (by rfl) (up_cons (up_cons rfl hs14) hs43) ?_
      refine l_mu rfl rfl (m_store 0 tf1 (b := (blk (f 14))) (o := 0) (T := 39) (cs := #[.int .i64 (0), .int .i64 (0), .int .i64 (0), .int .i64 (0), .int .i64 (0), .int .i64 (0), .int .i64 (0), .bool false, .bool false]) (cs' := (bC x7)) (v := .agg (bC x7)) rfl rfl rfl rfl rfl rfl rfl) ?_
      refine l_nil ?_
      exact f_owes_n (up_cons (up_cons rfl hs14) hs43) trivial (perm_front 0 rfl)
    rintro fa15 ⟨-, -, -, -, -, -, -, -, -, -, k10, -, -⟩ ⟨j0, j1, j2, -⟩
    refine f_re (L' := [pt b5 (.cells #[.slice p1 (bs.length) (c2), .slice q3 (R.length) (d4), Ix (gX), Ix (gY)] 32), pt (blk (fa15 14)) (.cells (bC x7) 39)]) (by rfl) ?_
    refine f_rebase (d := 4) (v := .int .u16 (((px : Nat)) : Int)) j0 ?_
    refine f_rebase (d := 5) (v := .int .u16 (((py : Nat)) : Int)) j1 ?_
    refine f_rebase (d := 13) (v := .pointer (some ⟨b5, 0, none⟩)) j2 ?_
    refine f_rebase (d := 14) (v := .pointer (some ⟨(blk (fa15 14)), 0, none⟩)) k10 ?_
    refine f_then ?_
    refine c_seq ?_
    have okb := hk4 x7 (List.mem_of_getElem? hx8)
    have hbx := hmP.bodies.2.2 x7 (List.mem_of_getElem? hx8)
    have okb' := id okb
    obtain ⟨bo1, bo2, bo3, bo4, bo5, bo6, bo7, -, -⟩ := okb'
    have hsb := speed_bd x7 gX gY
    obtain ⟨hr1, hr2, hr3, hr4⟩ := reach_at okb hk3
    obtain ⟨hpx1, hpx2⟩ := part_bd hsb.1 hpx
    obtain ⟨hpy1, hpy2⟩ := part_bd hsb.2 hpy
    obtain ⟨qx, hqx⟩ : ∃ z, z = Int.tdiv (speedX x7 gX gY * (px : Int)) 65535 := ⟨_, rfl⟩
    obtain ⟨qy, hqy⟩ : ∃ z, z = Int.tdiv (speedY x7 gX gY * (py : Int)) 65535 := ⟨_, rfl⟩
    rw [← hqx] at hpx2
    rw [← hqy] at hpy2
    refine c_any [⟨[], [], [0], [44], fun f => f 44 = .agg (bC x7)⟩, ⟨[], [], [1], [45], fun f => f 45 = .pointer (some ⟨b5, 2, none⟩)⟩, ⟨[1], [1], [], [46], fun f => f 46 = .agg #[Ix (gX), Ix (gY)]⟩, ⟨[0, 1, 2], [0, 2], [], [47], fun f => f 47 = .agg #[Ix (speedX x7 gX gY), Ix (speedY x7 gX gY)]⟩, ⟨[], [], [0], [48], fun f => f 48 = .agg (bC x7)⟩, ⟨[], [], [1], [49], fun f => f 49 = .pointer (some ⟨b5, 2, none⟩)⟩, ⟨[5], [5], [], [50], fun f => f 50 = .agg #[Ix (gX), Ix (gY)]⟩, ⟨[0, 1, 2, 3, 4, 5, 6], [4, 6], [], [51], fun f => f 51 = .agg (aC (reachA x7 gX gY))⟩, ⟨[], [], [], [15], fun f => f 15 = .pointer (some ⟨(blk (f 15)), 0, none⟩)⟩, ⟨[], [], [], [16], fun f => f 16 = .pointer (some ⟨(blk (f 16)), 0, none⟩)⟩, ⟨[0, 1, 2, 3, 4, 5, 6, 7, 8, 9], [8, 3], [], [], fun _ => True⟩, ⟨[0, 1, 2, 3, 4, 5, 6, 7, 8, 9, 10], [9, 7], [], [], fun _ => True⟩] [⟨none, none, [2, 6], [], fun _ => pt b5 (.cells #[.slice p1 (bs.length) (c2), .slice q3 (R.length) (d4), Ix (gX), Ix (gY)] 32)⟩, ⟨none, none, [0, 4], [], fun _ => pt (blk (fa15 14)) (.cells (bC x7) 39)⟩, ⟨(some 8), (some 10), [10], [15], fun f => pt (blk (f 15)) (.cells #[.int .i64 (0), .int .i64 (0)] 30)⟩, ⟨(some 9), (some 11), [11], [16], fun f => pt (blk (f 16)) (.cells #[.int .i64 (0), .int .i64 (0), .int .i64 (0), .int .i64 (0)] 46)⟩, ⟨(some 10), none, [], [15], fun f => pt (blk (f 15)) (.cells #[Ix (speedX x7 gX gY), Ix (speedY x7 gX gY)] 30)⟩, ⟨(some 11), none, [], [16], fun f => pt (blk (f 16)) (.cells (aC (reachA x7 gX gY)) 46)⟩] [(14, .pointer (some ⟨(blk (fa15 14)), 0, none⟩)), (13, .pointer (some ⟨b5, 0, none⟩)), (4, .int .u16 (((px : Nat)) : Int)), (5, .int .u16 (((py : Nat)) : Int))] [2, 3, 1, 0] [] (by kernel_rfl) (by kernel_rfl) (by kernel_rfl) (by kernel_rfl) rfl ⟨rfl, rfl, rfl, rfl, trivial⟩ ⟨?_, ?_, ?_, ?_, ?_, ?_, ?_, ?_, ?_, ?_, ?_, ?_, trivial⟩ ?_
    · rintro f M - ⟨i0, -⟩
      have hs14 : f 14 = .pointer (some ⟨(blk (fa15 14)), 0, none⟩) := i0
      refine ob_start (L' := pt (blk (fa15 14)) (.cells (bC x7) 39) :: M) (by rfl) (up_cons rfl hs14) ?_
      refine l_val (v := .agg (bC x7)) rfl rfl rfl (e_load tf1 (cs := (bodyE x7)) rfl (k_pt 0 (cs := (bC x7)) (vs := (bodyE x7)) rfl rfl) rfl) ?_
      refine l_nil ?_
      exact f_owes_d (up_cons rfl hs14) rfl (perm_front 0 rfl)
    · rintro f M - ⟨i0, -⟩
      have hs13 : f 13 = .pointer (some ⟨b5, 0, none⟩) := i0
      refine ob_start (L' := M) (by rfl) (up_cons rfl hs13) ?_
      refine l_val (v := .pointer (some ⟨b5, 2, none⟩)) rfl rfl rfl (e_fieldPt (b := b5) (o := 0) rfl tf40) ?_
      refine l_nil ?_
      exact f_owes_d (up_cons rfl hs13) rfl (List.Perm.refl _)
    · rintro f M ⟨k0, -⟩ -
      have hs45 : f 45 = .pointer (some ⟨b5, 2, none⟩) := k0
      refine ob_start (L' := pt b5 (.cells #[.slice p1 (bs.length) (c2), .slice q3 (R.length) (d4), Ix (gX), Ix (gY)] 32) :: M) (by rfl) (up_cons rfl hs45) ?_
      refine l_val (v := .agg #[Ix (gX), Ix (gY)]) rfl rfl rfl (e_load tf5 (cs := [Ix (gX), Ix (gY)]) rfl (k_pt 0 (cs := #[.slice p1 (bs.length) (c2), .slice q3 (R.length) (d4), Ix (gX), Ix (gY)]) (vs := [Ix (gX), Ix (gY)]) rfl rfl) rfl) ?_
      refine l_nil ?_
      exact f_owes_d (up_cons rfl hs45) rfl (perm_front 0 rfl)
    · rintro f M ⟨k0, k1, -⟩ -
      have hs44 : f 44 = .agg (bC x7) := k0
      have hs46 : f 46 = .agg #[Ix (gX), Ix (gY)] := k1
      refine ob_start (L' := M) (by rfl) (up_cons (up_cons rfl hs44) hs46) ?_
      refine l_call rfl rfl rfl (cl_value (fst := []) (cap := []) (vs := [.agg (bC x7), .agg #[Ix (gX), Ix (gY)]]) (all := [.agg (bC x7), .agg #[Ix (gX), Ix (gY)]]) tf9 rfl rfl rfl) ?_
      intro w hw
      obtain ⟨β1, sb, kn, hw1, back⟩ := St.frame_all hw
      refine (speed_ok β1 w hw1 x7 gX gY (by omega) (by omega)).mono ?_
      rintro e w' ⟨rfl, hw'⟩
      refine ⟨_, rfl, _, back _ _ hw', ?_⟩
      clear hw hw1 hw' back kn sb
      refine l_nil ?_
      exact f_owes_d (up_cons (up_cons rfl hs44) hs46) rfl (List.Perm.refl _)
    · rintro f M - ⟨i0, -⟩
      have hs14 : f 14 = .pointer (some ⟨(blk (fa15 14)), 0, none⟩) := i0
      refine ob_start (L' := pt (blk (fa15 14)) (.cells (bC x7) 39) :: M) (by rfl) (up_cons rfl hs14) ?_
      refine l_val (v := .agg (bC x7)) rfl rfl rfl (e_load tf1 (cs := (bodyE x7)) rfl (k_pt 0 (cs := (bC x7)) (vs := (bodyE x7)) rfl rfl) rfl) ?_
      refine l_nil ?_
      exact f_owes_d (up_cons rfl hs14) rfl (perm_front 0 rfl)
    · rintro f M - ⟨i0, -⟩
      have hs13 : f 13 = .pointer (some ⟨b5, 0, none⟩) := i0
      refine ob_start (L' := M) (by rfl) (up_cons rfl hs13) ?_
      refine l_val (v := .pointer (some ⟨b5, 2, none⟩)) rfl rfl rfl (e_fieldPt (b := b5) (o := 0) rfl tf40) ?_
      refine l_nil ?_
      exact f_owes_d (up_cons rfl hs13) rfl (List.Perm.refl _)
    · rintro f M ⟨k0, -⟩ -
      have hs49 : f 49 = .pointer (some ⟨b5, 2, none⟩) := k0
      refine ob_start (L' := pt b5 (.cells #[.slice p1 (bs.length) (c2), .slice q3 (R.length) (d4), Ix (gX), Ix (gY)] 32) :: M) (by rfl) (up_cons rfl hs49) ?_
      refine l_val (v := .agg #[Ix (gX), Ix (gY)]) rfl rfl rfl (e_load tf5 (cs := [Ix (gX), Ix (gY)]) rfl (k_pt 0 (cs := #[.slice p1 (bs.length) (c2), .slice q3 (R.length) (d4), Ix (gX), Ix (gY)]) (vs := [Ix (gX), Ix (gY)]) rfl rfl) rfl) ?_
      refine l_nil ?_
      exact f_owes_d (up_cons rfl hs49) rfl (perm_front 0 rfl)
    · rintro f M ⟨k0, k1, -⟩ -
      have hs48 : f 48 = .agg (bC x7) := k0
      have hs50 : f 50 = .agg #[Ix (gX), Ix (gY)] := k1
      refine ob_start (L' := M) (by rfl) (up_cons (up_cons rfl hs48) hs50) ?_
      refine l_call rfl rfl rfl (cl_value (fst := []) (cap := []) (vs := [.agg (bC x7), .agg #[Ix (gX), Ix (gY)]]) (all := [.agg (bC x7), .agg #[Ix (gX), Ix (gY)]]) tf41 rfl rfl rfl) ?_
      intro w hw
      obtain ⟨β1, sb, kn, hw1, back⟩ := St.frame_all hw
      refine (reachA_ok β1 w hw1 x7 gX gY (by omega) (by omega)).mono ?_
      rintro e w' ⟨rfl, hw'⟩
      refine ⟨_, rfl, _, back _ _ hw', ?_⟩
      clear hw hw1 hw' back kn sb
      refine l_nil ?_
      exact f_owes_d (up_cons (up_cons rfl hs48) hs50) rfl (List.Perm.refl _)
    · rintro f M - -
      refine ob_start (L' := M) (by rfl) rfl ?_
      refine l_mv rfl rfl rfl (m_alloc tf8) ?_
      rintro _ _ ⟨b17, rfl, rfl⟩
      refine l_nil ?_
      exact f_owes_d rfl rfl (perm_front 0 rfl)
    · rintro f M - -
      refine ob_start (L' := M) (by rfl) rfl ?_
      refine l_mv rfl rfl rfl (m_alloc tf0) ?_
      rintro _ _ ⟨b19, rfl, rfl⟩
      refine l_nil ?_
      exact f_owes_d rfl rfl (perm_front 0 rfl)
    · rintro f M ⟨k0, k1, -⟩ -
      have hs15 : f 15 = .pointer (some ⟨(blk (f 15)), 0, none⟩) := k0
      have hs47 : f 47 = .agg #[Ix (speedX x7 gX gY), Ix (speedY x7 gX gY)] := k1
      refine ob_start (L' := pt (blk (f 15)) (.cells #[.int .i64 (0), .int .i64 (0)] 30) :: M) (by rfl) (up_cons (up_cons rfl hs15) hs47) ?_
      refine l_mu rfl rfl (m_store 0 tf5 (b := (blk (f 15))) (o := 0) (T := 30) (cs := #[.int .i64 (0), .int .i64 (0)]) (cs' := #[Ix (speedX x7 gX gY), Ix (speedY x7 gX gY)]) (v := .agg #[Ix (speedX x7 gX gY), Ix (speedY x7 gX gY)]) rfl rfl rfl rfl rfl rfl rfl) ?_
      refine l_nil ?_
      exact f_owes_n (up_cons (up_cons rfl hs15) hs47) trivial (perm_front 0 rfl)
    · rintro f M ⟨k0, k1, -⟩ -
      have hs16 : f 16 = .pointer (some ⟨(blk (f 16)), 0, none⟩) := k0
      have hs51 : f 51 = .agg (aC (reachA x7 gX gY)) := k1
      refine ob_start (L' := pt (blk (f 16)) (.cells #[.int .i64 (0), .int .i64 (0), .int .i64 (0), .int .i64 (0)] 46) :: M) (by rfl) (up_cons (up_cons rfl hs16) hs51) ?_
      refine l_mu rfl rfl (m_store 0 tf4 (b := (blk (f 16))) (o := 0) (T := 46) (cs := #[.int .i64 (0), .int .i64 (0), .int .i64 (0), .int .i64 (0)]) (cs' := (aC (reachA x7 gX gY))) (v := .agg (aC (reachA x7 gX gY))) rfl rfl rfl rfl rfl rfl rfl) ?_
      refine l_nil ?_
      exact f_owes_n (up_cons (up_cons rfl hs16) hs51) trivial (perm_front 0 rfl)
    rintro fa20 ⟨-, -, -, -, -, -, -, -, k8, k9, -, -, -⟩ ⟨j0, j1, j2, j3, -⟩
    refine f_re (L' := [pt b5 (.cells #[.slice p1 (bs.length) (c2), .slice q3 (R.length) (d4), Ix (gX), Ix (gY)] 32), pt (blk (fa15 14)) (.cells (bC x7) 39), pt (blk (fa20 15)) (.cells #[Ix (speedX x7 gX gY), Ix (speedY x7 gX gY)] 30), pt (blk (fa20 16)) (.cells (aC (reachA x7 gX gY)) 46)]) (by rfl) ?_
    refine f_rebase (d := 4) (v := .int .u16 (((px : Nat)) : Int)) j0 ?_
    refine f_rebase (d := 5) (v := .int .u16 (((py : Nat)) : Int)) j1 ?_
    refine f_rebase (d := 13) (v := .pointer (some ⟨b5, 0, none⟩)) j2 ?_
    refine f_rebase (d := 14) (v := .pointer (some ⟨(blk (fa15 14)), 0, none⟩)) j3 ?_
    refine f_rebase (d := 15) (v := .pointer (some ⟨(blk (fa20 15)), 0, none⟩)) k8 ?_
    refine f_rebase (d := 16) (v := .pointer (some ⟨(blk (fa20 16)), 0, none⟩)) k9 ?_
    refine f_then ?_
    refine c_seq ?_
    refine c_seq ?_
    cases hfx : x7.fixed
    ·
      obtain ⟨hs1, hs2⟩ := speed_free okb hk3 hbx.2.2 hgX hgY hfx
      refine c_region ?_
      refine l_val (v := .pointer (some ⟨(blk (fa15 14)), 8, none⟩)) rfl rfl rfl (e_fieldPt (b := (blk (fa15 14))) (o := 0) rfl tf18) ?_
      refine l_val (v := .bool (x7.fixed)) rfl rfl rfl (e_load1 tf19 (v := .bool (x7.fixed)) rfl (k_pt 1 (cs := (bC x7)) (vs := [.bool (x7.fixed)]) rfl rfl)) ?_
      refine l_val (v := .bool (!x7.fixed)) rfl rfl rfl (e_not rfl) ?_
      refine l_val (v := .bool (!x7.fixed)) rfl rfl rfl (e_move) ?_
      refine l_splitb (s := 55) (b := !x7.fixed) rfl (fun h => ?_) (fun h => ?_)
      rotate_left; (rw [(show (!x7.fixed) = true from by rw [hfx]; rfl)] at h; cases h)
      refine g_val (v := .pointer (some ⟨(blk (fa20 15)), 0, none⟩)) rfl rfl rfl rfl rfl (e_fieldPt (b := (blk (fa20 15))) (o := 0) rfl tf10) ?_
      refine g_val (v := Ix (speedX x7 gX gY)) rfl rfl rfl rfl rfl (e_load1 tf11 (v := Ix (speedX x7 gX gY)) rfl (k_pt 2 (cs := #[Ix (speedX x7 gX gY), Ix (speedY x7 gX gY)]) (vs := [Ix (speedX x7 gX gY)]) rfl rfl)) ?_
      refine g_val (v := .pointer (some ⟨(blk (fa15 14)), 3, none⟩)) rfl rfl rfl rfl rfl (e_fieldPt (b := (blk (fa15 14))) (o := 0) rfl tf87) ?_
      refine g_val (v := .pointer (some ⟨(blk (fa15 14)), 3, none⟩)) rfl rfl rfl rfl rfl (e_fieldPt (b := (blk (fa15 14))) (o := 3) rfl tf10) ?_
      refine g_val (v := Ix (x7.vx)) rfl rfl rfl rfl rfl (e_load1 tf11 (v := Ix (x7.vx)) rfl (k_pt 1 (cs := (bC x7)) (vs := [Ix (x7.vx)]) rfl rfl)) ?_
      refine g_val (v := .pointer (some ⟨b5, 2, none⟩)) rfl rfl rfl rfl rfl (e_fieldPt (b := b5) (o := 0) rfl tf40) ?_
      refine g_val (v := .pointer (some ⟨b5, 2, none⟩)) rfl rfl rfl rfl rfl (e_fieldPt (b := b5) (o := 2) rfl tf10) ?_
      refine g_val (v := Ix (gX)) rfl rfl rfl rfl rfl (e_load1 tf11 (v := Ix (gX)) rfl (k_pt 0 (cs := #[.slice p1 (bs.length) (c2), .slice q3 (R.length) (d4), Ix (gX), Ix (gY)]) (vs := [Ix (gX)]) rfl rfl)) ?_
      refine g_val (v := Ix ((x7.vx) + (gX))) rfl rfl rfl rfl rfl (e_add (a := (x7.vx)) (b := (gX)) rfl rfl (i64w (by omega))) ?_
      refine g_val (v := .bool (decide ((speedX x7 gX gY) ≠ ((x7.vx) + (gX))))) rfl rfl rfl rfl rfl (e_neq (a := (speedX x7 gX gY)) (b := ((x7.vx) + (gX))) rfl rfl) ?_
      refine g_val (v := .bool (decide ((speedX x7 gX gY) ≠ ((x7.vx) + (gX))))) rfl rfl rfl rfl rfl (e_move) ?_
      refine l_split (s := 66) (p := (speedX x7 gX gY) ≠ ((x7.vx) + (gX))) rfl (fun h => ?_) (fun h => ?_)
      exact absurd h (by omega)
      refine g_val (v := .pointer (some ⟨(blk (fa20 15)), 1, none⟩)) rfl rfl rfl rfl rfl (e_fieldPt (b := (blk (fa20 15))) (o := 0) rfl tf12) ?_
      refine g_val (v := Ix (speedY x7 gX gY)) rfl rfl rfl rfl rfl (e_load1 tf11 (v := Ix (speedY x7 gX gY)) rfl (k_pt 2 (cs := #[Ix (speedX x7 gX gY), Ix (speedY x7 gX gY)]) (vs := [Ix (speedY x7 gX gY)]) rfl rfl)) ?_
      refine g_val (v := .pointer (some ⟨(blk (fa15 14)), 3, none⟩)) rfl rfl rfl rfl rfl (e_fieldPt (b := (blk (fa15 14))) (o := 0) rfl tf87) ?_
      refine g_val (v := .pointer (some ⟨(blk (fa15 14)), 4, none⟩)) rfl rfl rfl rfl rfl (e_fieldPt (b := (blk (fa15 14))) (o := 3) rfl tf12) ?_
      refine g_val (v := Ix (x7.vy)) rfl rfl rfl rfl rfl (e_load1 tf11 (v := Ix (x7.vy)) rfl (k_pt 1 (cs := (bC x7)) (vs := [Ix (x7.vy)]) rfl rfl)) ?_
      refine g_val (v := .pointer (some ⟨b5, 2, none⟩)) rfl rfl rfl rfl rfl (e_fieldPt (b := b5) (o := 0) rfl tf40) ?_
      refine g_val (v := .pointer (some ⟨b5, 3, none⟩)) rfl rfl rfl rfl rfl (e_fieldPt (b := b5) (o := 2) rfl tf12) ?_
      refine g_val (v := Ix (gY)) rfl rfl rfl rfl rfl (e_load1 tf11 (v := Ix (gY)) rfl (k_pt 0 (cs := #[.slice p1 (bs.length) (c2), .slice q3 (R.length) (d4), Ix (gX), Ix (gY)]) (vs := [Ix (gY)]) rfl rfl)) ?_
      refine g_val (v := Ix ((x7.vy) + (gY))) rfl rfl rfl rfl rfl (e_add (a := (x7.vy)) (b := (gY)) rfl rfl (i64w (by omega))) ?_
      refine g_val (v := .bool (decide ((speedY x7 gX gY) ≠ ((x7.vy) + (gY))))) rfl rfl rfl rfl rfl (e_neq (a := (speedY x7 gX gY)) (b := ((x7.vy) + (gY))) rfl rfl) ?_
      refine g_val (v := .bool (decide ((speedY x7 gX gY) ≠ ((x7.vy) + (gY))))) rfl rfl rfl rfl rfl (e_pick_f rfl) ?_
      refine l_val (v := .bool (decide ((speedY x7 gX gY) ≠ ((x7.vy) + (gY))))) rfl rfl rfl (e_pick_t rfl) ?_
      refine l_val (v := .bool (decide ((speedY x7 gX gY) ≠ ((x7.vy) + (gY))))) rfl rfl rfl (e_move) ?_
      refine l_split (s := 79) (p := (speedY x7 gX gY) ≠ ((x7.vy) + (gY))) rfl (fun h => ?_) (fun h => ?_)
      exact absurd h (by omega)
      refine g_val (v := .pointer (some ⟨(blk (fa15 14)), 8, none⟩)) rfl rfl rfl rfl rfl (e_fieldPt (b := (blk (fa15 14))) (o := 0) rfl tf18) ?_
      refine g_val (v := .bool (x7.fixed)) rfl rfl rfl rfl rfl (e_load1 tf19 (v := .bool (x7.fixed)) rfl (k_pt 1 (cs := (bC x7)) (vs := [.bool (x7.fixed)]) rfl rfl)) ?_
      refine g_val (v := .bool (x7.fixed)) rfl rfl rfl rfl rfl (e_move) ?_
      refine l_splitb (s := 82) (b := x7.fixed) rfl (fun h => ?_) (fun h => ?_)
      (rw [hfx] at h; cases h)
      refine l_skip rfl rfl rfl rfl rfl rfl ?_
      refine l_skip rfl rfl rfl rfl rfl rfl ?_
      refine l_skip rfl rfl rfl rfl rfl rfl ?_
      refine g_val (v := .bool false) rfl rfl rfl rfl rfl (e_pick_f rfl) ?_
      refine l_val (v := .bool false) rfl rfl rfl (e_pick_f rfl) ?_
      refine l_nil ?_
      refine f_then ?_
      refine c_no rfl ?_
      refine c_skip ?_
      refine f_then ?_
      refine c_seq ?_
      refine c_region ?_
      refine l_val (v := .func (.func 17) #[] #[.pointer (some ⟨(blk (fa15 14)), 0, none⟩)]) rfl rfl rfl (e_func (u := []) (v := [.pointer (some ⟨(blk (fa15 14)), 0, none⟩)]) rfl rfl) ?_
      refine l_val (v := .func (.func 17) #[] #[.pointer (some ⟨(blk (fa15 14)), 0, none⟩)]) rfl rfl rfl (e_assign) ?_
      refine l_nil ?_
      refine f_then ?_
      refine c_seq ?_
      refine c_region ?_
      refine l_val (v := .func (.func 17) #[] #[.pointer (some ⟨(blk (fa15 14)), 0, none⟩)]) rfl rfl rfl (e_move) ?_
      refine l_val (v := .pointer (some ⟨(blk (fa20 15)), 0, none⟩)) rfl rfl rfl (e_fieldPt (b := (blk (fa20 15))) (o := 0) rfl tf10) ?_
      refine l_val (v := Ix (speedX x7 gX gY)) rfl rfl rfl (e_load1 tf11 (v := Ix (speedX x7 gX gY)) rfl (k_pt 2 (cs := #[Ix (speedX x7 gX gY), Ix (speedY x7 gX gY)]) (vs := [Ix (speedX x7 gX gY)]) rfl rfl)) ?_
      refine l_val (v := .int .u16 (((px : Nat)) : Int)) rfl rfl rfl (e_move) ?_
      refine l_val (v := Nx (px)) rfl rfl rfl (e_conv (a := ((px : Nat) : Int)) rfl ⟨_, tf88⟩ tf86 (i64n rfl (by omega))) ?_
      refine l_val (v := Ix ((speedX x7 gX gY) * ((px : Nat) : Int))) rfl rfl rfl (e_mul (a := (speedX x7 gX gY)) (b := ((px : Nat) : Int)) rfl rfl (i64w (by omega))) ?_
      refine l_val (v := Ix (qx)) rfl rfl rfl (e_quo (a := ((speedX x7 gX gY) * ((px : Nat) : Int))) (b := (65535 : Int)) rfl rfl (by decide) ((congrArg _ hqx.symm).trans (i64w (by omega)))) ?_
      refine l_val (v := .pointer (some ⟨(blk (fa20 15)), 1, none⟩)) rfl rfl rfl (e_fieldPt (b := (blk (fa20 15))) (o := 0) rfl tf12) ?_
      refine l_val (v := Ix (speedY x7 gX gY)) rfl rfl rfl (e_load1 tf11 (v := Ix (speedY x7 gX gY)) rfl (k_pt 2 (cs := #[Ix (speedX x7 gX gY), Ix (speedY x7 gX gY)]) (vs := [Ix (speedY x7 gX gY)]) rfl rfl)) ?_
      refine l_val (v := .int .u16 (((py : Nat)) : Int)) rfl rfl rfl (e_move) ?_
      refine l_val (v := Nx (py)) rfl rfl rfl (e_conv (a := ((py : Nat) : Int)) rfl ⟨_, tf88⟩ tf86 (i64n rfl (by omega))) ?_
      refine l_val (v := Ix ((speedY x7 gX gY) * ((py : Nat) : Int))) rfl rfl rfl (e_mul (a := (speedY x7 gX gY)) (b := ((py : Nat) : Int)) rfl rfl (i64w (by omega))) ?_
      refine l_val (v := Ix (qy)) rfl rfl rfl (e_quo (a := ((speedY x7 gX gY) * ((py : Nat) : Int))) (b := (65535 : Int)) rfl rfl (by decide) ((congrArg _ hqy.symm).trans (i64w (by omega)))) ?_
      refine l_call rfl rfl rfl (cl_value (fst := []) (cap := [.pointer (some ⟨(blk (fa15 14)), 0, none⟩)]) (vs := [Ix (qx), Ix (qy)]) (all := [Ix (qx), Ix (qy), .pointer (some ⟨(blk (fa15 14)), 0, none⟩)]) tf89 rfl rfl rfl) ?_
      intro w hw
      obtain ⟨β1, sb, kn, hw1, back⟩ := St.frame_all hw
      refine (atc_ok β1 w hw1 (blk (fa15 14)) x7 okb qx qy (by omega) (by omega) (kn _ (k_pt 1 (o := 0) (cs := bC x7) (vs := bodyE x7) rfl rfl))).mono ?_
      rintro e w' ⟨rfl, hw'⟩
      refine ⟨_, rfl, _, back _ _ hw', ?_⟩
      clear hw hw1 hw' back kn sb
      refine l_val (v := .tuple #[.agg #[Ix (x7.x + qx - x7.w), Ix (x7.y + qy - x7.h)], .agg #[Ix (x7.x + qx + x7.w), Ix (x7.y + qy + x7.h)]]) rfl rfl rfl (e_move) ?_
      refine l_val (v := .agg #[Ix (x7.x + qx - x7.w), Ix (x7.y + qy - x7.h)]) rfl rfl rfl (e_extract (vs := #[.agg #[Ix (x7.x + qx - x7.w), Ix (x7.y + qy - x7.h)], .agg #[Ix (x7.x + qx + x7.w), Ix (x7.y + qy + x7.h)]]) rfl rfl) ?_
      refine l_val (v := .agg #[Ix (x7.x + qx + x7.w), Ix (x7.y + qy + x7.h)]) rfl rfl rfl (e_extract (vs := #[.agg #[Ix (x7.x + qx - x7.w), Ix (x7.y + qy - x7.h)], .agg #[Ix (x7.x + qx + x7.w), Ix (x7.y + qy + x7.h)]]) rfl rfl) ?_
      refine l_mv rfl rfl rfl (m_alloc tf8) ?_
      rintro _ _ ⟨b21, rfl, rfl⟩
      refine l_mv rfl rfl rfl (m_alloc tf8) ?_
      rintro _ _ ⟨b22, rfl, rfl⟩
      refine l_mu rfl rfl (m_store 1 tf5 (b := b21) (o := 0) (T := 30) (cs := #[.int .i64 (0), .int .i64 (0)]) (cs' := #[Ix (x7.x + qx - x7.w), Ix (x7.y + qy - x7.h)]) (v := .agg #[Ix (x7.x + qx - x7.w), Ix (x7.y + qy - x7.h)]) rfl rfl rfl rfl rfl rfl rfl) ?_
      refine l_mu rfl rfl (m_store 0 tf5 (b := b22) (o := 0) (T := 30) (cs := #[.int .i64 (0), .int .i64 (0)]) (cs' := #[Ix (x7.x + qx + x7.w), Ix (x7.y + qy + x7.h)]) (v := .agg #[Ix (x7.x + qx + x7.w), Ix (x7.y + qy + x7.h)]) rfl rfl rfl rfl rfl rfl rfl) ?_
      refine l_nil ?_
      refine f_then ?_
      refine c_seq ?_
      refine c_region ?_
      refine l_val (v := .func (.func 17) #[] #[.pointer (some ⟨(blk (fa15 14)), 0, none⟩)]) rfl rfl rfl (e_move) ?_
      refine l_call rfl rfl rfl (cl_value (fst := []) (cap := [.pointer (some ⟨(blk (fa15 14)), 0, none⟩)]) (vs := [.int .i64 (0), .int .i64 (0)]) (all := [.int .i64 (0), .int .i64 (0), .pointer (some ⟨(blk (fa15 14)), 0, none⟩)]) tf89 rfl rfl rfl) ?_
      intro w hw
      obtain ⟨β1, sb, kn, hw1, back⟩ := St.frame_all hw
      refine (atc_ok β1 w hw1 (blk (fa15 14)) x7 okb 0 0 (by omega) (by omega) (kn _ (k_pt 3 (o := 0) (cs := bC x7) (vs := bodyE x7) rfl rfl))).mono ?_
      rintro e w' ⟨rfl, hw'⟩
      refine ⟨_, rfl, _, back _ _ hw', ?_⟩
      clear hw hw1 hw' back kn sb
      refine l_val (v := .tuple #[.agg #[Ix (x7.x + 0 - x7.w), Ix (x7.y + 0 - x7.h)], .agg #[Ix (x7.x + 0 + x7.w), Ix (x7.y + 0 + x7.h)]]) rfl rfl rfl (e_move) ?_
      refine l_val (v := .agg #[Ix (x7.x + 0 - x7.w), Ix (x7.y + 0 - x7.h)]) rfl rfl rfl (e_extract (vs := #[.agg #[Ix (x7.x + 0 - x7.w), Ix (x7.y + 0 - x7.h)], .agg #[Ix (x7.x + 0 + x7.w), Ix (x7.y + 0 + x7.h)]]) rfl rfl) ?_
      refine l_val (v := .agg #[Ix (x7.x + 0 + x7.w), Ix (x7.y + 0 + x7.h)]) rfl rfl rfl (e_extract (vs := #[.agg #[Ix (x7.x + 0 - x7.w), Ix (x7.y + 0 - x7.h)], .agg #[Ix (x7.x + 0 + x7.w), Ix (x7.y + 0 + x7.h)]]) rfl rfl) ?_
      refine l_mv rfl rfl rfl (m_alloc tf8) ?_
      rintro _ _ ⟨b23, rfl, rfl⟩
      refine l_mv rfl rfl rfl (m_alloc tf8) ?_
      rintro _ _ ⟨b24, rfl, rfl⟩
      refine l_mu rfl rfl (m_store 1 tf5 (b := b23) (o := 0) (T := 30) (cs := #[.int .i64 (0), .int .i64 (0)]) (cs' := #[Ix (x7.x + 0 - x7.w), Ix (x7.y + 0 - x7.h)]) (v := .agg #[Ix (x7.x + 0 - x7.w), Ix (x7.y + 0 - x7.h)]) rfl rfl rfl rfl rfl rfl rfl) ?_
      refine l_mu rfl rfl (m_store 0 tf5 (b := b24) (o := 0) (T := 30) (cs := #[.int .i64 (0), .int .i64 (0)]) (cs' := #[Ix (x7.x + 0 + x7.w), Ix (x7.y + 0 + x7.h)]) (v := .agg #[Ix (x7.x + 0 + x7.w), Ix (x7.y + 0 + x7.h)]) rfl rfl rfl rfl rfl rfl rfl) ?_
      refine l_nil ?_
      refine f_then ?_
      refine c_seq ?_
      refine c_region ?_
      refine l_val (v := .func (.func 17) #[] #[.pointer (some ⟨(blk (fa15 14)), 0, none⟩)]) rfl rfl rfl (e_move) ?_
      refine l_val (v := .pointer (some ⟨(blk (fa20 15)), 0, none⟩)) rfl rfl rfl (e_fieldPt (b := (blk (fa20 15))) (o := 0) rfl tf10) ?_
      refine l_val (v := Ix (speedX x7 gX gY)) rfl rfl rfl (e_load1 tf11 (v := Ix (speedX x7 gX gY)) rfl (k_pt 6 (cs := #[Ix (speedX x7 gX gY), Ix (speedY x7 gX gY)]) (vs := [Ix (speedX x7 gX gY)]) rfl rfl)) ?_
      refine l_val (v := .pointer (some ⟨(blk (fa20 15)), 1, none⟩)) rfl rfl rfl (e_fieldPt (b := (blk (fa20 15))) (o := 0) rfl tf12) ?_
      refine l_val (v := Ix (speedY x7 gX gY)) rfl rfl rfl (e_load1 tf11 (v := Ix (speedY x7 gX gY)) rfl (k_pt 6 (cs := #[Ix (speedX x7 gX gY), Ix (speedY x7 gX gY)]) (vs := [Ix (speedY x7 gX gY)]) rfl rfl)) ?_
      refine l_call rfl rfl rfl (cl_value (fst := []) (cap := [.pointer (some ⟨(blk (fa15 14)), 0, none⟩)]) (vs := [Ix (speedX x7 gX gY), Ix (speedY x7 gX gY)]) (all := [Ix (speedX x7 gX gY), Ix (speedY x7 gX gY), .pointer (some ⟨(blk (fa15 14)), 0, none⟩)]) tf89 rfl rfl rfl) ?_
      intro w hw
      obtain ⟨β1, sb, kn, hw1, back⟩ := St.frame_all hw
      refine (atc_ok β1 w hw1 (blk (fa15 14)) x7 okb (speedX x7 gX gY) (speedY x7 gX gY) (by omega) (by omega) (kn _ (k_pt 5 (o := 0) (cs := bC x7) (vs := bodyE x7) rfl rfl))).mono ?_
      rintro e w' ⟨rfl, hw'⟩
      refine ⟨_, rfl, _, back _ _ hw', ?_⟩
      clear hw hw1 hw' back kn sb
      refine l_val (v := .tuple #[.agg #[Ix (x7.x + (speedX x7 gX gY) - x7.w), Ix (x7.y + (speedY x7 gX gY) - x7.h)], .agg #[Ix (x7.x + (speedX x7 gX gY) + x7.w), Ix (x7.y + (speedY x7 gX gY) + x7.h)]]) rfl rfl rfl (e_move) ?_
      refine l_val (v := .agg #[Ix (x7.x + (speedX x7 gX gY) - x7.w), Ix (x7.y + (speedY x7 gX gY) - x7.h)]) rfl rfl rfl (e_extract (vs := #[.agg #[Ix (x7.x + (speedX x7 gX gY) - x7.w), Ix (x7.y + (speedY x7 gX gY) - x7.h)], .agg #[Ix (x7.x + (speedX x7 gX gY) + x7.w), Ix (x7.y + (speedY x7 gX gY) + x7.h)]]) rfl rfl) ?_
      refine l_val (v := .agg #[Ix (x7.x + (speedX x7 gX gY) + x7.w), Ix (x7.y + (speedY x7 gX gY) + x7.h)]) rfl rfl rfl (e_extract (vs := #[.agg #[Ix (x7.x + (speedX x7 gX gY) - x7.w), Ix (x7.y + (speedY x7 gX gY) - x7.h)], .agg #[Ix (x7.x + (speedX x7 gX gY) + x7.w), Ix (x7.y + (speedY x7 gX gY) + x7.h)]]) rfl rfl) ?_
      refine l_mv rfl rfl rfl (m_alloc tf8) ?_
      rintro _ _ ⟨b25, rfl, rfl⟩
      refine l_mv rfl rfl rfl (m_alloc tf8) ?_
      rintro _ _ ⟨b26, rfl, rfl⟩
      refine l_mu rfl rfl (m_store 1 tf5 (b := b25) (o := 0) (T := 30) (cs := #[.int .i64 (0), .int .i64 (0)]) (cs' := #[Ix (x7.x + (speedX x7 gX gY) - x7.w), Ix (x7.y + (speedY x7 gX gY) - x7.h)]) (v := .agg #[Ix (x7.x + (speedX x7 gX gY) - x7.w), Ix (x7.y + (speedY x7 gX gY) - x7.h)]) rfl rfl rfl rfl rfl rfl rfl) ?_
      refine l_mu rfl rfl (m_store 0 tf5 (b := b26) (o := 0) (T := 30) (cs := #[.int .i64 (0), .int .i64 (0)]) (cs' := #[Ix (x7.x + (speedX x7 gX gY) + x7.w), Ix (x7.y + (speedY x7 gX gY) + x7.h)]) (v := .agg #[Ix (x7.x + (speedX x7 gX gY) + x7.w), Ix (x7.y + (speedY x7 gX gY) + x7.h)]) rfl rfl rfl rfl rfl rfl rfl) ?_
      refine l_nil ?_
      refine f_then ?_
      refine c_seq ?_
      refine c_seq ?_
      refine c_region ?_
      refine l_val (v := .pointer (some ⟨b21, 0, none⟩)) rfl rfl rfl (e_fieldPt (b := b21) (o := 0) rfl tf10) ?_
      refine l_val (v := Ix (x7.x + qx - x7.w)) rfl rfl rfl (e_load1 tf11 (v := Ix (x7.x + qx - x7.w)) rfl (k_pt 5 (cs := #[Ix (x7.x + qx - x7.w), Ix (x7.y + qy - x7.h)]) (vs := [Ix (x7.x + qx - x7.w)]) rfl rfl)) ?_
      refine l_val (v := .pointer (some ⟨(blk (fa20 16)), 0, none⟩)) rfl rfl rfl (e_fieldPt (b := (blk (fa20 16))) (o := 0) rfl tf90) ?_
      refine l_val (v := .pointer (some ⟨(blk (fa20 16)), 0, none⟩)) rfl rfl rfl (e_fieldPt (b := (blk (fa20 16))) (o := 0) rfl tf10) ?_
      refine l_val (v := Ix ((reachA x7 gX gY).lx)) rfl rfl rfl (e_load1 tf11 (v := Ix ((reachA x7 gX gY).lx)) rfl (k_pt 9 (cs := (aC (reachA x7 gX gY))) (vs := [Ix ((reachA x7 gX gY).lx)]) rfl rfl)) ?_
      refine l_val (v := .bool (decide ((x7.x + qx - x7.w) < ((reachA x7 gX gY).lx)))) rfl rfl rfl (e_lss (a := (x7.x + qx - x7.w)) (b := ((reachA x7 gX gY).lx)) rfl rfl) ?_
      refine l_val (v := .bool (decide ((x7.x + qx - x7.w) < ((reachA x7 gX gY).lx)))) rfl rfl rfl (e_move) ?_
      refine l_split (s := 126) (p := (x7.x + qx - x7.w) < ((reachA x7 gX gY).lx)) rfl (fun h => ?_) (fun h => ?_)
      exact absurd h (by omega)
      refine g_val (v := .pointer (some ⟨b21, 1, none⟩)) rfl rfl rfl rfl rfl (e_fieldPt (b := b21) (o := 0) rfl tf12) ?_
      refine g_val (v := Ix (x7.y + qy - x7.h)) rfl rfl rfl rfl rfl (e_load1 tf11 (v := Ix (x7.y + qy - x7.h)) rfl (k_pt 5 (cs := #[Ix (x7.x + qx - x7.w), Ix (x7.y + qy - x7.h)]) (vs := [Ix (x7.y + qy - x7.h)]) rfl rfl)) ?_
      refine g_val (v := .pointer (some ⟨(blk (fa20 16)), 0, none⟩)) rfl rfl rfl rfl rfl (e_fieldPt (b := (blk (fa20 16))) (o := 0) rfl tf90) ?_
      refine g_val (v := .pointer (some ⟨(blk (fa20 16)), 1, none⟩)) rfl rfl rfl rfl rfl (e_fieldPt (b := (blk (fa20 16))) (o := 0) rfl tf12) ?_
      refine g_val (v := Ix ((reachA x7 gX gY).ly)) rfl rfl rfl rfl rfl (e_load1 tf11 (v := Ix ((reachA x7 gX gY).ly)) rfl (k_pt 9 (cs := (aC (reachA x7 gX gY))) (vs := [Ix ((reachA x7 gX gY).ly)]) rfl rfl)) ?_
      refine g_val (v := .bool (decide ((x7.y + qy - x7.h) < ((reachA x7 gX gY).ly)))) rfl rfl rfl rfl rfl (e_lss (a := (x7.y + qy - x7.h)) (b := ((reachA x7 gX gY).ly)) rfl rfl) ?_
      refine l_val (v := .bool (decide ((x7.y + qy - x7.h) < ((reachA x7 gX gY).ly)))) rfl rfl rfl (e_pick_f rfl) ?_
      refine l_val (v := .bool (decide ((x7.y + qy - x7.h) < ((reachA x7 gX gY).ly)))) rfl rfl rfl (e_move) ?_
      refine l_split (s := 134) (p := (x7.y + qy - x7.h) < ((reachA x7 gX gY).ly)) rfl (fun h => ?_) (fun h => ?_)
      exact absurd h (by omega)
      refine g_val (v := .pointer (some ⟨b22, 0, none⟩)) rfl rfl rfl rfl rfl (e_fieldPt (b := b22) (o := 0) rfl tf10) ?_
      refine g_val (v := Ix (x7.x + qx + x7.w)) rfl rfl rfl rfl rfl (e_load1 tf11 (v := Ix (x7.x + qx + x7.w)) rfl (k_pt 4 (cs := #[Ix (x7.x + qx + x7.w), Ix (x7.y + qy + x7.h)]) (vs := [Ix (x7.x + qx + x7.w)]) rfl rfl)) ?_
      refine g_val (v := .pointer (some ⟨(blk (fa20 16)), 2, none⟩)) rfl rfl rfl rfl rfl (e_fieldPt (b := (blk (fa20 16))) (o := 0) rfl tf91) ?_
      refine g_val (v := .pointer (some ⟨(blk (fa20 16)), 2, none⟩)) rfl rfl rfl rfl rfl (e_fieldPt (b := (blk (fa20 16))) (o := 2) rfl tf10) ?_
      refine g_val (v := Ix ((reachA x7 gX gY).hx)) rfl rfl rfl rfl rfl (e_load1 tf11 (v := Ix ((reachA x7 gX gY).hx)) rfl (k_pt 9 (cs := (aC (reachA x7 gX gY))) (vs := [Ix ((reachA x7 gX gY).hx)]) rfl rfl)) ?_
      refine g_val (v := .bool (decide (((reachA x7 gX gY).hx) < (x7.x + qx + x7.w)))) rfl rfl rfl rfl rfl (e_gtr (a := (x7.x + qx + x7.w)) (b := ((reachA x7 gX gY).hx)) rfl rfl) ?_
      refine l_val (v := .bool (decide (((reachA x7 gX gY).hx) < (x7.x + qx + x7.w)))) rfl rfl rfl (e_pick_f rfl) ?_
      refine l_val (v := .bool (decide (((reachA x7 gX gY).hx) < (x7.x + qx + x7.w)))) rfl rfl rfl (e_move) ?_
      refine l_split (s := 142) (p := ((reachA x7 gX gY).hx) < (x7.x + qx + x7.w)) rfl (fun h => ?_) (fun h => ?_)
      exact absurd h (by omega)
      refine g_val (v := .pointer (some ⟨b22, 1, none⟩)) rfl rfl rfl rfl rfl (e_fieldPt (b := b22) (o := 0) rfl tf12) ?_
      refine g_val (v := Ix (x7.y + qy + x7.h)) rfl rfl rfl rfl rfl (e_load1 tf11 (v := Ix (x7.y + qy + x7.h)) rfl (k_pt 4 (cs := #[Ix (x7.x + qx + x7.w), Ix (x7.y + qy + x7.h)]) (vs := [Ix (x7.y + qy + x7.h)]) rfl rfl)) ?_
      refine g_val (v := .pointer (some ⟨(blk (fa20 16)), 2, none⟩)) rfl rfl rfl rfl rfl (e_fieldPt (b := (blk (fa20 16))) (o := 0) rfl tf91) ?_
      refine g_val (v := .pointer (some ⟨(blk (fa20 16)), 3, none⟩)) rfl rfl rfl rfl rfl (e_fieldPt (b := (blk (fa20 16))) (o := 2) rfl tf12) ?_
      refine g_val (v := Ix ((reachA x7 gX gY).hy)) rfl rfl rfl rfl rfl (e_load1 tf11 (v := Ix ((reachA x7 gX gY).hy)) rfl (k_pt 9 (cs := (aC (reachA x7 gX gY))) (vs := [Ix ((reachA x7 gX gY).hy)]) rfl rfl)) ?_
      refine g_val (v := .bool (decide (((reachA x7 gX gY).hy) < (x7.y + qy + x7.h)))) rfl rfl rfl rfl rfl (e_gtr (a := (x7.y + qy + x7.h)) (b := ((reachA x7 gX gY).hy)) rfl rfl) ?_
      refine l_val (v := .bool (decide (((reachA x7 gX gY).hy) < (x7.y + qy + x7.h)))) rfl rfl rfl (e_pick_f rfl) ?_
      refine l_nil ?_
      refine f_then ?_
      refine c_if (((reachA x7 gX gY).hy) < (x7.y + qy + x7.h)) rfl (fun hc27 => ?_) (fun hc27 => ?_)
      ·
        exact absurd hc27 (by omega)
      ·
        refine c_skip ?_
        refine f_then ?_
        refine c_seq ?_
        refine c_region ?_
        refine l_val (v := .agg (aC (reachA x7 gX gY))) rfl rfl rfl (e_load tf4 (cs := (areaE (reachA x7 gX gY))) rfl (k_pt 9 (cs := (aC (reachA x7 gX gY))) (vs := (areaE (reachA x7 gX gY))) rfl rfl) rfl) ?_
        refine l_val (v := .pointer (some ⟨b23, 0, none⟩)) rfl rfl rfl (e_fieldPt (b := b23) (o := 0) rfl tf10) ?_
        refine l_val (v := Ix (x7.x + 0 - x7.w)) rfl rfl rfl (e_load1 tf11 (v := Ix (x7.x + 0 - x7.w)) rfl (k_pt 3 (cs := #[Ix (x7.x + 0 - x7.w), Ix (x7.y + 0 - x7.h)]) (vs := [Ix (x7.x + 0 - x7.w)]) rfl rfl)) ?_
        refine l_val (v := .pointer (some ⟨b25, 0, none⟩)) rfl rfl rfl (e_fieldPt (b := b25) (o := 0) rfl tf10) ?_
        refine l_val (v := Ix (x7.x + (speedX x7 gX gY) - x7.w)) rfl rfl rfl (e_load1 tf11 (v := Ix (x7.x + (speedX x7 gX gY) - x7.w)) rfl (k_pt 1 (cs := #[Ix (x7.x + (speedX x7 gX gY) - x7.w), Ix (x7.y + (speedY x7 gX gY) - x7.h)]) (vs := [Ix (x7.x + (speedX x7 gX gY) - x7.w)]) rfl rfl)) ?_
        refine l_val (v := Ix (min (x7.x + 0 - x7.w) (x7.x + (speedX x7 gX gY) - x7.w))) rfl rfl rfl (e_min (a := (x7.x + 0 - x7.w)) (b := (x7.x + (speedX x7 gX gY) - x7.w)) rfl rfl) ?_
        refine l_val (v := .pointer (some ⟨b23, 1, none⟩)) rfl rfl rfl (e_fieldPt (b := b23) (o := 0) rfl tf12) ?_
        refine l_val (v := Ix (x7.y + 0 - x7.h)) rfl rfl rfl (e_load1 tf11 (v := Ix (x7.y + 0 - x7.h)) rfl (k_pt 3 (cs := #[Ix (x7.x + 0 - x7.w), Ix (x7.y + 0 - x7.h)]) (vs := [Ix (x7.y + 0 - x7.h)]) rfl rfl)) ?_
        refine l_val (v := .pointer (some ⟨b25, 1, none⟩)) rfl rfl rfl (e_fieldPt (b := b25) (o := 0) rfl tf12) ?_
        refine l_val (v := Ix (x7.y + (speedY x7 gX gY) - x7.h)) rfl rfl rfl (e_load1 tf11 (v := Ix (x7.y + (speedY x7 gX gY) - x7.h)) rfl (k_pt 1 (cs := #[Ix (x7.x + (speedX x7 gX gY) - x7.w), Ix (x7.y + (speedY x7 gX gY) - x7.h)]) (vs := [Ix (x7.y + (speedY x7 gX gY) - x7.h)]) rfl rfl)) ?_
        refine l_val (v := Ix (min (x7.y + 0 - x7.h) (x7.y + (speedY x7 gX gY) - x7.h))) rfl rfl rfl (e_min (a := (x7.y + 0 - x7.h)) (b := (x7.y + (speedY x7 gX gY) - x7.h)) rfl rfl) ?_
        refine l_val (v := .agg #[Ix (min (x7.x + 0 - x7.w) (x7.x + (speedX x7 gX gY) - x7.w)), Ix (min (x7.y + 0 - x7.h) (x7.y + (speedY x7 gX gY) - x7.h))]) rfl rfl rfl (e_build tf8 tf13 (vs := [(0, Ix (min (x7.x + 0 - x7.w) (x7.x + (speedX x7 gX gY) - x7.w))), (1, Ix (min (x7.y + 0 - x7.h) (x7.y + (speedY x7 gX gY) - x7.h)))]) (cells := #[Ix (min (x7.x + 0 - x7.w) (x7.x + (speedX x7 gX gY) - x7.w)), Ix (min (x7.y + 0 - x7.h) (x7.y + (speedY x7 gX gY) - x7.h))]) rfl rfl) ?_
        refine l_val (v := .pointer (some ⟨b24, 0, none⟩)) rfl rfl rfl (e_fieldPt (b := b24) (o := 0) rfl tf10) ?_
        refine l_val (v := Ix (x7.x + 0 + x7.w)) rfl rfl rfl (e_load1 tf11 (v := Ix (x7.x + 0 + x7.w)) rfl (k_pt 2 (cs := #[Ix (x7.x + 0 + x7.w), Ix (x7.y + 0 + x7.h)]) (vs := [Ix (x7.x + 0 + x7.w)]) rfl rfl)) ?_
        refine l_val (v := .pointer (some ⟨b26, 0, none⟩)) rfl rfl rfl (e_fieldPt (b := b26) (o := 0) rfl tf10) ?_
        refine l_val (v := Ix (x7.x + (speedX x7 gX gY) + x7.w)) rfl rfl rfl (e_load1 tf11 (v := Ix (x7.x + (speedX x7 gX gY) + x7.w)) rfl (k_pt 0 (cs := #[Ix (x7.x + (speedX x7 gX gY) + x7.w), Ix (x7.y + (speedY x7 gX gY) + x7.h)]) (vs := [Ix (x7.x + (speedX x7 gX gY) + x7.w)]) rfl rfl)) ?_
        refine l_val (v := Ix (max (x7.x + 0 + x7.w) (x7.x + (speedX x7 gX gY) + x7.w))) rfl rfl rfl (e_max (a := (x7.x + 0 + x7.w)) (b := (x7.x + (speedX x7 gX gY) + x7.w)) rfl rfl) ?_
        refine l_val (v := .pointer (some ⟨b24, 1, none⟩)) rfl rfl rfl (e_fieldPt (b := b24) (o := 0) rfl tf12) ?_
        refine l_val (v := Ix (x7.y + 0 + x7.h)) rfl rfl rfl (e_load1 tf11 (v := Ix (x7.y + 0 + x7.h)) rfl (k_pt 2 (cs := #[Ix (x7.x + 0 + x7.w), Ix (x7.y + 0 + x7.h)]) (vs := [Ix (x7.y + 0 + x7.h)]) rfl rfl)) ?_
        refine l_val (v := .pointer (some ⟨b26, 1, none⟩)) rfl rfl rfl (e_fieldPt (b := b26) (o := 0) rfl tf12) ?_
        refine l_val (v := Ix (x7.y + (speedY x7 gX gY) + x7.h)) rfl rfl rfl (e_load1 tf11 (v := Ix (x7.y + (speedY x7 gX gY) + x7.h)) rfl (k_pt 0 (cs := #[Ix (x7.x + (speedX x7 gX gY) + x7.w), Ix (x7.y + (speedY x7 gX gY) + x7.h)]) (vs := [Ix (x7.y + (speedY x7 gX gY) + x7.h)]) rfl rfl)) ?_
        refine l_val (v := Ix (max (x7.y + 0 + x7.h) (x7.y + (speedY x7 gX gY) + x7.h))) rfl rfl rfl (e_max (a := (x7.y + 0 + x7.h)) (b := (x7.y + (speedY x7 gX gY) + x7.h)) rfl rfl) ?_
        refine l_val (v := .agg #[Ix (max (x7.x + 0 + x7.w) (x7.x + (speedX x7 gX gY) + x7.w)), Ix (max (x7.y + 0 + x7.h) (x7.y + (speedY x7 gX gY) + x7.h))]) rfl rfl rfl (e_build tf8 tf13 (vs := [(0, Ix (max (x7.x + 0 + x7.w) (x7.x + (speedX x7 gX gY) + x7.w))), (1, Ix (max (x7.y + 0 + x7.h) (x7.y + (speedY x7 gX gY) + x7.h)))]) (cells := #[Ix (max (x7.x + 0 + x7.w) (x7.x + (speedX x7 gX gY) + x7.w)), Ix (max (x7.y + 0 + x7.h) (x7.y + (speedY x7 gX gY) + x7.h))]) rfl rfl) ?_
        refine l_val (v := .agg #[Ix (min (x7.x + 0 - x7.w) (x7.x + (speedX x7 gX gY) - x7.w)), Ix (min (x7.y + 0 - x7.h) (x7.y + (speedY x7 gX gY) - x7.h)), Ix (max (x7.x + 0 + x7.w) (x7.x + (speedX x7 gX gY) + x7.w)), Ix (max (x7.y + 0 + x7.h) (x7.y + (speedY x7 gX gY) + x7.h))]) rfl rfl rfl (e_build tf0 tf3 (vs := [(0, .agg #[Ix (min (x7.x + 0 - x7.w) (x7.x + (speedX x7 gX gY) - x7.w)), Ix (min (x7.y + 0 - x7.h) (x7.y + (speedY x7 gX gY) - x7.h))]), (1, .agg #[Ix (max (x7.x + 0 + x7.w) (x7.x + (speedX x7 gX gY) + x7.w)), Ix (max (x7.y + 0 + x7.h) (x7.y + (speedY x7 gX gY) + x7.h))])]) (cells := #[Ix (min (x7.x + 0 - x7.w) (x7.x + (speedX x7 gX gY) - x7.w)), Ix (min (x7.y + 0 - x7.h) (x7.y + (speedY x7 gX gY) - x7.h)), Ix (max (x7.x + 0 + x7.w) (x7.x + (speedX x7 gX gY) + x7.w)), Ix (max (x7.y + 0 + x7.h) (x7.y + (speedY x7 gX gY) + x7.h))]) rfl rfl) ?_
        refine l_val (v := .bool (decide (((reachA x7 gX gY).lx) = (min (x7.x + 0 - x7.w) (x7.x + (speedX x7 gX gY) - x7.w)) ∧ ((reachA x7 gX gY).ly) = (min (x7.y + 0 - x7.h) (x7.y + (speedY x7 gX gY) - x7.h)) ∧ ((reachA x7 gX gY).hx) = (max (x7.x + 0 + x7.w) (x7.x + (speedX x7 gX gY) + x7.w)) ∧ ((reachA x7 gX gY).hy) = (max (x7.y + 0 + x7.h) (x7.y + (speedY x7 gX gY) + x7.h))))) rfl rfl rfl (e_eql_t (xs := (areaE (reachA x7 gX gY))) (ys := [Ix (min (x7.x + 0 - x7.w) (x7.x + (speedX x7 gX gY) - x7.w)), Ix (min (x7.y + 0 - x7.h) (x7.y + (speedY x7 gX gY) - x7.h)), Ix (max (x7.x + 0 + x7.w) (x7.x + (speedX x7 gX gY) + x7.w)), Ix (max (x7.y + 0 + x7.h) (x7.y + (speedY x7 gX gY) + x7.h))]) tf78 tf79 tf80 rfl rfl rfl rfl arr4_eq) ?_
        refine l_val (v := .bool (decide (((reachA x7 gX gY).lx) = (min (x7.x + 0 - x7.w) (x7.x + (speedX x7 gX gY) - x7.w)) ∧ ((reachA x7 gX gY).ly) = (min (x7.y + 0 - x7.h) (x7.y + (speedY x7 gX gY) - x7.h)) ∧ ((reachA x7 gX gY).hx) = (max (x7.x + 0 + x7.w) (x7.x + (speedX x7 gX gY) + x7.w)) ∧ ((reachA x7 gX gY).hy) = (max (x7.y + 0 + x7.h) (x7.y + (speedY x7 gX gY) + x7.h))))) rfl rfl rfl (e_assign) ?_
        refine l_nil ?_
        refine f_then ?_
        refine c_ret ?_
        refine ret1 Try.results4 (v := .bool (decide (((reachA x7 gX gY).lx) = (min (x7.x + 0 - x7.w) (x7.x + (speedX x7 gX gY) - x7.w)) ∧ ((reachA x7 gX gY).ly) = (min (x7.y + 0 - x7.h) (x7.y + (speedY x7 gX gY) - x7.h)) ∧ ((reachA x7 gX gY).hx) = (max (x7.x + 0 + x7.w) (x7.x + (speedX x7 gX gY) + x7.w)) ∧ ((reachA x7 gX gY).hy) = (max (x7.y + 0 + x7.h) (x7.y + (speedY x7 gX gY) + x7.h))))) rfl ?_
        intro w hw
        exact ⟨congrArg (fun b : Bool => Ending.returned (.bool b)) (decide_eq_true (by refine ⟨?_, ?_, ?_, ?_⟩ <;> omega)), st_mask [false, false] rfl (bk1 _ _ (st_mask [false, false, false, false, false, false, false, false, false, false] rfl hw))⟩
    ·
      obtain ⟨hs1, hs2⟩ := speed_fixed (gx := gX) (gy := gY) hfx
      refine c_region ?_
      refine l_val (v := .pointer (some ⟨(blk (fa15 14)), 8, none⟩)) rfl rfl rfl (e_fieldPt (b := (blk (fa15 14))) (o := 0) rfl tf18) ?_
      refine l_val (v := .bool (x7.fixed)) rfl rfl rfl (e_load1 tf19 (v := .bool (x7.fixed)) rfl (k_pt 1 (cs := (bC x7)) (vs := [.bool (x7.fixed)]) rfl rfl)) ?_
      refine l_val (v := .bool (!x7.fixed)) rfl rfl rfl (e_not rfl) ?_
      refine l_val (v := .bool (!x7.fixed)) rfl rfl rfl (e_move) ?_
      refine l_splitb (s := 55) (b := !x7.fixed) rfl (fun h => ?_) (fun h => ?_)
      (rw [(show (!x7.fixed) = false from by rw [hfx]; rfl)] at h; cases h)
      refine l_skip rfl rfl rfl rfl rfl rfl ?_
      refine l_skip rfl rfl rfl rfl rfl rfl ?_
      refine l_skip rfl rfl rfl rfl rfl rfl ?_
      refine l_skip rfl rfl rfl rfl rfl rfl ?_
      refine l_skip rfl rfl rfl rfl rfl rfl ?_
      refine l_skip rfl rfl rfl rfl rfl rfl ?_
      refine l_skip rfl rfl rfl rfl rfl rfl ?_
      refine l_skip rfl rfl rfl rfl rfl rfl ?_
      refine l_skip rfl rfl rfl rfl rfl rfl ?_
      refine l_skip rfl rfl rfl rfl rfl rfl ?_
      refine l_skip rfl rfl rfl rfl rfl rfl ?_
      refine l_skip_u rfl rfl rfl rfl rfl ?_
      refine l_skip_u rfl rfl rfl rfl rfl ?_
      refine l_skip_u rfl rfl rfl rfl rfl ?_
      refine l_skip_u rfl rfl rfl rfl rfl ?_
      refine l_skip_u rfl rfl rfl rfl rfl ?_
      refine l_skip_u rfl rfl rfl rfl rfl ?_
      refine l_skip_u rfl rfl rfl rfl rfl ?_
      refine l_skip_u rfl rfl rfl rfl rfl ?_
      refine l_skip_u rfl rfl rfl rfl rfl ?_
      refine l_skip_u rfl rfl rfl rfl rfl ?_
      refine l_skip rfl rfl rfl rfl rfl rfl ?_
      refine l_val (v := .bool false) rfl rfl rfl (e_pick_f rfl) ?_
      refine l_val (v := .bool false) rfl rfl rfl (e_move) ?_
      refine g_val (v := .pointer (some ⟨(blk (fa15 14)), 8, none⟩)) rfl rfl rfl rfl rfl (e_fieldPt (b := (blk (fa15 14))) (o := 0) rfl tf18) ?_
      refine g_val (v := .bool (x7.fixed)) rfl rfl rfl rfl rfl (e_load1 tf19 (v := .bool (x7.fixed)) rfl (k_pt 1 (cs := (bC x7)) (vs := [.bool (x7.fixed)]) rfl rfl)) ?_
      refine g_val (v := .bool (x7.fixed)) rfl rfl rfl rfl rfl (e_move) ?_
      refine l_splitb (s := 82) (b := x7.fixed) rfl (fun h => ?_) (fun h => ?_)
      rotate_left; (rw [hfx] at h; cases h)
      refine g_val (v := .agg #[Ix (speedX x7 gX gY), Ix (speedY x7 gX gY)]) rfl rfl rfl rfl rfl (e_load tf5 (cs := [Ix (speedX x7 gX gY), Ix (speedY x7 gX gY)]) rfl (k_pt 2 (cs := #[Ix (speedX x7 gX gY), Ix (speedY x7 gX gY)]) (vs := [Ix (speedX x7 gX gY), Ix (speedY x7 gX gY)]) rfl rfl) rfl) ?_
      refine g_val (v := .agg #[.int .i64 (0), .int .i64 (0)]) rfl rfl rfl rfl rfl (e_build tf8 tf13 (vs := []) (cells := #[.int .i64 (0), .int .i64 (0)]) rfl rfl) ?_
      refine g_val (v := .bool (decide (¬ ((speedX x7 gX gY) = (0 : Int) ∧ (speedY x7 gX gY) = (0 : Int))))) rfl rfl rfl rfl rfl (e_neq_t (xs := [Ix (speedX x7 gX gY), Ix (speedY x7 gX gY)]) (ys := [.int .i64 (0), .int .i64 (0)]) tf92 tf93 tf94 rfl rfl rfl rfl (not_congr vec_eq)) ?_
      refine g_val (v := .bool (decide (¬ ((speedX x7 gX gY) = (0 : Int) ∧ (speedY x7 gX gY) = (0 : Int))))) rfl rfl rfl rfl rfl (e_pick_t rfl) ?_
      refine l_val (v := .bool (decide (¬ ((speedX x7 gX gY) = (0 : Int) ∧ (speedY x7 gX gY) = (0 : Int))))) rfl rfl rfl (e_pick_f rfl) ?_
      refine l_nil ?_
      refine f_then ?_
      refine c_if (¬ ((speedX x7 gX gY) = (0 : Int) ∧ (speedY x7 gX gY) = (0 : Int))) rfl (fun hc28 => ?_) (fun hc28 => ?_)
      ·
        exact absurd hc28 (by omega)
      ·
        refine c_skip ?_
        refine f_then ?_
        refine c_seq ?_
        refine c_region ?_
        refine l_val (v := .func (.func 17) #[] #[.pointer (some ⟨(blk (fa15 14)), 0, none⟩)]) rfl rfl rfl (e_func (u := []) (v := [.pointer (some ⟨(blk (fa15 14)), 0, none⟩)]) rfl rfl) ?_
        refine l_val (v := .func (.func 17) #[] #[.pointer (some ⟨(blk (fa15 14)), 0, none⟩)]) rfl rfl rfl (e_assign) ?_
        refine l_nil ?_
        refine f_then ?_
        refine c_seq ?_
        refine c_region ?_
        refine l_val (v := .func (.func 17) #[] #[.pointer (some ⟨(blk (fa15 14)), 0, none⟩)]) rfl rfl rfl (e_move) ?_
        refine l_val (v := .pointer (some ⟨(blk (fa20 15)), 0, none⟩)) rfl rfl rfl (e_fieldPt (b := (blk (fa20 15))) (o := 0) rfl tf10) ?_
        refine l_val (v := Ix (speedX x7 gX gY)) rfl rfl rfl (e_load1 tf11 (v := Ix (speedX x7 gX gY)) rfl (k_pt 2 (cs := #[Ix (speedX x7 gX gY), Ix (speedY x7 gX gY)]) (vs := [Ix (speedX x7 gX gY)]) rfl rfl)) ?_
        refine l_val (v := .int .u16 (((px : Nat)) : Int)) rfl rfl rfl (e_move) ?_
        refine l_val (v := Nx (px)) rfl rfl rfl (e_conv (a := ((px : Nat) : Int)) rfl ⟨_, tf88⟩ tf86 (i64n rfl (by omega))) ?_
        refine l_val (v := Ix ((speedX x7 gX gY) * ((px : Nat) : Int))) rfl rfl rfl (e_mul (a := (speedX x7 gX gY)) (b := ((px : Nat) : Int)) rfl rfl (i64w (by omega))) ?_
        refine l_val (v := Ix (qx)) rfl rfl rfl (e_quo (a := ((speedX x7 gX gY) * ((px : Nat) : Int))) (b := (65535 : Int)) rfl rfl (by decide) ((congrArg _ hqx.symm).trans (i64w (by omega)))) ?_
        refine l_val (v := .pointer (some ⟨(blk (fa20 15)), 1, none⟩)) rfl rfl rfl (e_fieldPt (b := (blk (fa20 15))) (o := 0) rfl tf12) ?_
        refine l_val (v := Ix (speedY x7 gX gY)) rfl rfl rfl (e_load1 tf11 (v := Ix (speedY x7 gX gY)) rfl (k_pt 2 (cs := #[Ix (speedX x7 gX gY), Ix (speedY x7 gX gY)]) (vs := [Ix (speedY x7 gX gY)]) rfl rfl)) ?_
        refine l_val (v := .int .u16 (((py : Nat)) : Int)) rfl rfl rfl (e_move) ?_
        refine l_val (v := Nx (py)) rfl rfl rfl (e_conv (a := ((py : Nat) : Int)) rfl ⟨_, tf88⟩ tf86 (i64n rfl (by omega))) ?_
        refine l_val (v := Ix ((speedY x7 gX gY) * ((py : Nat) : Int))) rfl rfl rfl (e_mul (a := (speedY x7 gX gY)) (b := ((py : Nat) : Int)) rfl rfl (i64w (by omega))) ?_
        refine l_val (v := Ix (qy)) rfl rfl rfl (e_quo (a := ((speedY x7 gX gY) * ((py : Nat) : Int))) (b := (65535 : Int)) rfl rfl (by decide) ((congrArg _ hqy.symm).trans (i64w (by omega)))) ?_
        refine l_call rfl rfl rfl (cl_value (fst := []) (cap := [.pointer (some ⟨(blk (fa15 14)), 0, none⟩)]) (vs := [Ix (qx), Ix (qy)]) (all := [Ix (qx), Ix (qy), .pointer (some ⟨(blk (fa15 14)), 0, none⟩)]) tf89 rfl rfl rfl) ?_
        intro w hw
        obtain ⟨β1, sb, kn, hw1, back⟩ := St.frame_all hw
        refine (atc_ok β1 w hw1 (blk (fa15 14)) x7 okb qx qy (by omega) (by omega) (kn _ (k_pt 1 (o := 0) (cs := bC x7) (vs := bodyE x7) rfl rfl))).mono ?_
        rintro e w' ⟨rfl, hw'⟩
        refine ⟨_, rfl, _, back _ _ hw', ?_⟩
        clear hw hw1 hw' back kn sb
        refine l_val (v := .tuple #[.agg #[Ix (x7.x + qx - x7.w), Ix (x7.y + qy - x7.h)], .agg #[Ix (x7.x + qx + x7.w), Ix (x7.y + qy + x7.h)]]) rfl rfl rfl (e_move) ?_
        refine l_val (v := .agg #[Ix (x7.x + qx - x7.w), Ix (x7.y + qy - x7.h)]) rfl rfl rfl (e_extract (vs := #[.agg #[Ix (x7.x + qx - x7.w), Ix (x7.y + qy - x7.h)], .agg #[Ix (x7.x + qx + x7.w), Ix (x7.y + qy + x7.h)]]) rfl rfl) ?_
        refine l_val (v := .agg #[Ix (x7.x + qx + x7.w), Ix (x7.y + qy + x7.h)]) rfl rfl rfl (e_extract (vs := #[.agg #[Ix (x7.x + qx - x7.w), Ix (x7.y + qy - x7.h)], .agg #[Ix (x7.x + qx + x7.w), Ix (x7.y + qy + x7.h)]]) rfl rfl) ?_
        refine l_mv rfl rfl rfl (m_alloc tf8) ?_
        rintro _ _ ⟨b29, rfl, rfl⟩
        refine l_mv rfl rfl rfl (m_alloc tf8) ?_
        rintro _ _ ⟨b30, rfl, rfl⟩
        refine l_mu rfl rfl (m_store 1 tf5 (b := b29) (o := 0) (T := 30) (cs := #[.int .i64 (0), .int .i64 (0)]) (cs' := #[Ix (x7.x + qx - x7.w), Ix (x7.y + qy - x7.h)]) (v := .agg #[Ix (x7.x + qx - x7.w), Ix (x7.y + qy - x7.h)]) rfl rfl rfl rfl rfl rfl rfl) ?_
        refine l_mu rfl rfl (m_store 0 tf5 (b := b30) (o := 0) (T := 30) (cs := #[.int .i64 (0), .int .i64 (0)]) (cs' := #[Ix (x7.x + qx + x7.w), Ix (x7.y + qy + x7.h)]) (v := .agg #[Ix (x7.x + qx + x7.w), Ix (x7.y + qy + x7.h)]) rfl rfl rfl rfl rfl rfl rfl) ?_
        refine l_nil ?_
        refine f_then ?_
        refine c_seq ?_
        refine c_region ?_
        refine l_val (v := .func (.func 17) #[] #[.pointer (some ⟨(blk (fa15 14)), 0, none⟩)]) rfl rfl rfl (e_move) ?_
        refine l_call rfl rfl rfl (cl_value (fst := []) (cap := [.pointer (some ⟨(blk (fa15 14)), 0, none⟩)]) (vs := [.int .i64 (0), .int .i64 (0)]) (all := [.int .i64 (0), .int .i64 (0), .pointer (some ⟨(blk (fa15 14)), 0, none⟩)]) tf89 rfl rfl rfl) ?_
        intro w hw
        obtain ⟨β1, sb, kn, hw1, back⟩ := St.frame_all hw
        refine (atc_ok β1 w hw1 (blk (fa15 14)) x7 okb 0 0 (by omega) (by omega) (kn _ (k_pt 3 (o := 0) (cs := bC x7) (vs := bodyE x7) rfl rfl))).mono ?_
        rintro e w' ⟨rfl, hw'⟩
        refine ⟨_, rfl, _, back _ _ hw', ?_⟩
        clear hw hw1 hw' back kn sb
        refine l_val (v := .tuple #[.agg #[Ix (x7.x + 0 - x7.w), Ix (x7.y + 0 - x7.h)], .agg #[Ix (x7.x + 0 + x7.w), Ix (x7.y + 0 + x7.h)]]) rfl rfl rfl (e_move) ?_
        refine l_val (v := .agg #[Ix (x7.x + 0 - x7.w), Ix (x7.y + 0 - x7.h)]) rfl rfl rfl (e_extract (vs := #[.agg #[Ix (x7.x + 0 - x7.w), Ix (x7.y + 0 - x7.h)], .agg #[Ix (x7.x + 0 + x7.w), Ix (x7.y + 0 + x7.h)]]) rfl rfl) ?_
        refine l_val (v := .agg #[Ix (x7.x + 0 + x7.w), Ix (x7.y + 0 + x7.h)]) rfl rfl rfl (e_extract (vs := #[.agg #[Ix (x7.x + 0 - x7.w), Ix (x7.y + 0 - x7.h)], .agg #[Ix (x7.x + 0 + x7.w), Ix (x7.y + 0 + x7.h)]]) rfl rfl) ?_
        refine l_mv rfl rfl rfl (m_alloc tf8) ?_
        rintro _ _ ⟨b31, rfl, rfl⟩
        refine l_mv rfl rfl rfl (m_alloc tf8) ?_
        rintro _ _ ⟨b32, rfl, rfl⟩
        refine l_mu rfl rfl (m_store 1 tf5 (b := b31) (o := 0) (T := 30) (cs := #[.int .i64 (0), .int .i64 (0)]) (cs' := #[Ix (x7.x + 0 - x7.w), Ix (x7.y + 0 - x7.h)]) (v := .agg #[Ix (x7.x + 0 - x7.w), Ix (x7.y + 0 - x7.h)]) rfl rfl rfl rfl rfl rfl rfl) ?_
        refine l_mu rfl rfl (m_store 0 tf5 (b := b32) (o := 0) (T := 30) (cs := #[.int .i64 (0), .int .i64 (0)]) (cs' := #[Ix (x7.x + 0 + x7.w), Ix (x7.y + 0 + x7.h)]) (v := .agg #[Ix (x7.x + 0 + x7.w), Ix (x7.y + 0 + x7.h)]) rfl rfl rfl rfl rfl rfl rfl) ?_
        refine l_nil ?_
        refine f_then ?_
        refine c_seq ?_
        refine c_region ?_
        refine l_val (v := .func (.func 17) #[] #[.pointer (some ⟨(blk (fa15 14)), 0, none⟩)]) rfl rfl rfl (e_move) ?_
        refine l_val (v := .pointer (some ⟨(blk (fa20 15)), 0, none⟩)) rfl rfl rfl (e_fieldPt (b := (blk (fa20 15))) (o := 0) rfl tf10) ?_
        refine l_val (v := Ix (speedX x7 gX gY)) rfl rfl rfl (e_load1 tf11 (v := Ix (speedX x7 gX gY)) rfl (k_pt 6 (cs := #[Ix (speedX x7 gX gY), Ix (speedY x7 gX gY)]) (vs := [Ix (speedX x7 gX gY)]) rfl rfl)) ?_
        refine l_val (v := .pointer (some ⟨(blk (fa20 15)), 1, none⟩)) rfl rfl rfl (e_fieldPt (b := (blk (fa20 15))) (o := 0) rfl tf12) ?_
        refine l_val (v := Ix (speedY x7 gX gY)) rfl rfl rfl (e_load1 tf11 (v := Ix (speedY x7 gX gY)) rfl (k_pt 6 (cs := #[Ix (speedX x7 gX gY), Ix (speedY x7 gX gY)]) (vs := [Ix (speedY x7 gX gY)]) rfl rfl)) ?_
        refine l_call rfl rfl rfl (cl_value (fst := []) (cap := [.pointer (some ⟨(blk (fa15 14)), 0, none⟩)]) (vs := [Ix (speedX x7 gX gY), Ix (speedY x7 gX gY)]) (all := [Ix (speedX x7 gX gY), Ix (speedY x7 gX gY), .pointer (some ⟨(blk (fa15 14)), 0, none⟩)]) tf89 rfl rfl rfl) ?_
        intro w hw
        obtain ⟨β1, sb, kn, hw1, back⟩ := St.frame_all hw
        refine (atc_ok β1 w hw1 (blk (fa15 14)) x7 okb (speedX x7 gX gY) (speedY x7 gX gY) (by omega) (by omega) (kn _ (k_pt 5 (o := 0) (cs := bC x7) (vs := bodyE x7) rfl rfl))).mono ?_
        rintro e w' ⟨rfl, hw'⟩
        refine ⟨_, rfl, _, back _ _ hw', ?_⟩
        clear hw hw1 hw' back kn sb
        refine l_val (v := .tuple #[.agg #[Ix (x7.x + (speedX x7 gX gY) - x7.w), Ix (x7.y + (speedY x7 gX gY) - x7.h)], .agg #[Ix (x7.x + (speedX x7 gX gY) + x7.w), Ix (x7.y + (speedY x7 gX gY) + x7.h)]]) rfl rfl rfl (e_move) ?_
        refine l_val (v := .agg #[Ix (x7.x + (speedX x7 gX gY) - x7.w), Ix (x7.y + (speedY x7 gX gY) - x7.h)]) rfl rfl rfl (e_extract (vs := #[.agg #[Ix (x7.x + (speedX x7 gX gY) - x7.w), Ix (x7.y + (speedY x7 gX gY) - x7.h)], .agg #[Ix (x7.x + (speedX x7 gX gY) + x7.w), Ix (x7.y + (speedY x7 gX gY) + x7.h)]]) rfl rfl) ?_
        refine l_val (v := .agg #[Ix (x7.x + (speedX x7 gX gY) + x7.w), Ix (x7.y + (speedY x7 gX gY) + x7.h)]) rfl rfl rfl (e_extract (vs := #[.agg #[Ix (x7.x + (speedX x7 gX gY) - x7.w), Ix (x7.y + (speedY x7 gX gY) - x7.h)], .agg #[Ix (x7.x + (speedX x7 gX gY) + x7.w), Ix (x7.y + (speedY x7 gX gY) + x7.h)]]) rfl rfl) ?_
        refine l_mv rfl rfl rfl (m_alloc tf8) ?_
        rintro _ _ ⟨b33, rfl, rfl⟩
        refine l_mv rfl rfl rfl (m_alloc tf8) ?_
        rintro _ _ ⟨b34, rfl, rfl⟩
        refine l_mu rfl rfl (m_store 1 tf5 (b := b33) (o := 0) (T := 30) (cs := #[.int .i64 (0), .int .i64 (0)]) (cs' := #[Ix (x7.x + (speedX x7 gX gY) - x7.w), Ix (x7.y + (speedY x7 gX gY) - x7.h)]) (v := .agg #[Ix (x7.x + (speedX x7 gX gY) - x7.w), Ix (x7.y + (speedY x7 gX gY) - x7.h)]) rfl rfl rfl rfl rfl rfl rfl) ?_
        refine l_mu rfl rfl (m_store 0 tf5 (b := b34) (o := 0) (T := 30) (cs := #[.int .i64 (0), .int .i64 (0)]) (cs' := #[Ix (x7.x + (speedX x7 gX gY) + x7.w), Ix (x7.y + (speedY x7 gX gY) + x7.h)]) (v := .agg #[Ix (x7.x + (speedX x7 gX gY) + x7.w), Ix (x7.y + (speedY x7 gX gY) + x7.h)]) rfl rfl rfl rfl rfl rfl rfl) ?_
        refine l_nil ?_
        refine f_then ?_
        refine c_seq ?_
        refine c_seq ?_
        refine c_region ?_
        refine l_val (v := .pointer (some ⟨b29, 0, none⟩)) rfl rfl rfl (e_fieldPt (b := b29) (o := 0) rfl tf10) ?_
        refine l_val (v := Ix (x7.x + qx - x7.w)) rfl rfl rfl (e_load1 tf11 (v := Ix (x7.x + qx - x7.w)) rfl (k_pt 5 (cs := #[Ix (x7.x + qx - x7.w), Ix (x7.y + qy - x7.h)]) (vs := [Ix (x7.x + qx - x7.w)]) rfl rfl)) ?_
        refine l_val (v := .pointer (some ⟨(blk (fa20 16)), 0, none⟩)) rfl rfl rfl (e_fieldPt (b := (blk (fa20 16))) (o := 0) rfl tf90) ?_
        refine l_val (v := .pointer (some ⟨(blk (fa20 16)), 0, none⟩)) rfl rfl rfl (e_fieldPt (b := (blk (fa20 16))) (o := 0) rfl tf10) ?_
        refine l_val (v := Ix ((reachA x7 gX gY).lx)) rfl rfl rfl (e_load1 tf11 (v := Ix ((reachA x7 gX gY).lx)) rfl (k_pt 9 (cs := (aC (reachA x7 gX gY))) (vs := [Ix ((reachA x7 gX gY).lx)]) rfl rfl)) ?_
        refine l_val (v := .bool (decide ((x7.x + qx - x7.w) < ((reachA x7 gX gY).lx)))) rfl rfl rfl (e_lss (a := (x7.x + qx - x7.w)) (b := ((reachA x7 gX gY).lx)) rfl rfl) ?_
        refine l_val (v := .bool (decide ((x7.x + qx - x7.w) < ((reachA x7 gX gY).lx)))) rfl rfl rfl (e_move) ?_
        refine l_split (s := 126) (p := (x7.x + qx - x7.w) < ((reachA x7 gX gY).lx)) rfl (fun h => ?_) (fun h => ?_)
        exact absurd h (by omega)
        refine g_val (v := .pointer (some ⟨b29, 1, none⟩)) rfl rfl rfl rfl rfl (e_fieldPt (b := b29) (o := 0) rfl tf12) ?_
        refine g_val (v := Ix (x7.y + qy - x7.h)) rfl rfl rfl rfl rfl (e_load1 tf11 (v := Ix (x7.y + qy - x7.h)) rfl (k_pt 5 (cs := #[Ix (x7.x + qx - x7.w), Ix (x7.y + qy - x7.h)]) (vs := [Ix (x7.y + qy - x7.h)]) rfl rfl)) ?_
        refine g_val (v := .pointer (some ⟨(blk (fa20 16)), 0, none⟩)) rfl rfl rfl rfl rfl (e_fieldPt (b := (blk (fa20 16))) (o := 0) rfl tf90) ?_
        refine g_val (v := .pointer (some ⟨(blk (fa20 16)), 1, none⟩)) rfl rfl rfl rfl rfl (e_fieldPt (b := (blk (fa20 16))) (o := 0) rfl tf12) ?_
        refine g_val (v := Ix ((reachA x7 gX gY).ly)) rfl rfl rfl rfl rfl (e_load1 tf11 (v := Ix ((reachA x7 gX gY).ly)) rfl (k_pt 9 (cs := (aC (reachA x7 gX gY))) (vs := [Ix ((reachA x7 gX gY).ly)]) rfl rfl)) ?_
        refine g_val (v := .bool (decide ((x7.y + qy - x7.h) < ((reachA x7 gX gY).ly)))) rfl rfl rfl rfl rfl (e_lss (a := (x7.y + qy - x7.h)) (b := ((reachA x7 gX gY).ly)) rfl rfl) ?_
        refine l_val (v := .bool (decide ((x7.y + qy - x7.h) < ((reachA x7 gX gY).ly)))) rfl rfl rfl (e_pick_f rfl) ?_
        refine l_val (v := .bool (decide ((x7.y + qy - x7.h) < ((reachA x7 gX gY).ly)))) rfl rfl rfl (e_move) ?_
        refine l_split (s := 134) (p := (x7.y + qy - x7.h) < ((reachA x7 gX gY).ly)) rfl (fun h => ?_) (fun h => ?_)
        exact absurd h (by omega)
        refine g_val (v := .pointer (some ⟨b30, 0, none⟩)) rfl rfl rfl rfl rfl (e_fieldPt (b := b30) (o := 0) rfl tf10) ?_
        refine g_val (v := Ix (x7.x + qx + x7.w)) rfl rfl rfl rfl rfl (e_load1 tf11 (v := Ix (x7.x + qx + x7.w)) rfl (k_pt 4 (cs := #[Ix (x7.x + qx + x7.w), Ix (x7.y + qy + x7.h)]) (vs := [Ix (x7.x + qx + x7.w)]) rfl rfl)) ?_
        refine g_val (v := .pointer (some ⟨(blk (fa20 16)), 2, none⟩)) rfl rfl rfl rfl rfl (e_fieldPt (b := (blk (fa20 16))) (o := 0) rfl tf91) ?_
        refine g_val (v := .pointer (some ⟨(blk (fa20 16)), 2, none⟩)) rfl rfl rfl rfl rfl (e_fieldPt (b := (blk (fa20 16))) (o := 2) rfl tf10) ?_
        refine g_val (v := Ix ((reachA x7 gX gY).hx)) rfl rfl rfl rfl rfl (e_load1 tf11 (v := Ix ((reachA x7 gX gY).hx)) rfl (k_pt 9 (cs := (aC (reachA x7 gX gY))) (vs := [Ix ((reachA x7 gX gY).hx)]) rfl rfl)) ?_
        refine g_val (v := .bool (decide (((reachA x7 gX gY).hx) < (x7.x + qx + x7.w)))) rfl rfl rfl rfl rfl (e_gtr (a := (x7.x + qx + x7.w)) (b := ((reachA x7 gX gY).hx)) rfl rfl) ?_
        refine l_val (v := .bool (decide (((reachA x7 gX gY).hx) < (x7.x + qx + x7.w)))) rfl rfl rfl (e_pick_f rfl) ?_
        refine l_val (v := .bool (decide (((reachA x7 gX gY).hx) < (x7.x + qx + x7.w)))) rfl rfl rfl (e_move) ?_
        refine l_split (s := 142) (p := ((reachA x7 gX gY).hx) < (x7.x + qx + x7.w)) rfl (fun h => ?_) (fun h => ?_)
        exact absurd h (by omega)
        refine g_val (v := .pointer (some ⟨b30, 1, none⟩)) rfl rfl rfl rfl rfl (e_fieldPt (b := b30) (o := 0) rfl tf12) ?_
        refine g_val (v := Ix (x7.y + qy + x7.h)) rfl rfl rfl rfl rfl (e_load1 tf11 (v := Ix (x7.y + qy + x7.h)) rfl (k_pt 4 (cs := #[Ix (x7.x + qx + x7.w), Ix (x7.y + qy + x7.h)]) (vs := [Ix (x7.y + qy + x7.h)]) rfl rfl)) ?_
        refine g_val (v := .pointer (some ⟨(blk (fa20 16)), 2, none⟩)) rfl rfl rfl rfl rfl (e_fieldPt (b := (blk (fa20 16))) (o := 0) rfl tf91) ?_
        refine g_val (v := .pointer (some ⟨(blk (fa20 16)), 3, none⟩)) rfl rfl rfl rfl rfl (e_fieldPt (b := (blk (fa20 16))) (o := 2) rfl tf12) ?_
        refine g_val (v := Ix ((reachA x7 gX gY).hy)) rfl rfl rfl rfl rfl (e_load1 tf11 (v := Ix ((reachA x7 gX gY).hy)) rfl (k_pt 9 (cs := (aC (reachA x7 gX gY))) (vs := [Ix ((reachA x7 gX gY).hy)]) rfl rfl)) ?_
        refine g_val (v := .bool (decide (((reachA x7 gX gY).hy) < (x7.y + qy + x7.h)))) rfl rfl rfl rfl rfl (e_gtr (a := (x7.y + qy + x7.h)) (b := ((reachA x7 gX gY).hy)) rfl rfl) ?_
        refine l_val (v := .bool (decide (((reachA x7 gX gY).hy) < (x7.y + qy + x7.h)))) rfl rfl rfl (e_pick_f rfl) ?_
        refine l_nil ?_
        refine f_then ?_
        refine c_if (((reachA x7 gX gY).hy) < (x7.y + qy + x7.h)) rfl (fun hc35 => ?_) (fun hc35 => ?_)
        ·
          exact absurd hc35 (by omega)
        ·
          refine c_skip ?_
          refine f_then ?_
          refine c_seq ?_
          refine c_region ?_
          refine l_val (v := .agg (aC (reachA x7 gX gY))) rfl rfl rfl (e_load tf4 (cs := (areaE (reachA x7 gX gY))) rfl (k_pt 9 (cs := (aC (reachA x7 gX gY))) (vs := (areaE (reachA x7 gX gY))) rfl rfl) rfl) ?_
          refine l_val (v := .pointer (some ⟨b31, 0, none⟩)) rfl rfl rfl (e_fieldPt (b := b31) (o := 0) rfl tf10) ?_
          refine l_val (v := Ix (x7.x + 0 - x7.w)) rfl rfl rfl (e_load1 tf11 (v := Ix (x7.x + 0 - x7.w)) rfl (k_pt 3 (cs := #[Ix (x7.x + 0 - x7.w), Ix (x7.y + 0 - x7.h)]) (vs := [Ix (x7.x + 0 - x7.w)]) rfl rfl)) ?_
          refine l_val (v := .pointer (some ⟨b33, 0, none⟩)) rfl rfl rfl (e_fieldPt (b := b33) (o := 0) rfl tf10) ?_
          refine l_val (v := Ix (x7.x + (speedX x7 gX gY) - x7.w)) rfl rfl rfl (e_load1 tf11 (v := Ix (x7.x + (speedX x7 gX gY) - x7.w)) rfl (k_pt 1 (cs := #[Ix (x7.x + (speedX x7 gX gY) - x7.w), Ix (x7.y + (speedY x7 gX gY) - x7.h)]) (vs := [Ix (x7.x + (speedX x7 gX gY) - x7.w)]) rfl rfl)) ?_
          refine l_val (v := Ix (min (x7.x + 0 - x7.w) (x7.x + (speedX x7 gX gY) - x7.w))) rfl rfl rfl (e_min (a := (x7.x + 0 - x7.w)) (b := (x7.x + (speedX x7 gX gY) - x7.w)) rfl rfl) ?_
          refine l_val (v := .pointer (some ⟨b31, 1, none⟩)) rfl rfl rfl (e_fieldPt (b := b31) (o := 0) rfl tf12) ?_
          refine l_val (v := Ix (x7.y + 0 - x7.h)) rfl rfl rfl (e_load1 tf11 (v := Ix (x7.y + 0 - x7.h)) rfl (k_pt 3 (cs := #[Ix (x7.x + 0 - x7.w), Ix (x7.y + 0 - x7.h)]) (vs := [Ix (x7.y + 0 - x7.h)]) rfl rfl)) ?_
          refine l_val (v := .pointer (some ⟨b33, 1, none⟩)) rfl rfl rfl (e_fieldPt (b := b33) (o := 0) rfl tf12) ?_
          refine l_val (v := Ix (x7.y + (speedY x7 gX gY) - x7.h)) rfl rfl rfl (e_load1 tf11 (v := Ix (x7.y + (speedY x7 gX gY) - x7.h)) rfl (k_pt 1 (cs := #[Ix (x7.x + (speedX x7 gX gY) - x7.w), Ix (x7.y + (speedY x7 gX gY) - x7.h)]) (vs := [Ix (x7.y + (speedY x7 gX gY) - x7.h)]) rfl rfl)) ?_
          refine l_val (v := Ix (min (x7.y + 0 - x7.h) (x7.y + (speedY x7 gX gY) - x7.h))) rfl rfl rfl (e_min (a := (x7.y + 0 - x7.h)) (b := (x7.y + (speedY x7 gX gY) - x7.h)) rfl rfl) ?_
          refine l_val (v := .agg #[Ix (min (x7.x + 0 - x7.w) (x7.x + (speedX x7 gX gY) - x7.w)), Ix (min (x7.y + 0 - x7.h) (x7.y + (speedY x7 gX gY) - x7.h))]) rfl rfl rfl (e_build tf8 tf13 (vs := [(0, Ix (min (x7.x + 0 - x7.w) (x7.x + (speedX x7 gX gY) - x7.w))), (1, Ix (min (x7.y + 0 - x7.h) (x7.y + (speedY x7 gX gY) - x7.h)))]) (cells := #[Ix (min (x7.x + 0 - x7.w) (x7.x + (speedX x7 gX gY) - x7.w)), Ix (min (x7.y + 0 - x7.h) (x7.y + (speedY x7 gX gY) - x7.h))]) rfl rfl) ?_
          refine l_val (v := .pointer (some ⟨b32, 0, none⟩)) rfl rfl rfl (e_fieldPt (b := b32) (o := 0) rfl tf10) ?_
          refine l_val (v := Ix (x7.x + 0 + x7.w)) rfl rfl rfl (e_load1 tf11 (v := Ix (x7.x + 0 + x7.w)) rfl (k_pt 2 (cs := #[Ix (x7.x + 0 + x7.w), Ix (x7.y + 0 + x7.h)]) (vs := [Ix (x7.x + 0 + x7.w)]) rfl rfl)) ?_
          refine l_val (v := .pointer (some ⟨b34, 0, none⟩)) rfl rfl rfl (e_fieldPt (b := b34) (o := 0) rfl tf10) ?_
          refine l_val (v := Ix (x7.x + (speedX x7 gX gY) + x7.w)) rfl rfl rfl (e_load1 tf11 (v := Ix (x7.x + (speedX x7 gX gY) + x7.w)) rfl (k_pt 0 (cs := #[Ix (x7.x + (speedX x7 gX gY) + x7.w), Ix (x7.y + (speedY x7 gX gY) + x7.h)]) (vs := [Ix (x7.x + (speedX x7 gX gY) + x7.w)]) rfl rfl)) ?_
          refine l_val (v := Ix (max (x7.x + 0 + x7.w) (x7.x + (speedX x7 gX gY) + x7.w))) rfl rfl rfl (e_max (a := (x7.x + 0 + x7.w)) (b := (x7.x + (speedX x7 gX gY) + x7.w)) rfl rfl) ?_
          refine l_val (v := .pointer (some ⟨b32, 1, none⟩)) rfl rfl rfl (e_fieldPt (b := b32) (o := 0) rfl tf12) ?_
          refine l_val (v := Ix (x7.y + 0 + x7.h)) rfl rfl rfl (e_load1 tf11 (v := Ix (x7.y + 0 + x7.h)) rfl (k_pt 2 (cs := #[Ix (x7.x + 0 + x7.w), Ix (x7.y + 0 + x7.h)]) (vs := [Ix (x7.y + 0 + x7.h)]) rfl rfl)) ?_
          refine l_val (v := .pointer (some ⟨b34, 1, none⟩)) rfl rfl rfl (e_fieldPt (b := b34) (o := 0) rfl tf12) ?_
          refine l_val (v := Ix (x7.y + (speedY x7 gX gY) + x7.h)) rfl rfl rfl (e_load1 tf11 (v := Ix (x7.y + (speedY x7 gX gY) + x7.h)) rfl (k_pt 0 (cs := #[Ix (x7.x + (speedX x7 gX gY) + x7.w), Ix (x7.y + (speedY x7 gX gY) + x7.h)]) (vs := [Ix (x7.y + (speedY x7 gX gY) + x7.h)]) rfl rfl)) ?_
          refine l_val (v := Ix (max (x7.y + 0 + x7.h) (x7.y + (speedY x7 gX gY) + x7.h))) rfl rfl rfl (e_max (a := (x7.y + 0 + x7.h)) (b := (x7.y + (speedY x7 gX gY) + x7.h)) rfl rfl) ?_
          refine l_val (v := .agg #[Ix (max (x7.x + 0 + x7.w) (x7.x + (speedX x7 gX gY) + x7.w)), Ix (max (x7.y + 0 + x7.h) (x7.y + (speedY x7 gX gY) + x7.h))]) rfl rfl rfl (e_build tf8 tf13 (vs := [(0, Ix (max (x7.x + 0 + x7.w) (x7.x + (speedX x7 gX gY) + x7.w))), (1, Ix (max (x7.y + 0 + x7.h) (x7.y + (speedY x7 gX gY) + x7.h)))]) (cells := #[Ix (max (x7.x + 0 + x7.w) (x7.x + (speedX x7 gX gY) + x7.w)), Ix (max (x7.y + 0 + x7.h) (x7.y + (speedY x7 gX gY) + x7.h))]) rfl rfl) ?_
          refine l_val (v := .agg #[Ix (min (x7.x + 0 - x7.w) (x7.x + (speedX x7 gX gY) - x7.w)), Ix (min (x7.y + 0 - x7.h) (x7.y + (speedY x7 gX gY) - x7.h)), Ix (max (x7.x + 0 + x7.w) (x7.x + (speedX x7 gX gY) + x7.w)), Ix (max (x7.y + 0 + x7.h) (x7.y + (speedY x7 gX gY) + x7.h))]) rfl rfl rfl (e_build tf0 tf3 (vs := [(0, .agg #[Ix (min (x7.x + 0 - x7.w) (x7.x + (speedX x7 gX gY) - x7.w)), Ix (min (x7.y + 0 - x7.h) (x7.y + (speedY x7 gX gY) - x7.h))]), (1, .agg #[Ix (max (x7.x + 0 + x7.w) (x7.x + (speedX x7 gX gY) + x7.w)), Ix (max (x7.y + 0 + x7.h) (x7.y + (speedY x7 gX gY) + x7.h))])]) (cells := #[Ix (min (x7.x + 0 - x7.w) (x7.x + (speedX x7 gX gY) - x7.w)), Ix (min (x7.y + 0 - x7.h) (x7.y + (speedY x7 gX gY) - x7.h)), Ix (max (x7.x + 0 + x7.w) (x7.x + (speedX x7 gX gY) + x7.w)), Ix (max (x7.y + 0 + x7.h) (x7.y + (speedY x7 gX gY) + x7.h))]) rfl rfl) ?_
          refine l_val (v := .bool (decide (((reachA x7 gX gY).lx) = (min (x7.x + 0 - x7.w) (x7.x + (speedX x7 gX gY) - x7.w)) ∧ ((reachA x7 gX gY).ly) = (min (x7.y + 0 - x7.h) (x7.y + (speedY x7 gX gY) - x7.h)) ∧ ((reachA x7 gX gY).hx) = (max (x7.x + 0 + x7.w) (x7.x + (speedX x7 gX gY) + x7.w)) ∧ ((reachA x7 gX gY).hy) = (max (x7.y + 0 + x7.h) (x7.y + (speedY x7 gX gY) + x7.h))))) rfl rfl rfl (e_eql_t (xs := (areaE (reachA x7 gX gY))) (ys := [Ix (min (x7.x + 0 - x7.w) (x7.x + (speedX x7 gX gY) - x7.w)), Ix (min (x7.y + 0 - x7.h) (x7.y + (speedY x7 gX gY) - x7.h)), Ix (max (x7.x + 0 + x7.w) (x7.x + (speedX x7 gX gY) + x7.w)), Ix (max (x7.y + 0 + x7.h) (x7.y + (speedY x7 gX gY) + x7.h))]) tf78 tf79 tf80 rfl rfl rfl rfl arr4_eq) ?_
          refine l_val (v := .bool (decide (((reachA x7 gX gY).lx) = (min (x7.x + 0 - x7.w) (x7.x + (speedX x7 gX gY) - x7.w)) ∧ ((reachA x7 gX gY).ly) = (min (x7.y + 0 - x7.h) (x7.y + (speedY x7 gX gY) - x7.h)) ∧ ((reachA x7 gX gY).hx) = (max (x7.x + 0 + x7.w) (x7.x + (speedX x7 gX gY) + x7.w)) ∧ ((reachA x7 gX gY).hy) = (max (x7.y + 0 + x7.h) (x7.y + (speedY x7 gX gY) + x7.h))))) rfl rfl rfl (e_assign) ?_
          refine l_nil ?_
          refine f_then ?_
          refine c_ret ?_
          refine ret1 Try.results4 (v := .bool (decide (((reachA x7 gX gY).lx) = (min (x7.x + 0 - x7.w) (x7.x + (speedX x7 gX gY) - x7.w)) ∧ ((reachA x7 gX gY).ly) = (min (x7.y + 0 - x7.h) (x7.y + (speedY x7 gX gY) - x7.h)) ∧ ((reachA x7 gX gY).hx) = (max (x7.x + 0 + x7.w) (x7.x + (speedX x7 gX gY) + x7.w)) ∧ ((reachA x7 gX gY).hy) = (max (x7.y + 0 + x7.h) (x7.y + (speedY x7 gX gY) + x7.h))))) rfl ?_
          intro w hw
          exact ⟨congrArg (fun b : Bool => Ending.returned (.bool b)) (decide_eq_true (by refine ⟨?_, ?_, ?_, ?_⟩ <;> omega)), st_mask [false, false] rfl (bk1 _ _ (st_mask [false, false, false, false, false, false, false, false, false, false] rfl hw))⟩
end Go.Proofs
