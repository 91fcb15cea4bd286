/-
  IslandLess: walked. Printed by a program of my own.
-/
import Derived.Test.YtoijanalppaplaaIs14
import Derived.Test.YtoijanalppaplaaIsLaw6
namespace Go.Isl
open Go.Sl Go.Brd Go.Stp Go.Proofs
theorem Knows.pick {β : Base} {L : List Res} {r : Res} {F : PHeap → Prop} (i : Nat) (hi : L[i]? = some r) (h : Knows β [r] F) : Knows β L F := fun a hs hr => h a hs fun r' hm => by rw [List.mem_singleton.1 hm]; exact hr _ (List.mem_of_getElem? hi)
theorem IsS.some {fb : List KB} {rs : List KR} {gx gy x : Int} {xl : List (List Int)} (h : IsS fb rs gx gy xl) (hx : x ∈ fb.map (·.id)) : 0 < xl.length := by
  obtain ⟨k, _, hk⟩ := h.place hx
  have := (List.getElem?_eq_some_iff.1 hk).1
  omega
end Go.Isl
namespace Go.Proofs
open Go Go.Sl Go.Brd Go.Stp Go.Isl
theorem tf94 : Try.prog.underlying 5 = some (.int .u8) := by kernel_rfl
theorem tf95 : Try.prog.underlying 3 = some (.int .i64) := by kernel_rfl
set_option maxHeartbeats 4000000 in
theorem less_ok7 (β : Base) (w : World) (hw : St β [] w) (v u : Value) (fs : List KF) (us : List UInt8) (hs : Sl FormR β.heap v fs) (hu : Sl U8R β.heap u us) (gx gy : Int) (hgx8 : -128 ≤ gx ∧ gx ≤ 127) (hgy8 : -128 ≤ gy ∧ gy ≤ 127) (wh ot : UInt8) : Calls Try.prog 7 #[v, u, .int .i8 gx, .int .i8 gy, Bx wh, Bx ot] w fun r w' => r = .returned (.bool true) ∧ St β [] w' := by
  refine enter (n := 272) Try.func7 rfl Try.ntmps7 rfl ?_ hw
  refine c_seq ?_
  refine c_region ?_
  refine l_val (v := .bool false) rfl rfl rfl (e_assign) ?_
  refine l_nil ?_
  refine f_then ?_
  refine c_seq ?_
  refine c_seq ?_
  refine c_region ?_
  refine l_call rfl rfl rfl (cl_value (fst := []) (cap := []) (vs := []) (all := []) tf81 rfl rfl rfl) ?_
  intro w hw
  obtain ⟨β1, sb, kn, hw1, back⟩ := St.frame_all hw
  refine (awake_ok β1 w hw1).mono ?_
  rintro e w' ⟨rfl, hw'⟩
  refine ⟨_, rfl, _, back _ _ hw', ?_⟩
  clear hw hw1 hw' back kn sb
  refine l_val (v := .bool false) rfl rfl rfl (e_not (a := true) rfl) ?_
  refine l_nil ?_
  refine f_then ?_
  refine c_no rfl ?_
  refine c_skip ?_
  refine f_then ?_
  refine c_seq ?_
  refine c_region ?_
  refine l_val (v := v) rfl rfl rfl (e_move) ?_
  refine l_val (v := u) rfl rfl rfl (e_move) ?_
  refine l_val (v := .int .i8 (gx)) rfl rfl rfl (e_move) ?_
  refine l_val (v := .int .i8 (gy)) rfl rfl rfl (e_move) ?_
  refine l_call rfl rfl rfl (cl_value (fst := []) (cap := []) (vs := [v, u, .int .i8 (gx), .int .i8 (gy)]) (all := [v, u, .int .i8 (gx), .int .i8 (gy)]) tf82 rfl rfl rfl) ?_
  intro w hw
  obtain ⟨β1, sb, kn, hw1, back⟩ := St.frame_all hw
  refine (made7_ok β1 w hw1 _ _ fs us (Sl.mono _ _ _ _ _ sb hs) (Sl.mono _ _ _ _ _ sb hu) gx gy hgx8 hgy8).mono ?_
  rintro e w' ⟨bs, R, p1, c2, q3, d4, rfl, hmP, hbl, hrl, hw'⟩
  refine ⟨_, rfl, _, back _ _ hw', ?_⟩
  clear hw hw1 hw' back kn sb
  refine l_mv rfl rfl rfl (m_alloc tf67) ?_
  rintro _ _ ⟨b5, rfl, rfl⟩
  refine l_mu rfl rfl (m_store 0 tf31 (b := b5) (o := 0) (T := 32) (cs := #[.slice none 0 0, .slice none 0 0, .int .i64 (0), .int .i64 (0)]) (cs' := #[.slice p1 (bs.length) c2, .slice q3 (R.length) d4, Ix ((Int.tmod gx 32)), Ix ((Int.tmod gy 32))]) (v := .agg #[.slice p1 (bs.length) c2, .slice q3 (R.length) d4, Ix ((Int.tmod gx 32)), Ix ((Int.tmod gy 32))]) rfl rfl rfl rfl rfl rfl rfl) ?_
  refine l_nil ?_
  refine f_then ?_
  refine c_seq ?_
  have hgX := tmod_bd gx
  have hgY := tmod_bd gy
  obtain ⟨gX, hgx1⟩ : ∃ z, z = Int.tmod gx 32 := ⟨_, rfl⟩
  obtain ⟨gY, hgy1⟩ : ∃ z, z = Int.tmod gy 32 := ⟨_, rfl⟩
  rw [← hgx1] at hgX hmP
  rw [← hgy1] at hgY hmP
  rw [← hgx1, ← hgy1]
  have hok := hmP.ok
  obtain ⟨hk1, hk2, hk3, hk4, hk5, hk6⟩ := id hok
  have hfew := hmP.few
  refine c_freeze2 (M := [pt b5 (.cells #[.slice p1 (bs.length) c2, .slice q3 (R.length) d4, Ix (gX), Ix (gY)] 32)]) (K := [rowF BodyF 39 p1 c2 bs, rowF RopeF 49 q3 d4 R]) rfl (fun βf ext1 kn1 bk1 => ?_)
  have hslB : Sl KBR βf.heap (.slice p1 bs.length c2) bs := kn1 _ (k_fl 0 (F := BodyF) rfl)
  obtain ⟨-, hcB, hmB, heB⟩ := hslB.parts
  have hslR : Sl KRR βf.heap (.slice q3 R.length d4) R := kn1 _ (k_fl 1 (F := RopeF) rfl)
  obtain ⟨-, hcR, hmR, heR⟩ := hslR.parts
  have hfb := freeB_len bs
  have hb16 := hmP.few
  have hr6 := hmP.ropes
  refine c_region ?_
  refine l_val (v := .pointer (some ⟨b5, 0, none⟩)) rfl rfl rfl (e_fieldPt (b := b5) (o := 0) rfl tf33) ?_
  refine l_val (v := .slice p1 (bs.length) (c2)) rfl rfl rfl (e_load1 tf26 (v := .slice p1 (bs.length) (c2)) rfl (k_pt 0 (cs := #[.slice p1 (bs.length) (c2), .slice q3 (R.length) (d4), Ix (gX), Ix (gY)]) (vs := [.slice p1 (bs.length) (c2)]) rfl rfl)) ?_
  refine l_val (v := Nx (bs.length)) rfl rfl rfl (e_len (a := p1) (n := bs.length) (c := c2) rfl tf15) ?_
  refine l_val (v := Nx (bs.length)) rfl rfl rfl (e_assign) ?_
  refine l_nil ?_
  refine f_then ?_
  refine c_seq ?_
  refine c_seq ?_
  refine c_region ?_
  refine l_val (v := Nx (bs.length)) rfl rfl rfl (e_move) ?_
  refine l_val (v := .bool (decide (((bs.length : Nat) : Int) < (2 : Int)))) rfl rfl rfl (e_lss (a := ((bs.length : Nat) : Int)) (b := (2 : Int)) rfl rfl) ?_
  refine l_nil ?_
  refine f_then ?_
  refine c_if (((bs.length : Nat) : Int) < (2 : Int)) rfl (fun hc6 => ?_) (fun hc6 => ?_)
  ·
    refine c_seq ?_
    refine c_region ?_
    refine l_val (v := .bool true) rfl rfl rfl (e_assign) ?_
    refine l_nil ?_
    refine f_then ?_
    refine c_ret ?_
    refine f_then_ret ?_
    refine ret1 Try.results7 (v := .bool true) rfl ?_
    intro w hw
    exact ⟨rfl, (st_mask [false, false] rfl (bk1 _ _ (st_mask [false] rfl hw)))⟩
  ·
    refine c_skip ?_
    refine f_then ?_
    refine c_seq ?_
    refine c_region ?_
    refine l_val (v := .agg #[.slice p1 (bs.length) (c2), .slice q3 (R.length) (d4), Ix (gX), Ix (gY)]) rfl rfl rfl (e_load tf31 (cs := [.slice p1 (bs.length) (c2), .slice q3 (R.length) (d4), Ix (gX), Ix (gY)]) rfl (k_pt 0 (cs := #[.slice p1 (bs.length) (c2), .slice q3 (R.length) (d4), Ix (gX), Ix (gY)]) (vs := [.slice p1 (bs.length) (c2), .slice q3 (R.length) (d4), Ix (gX), Ix (gY)]) rfl rfl) rfl) ?_
    refine l_call rfl rfl rfl (cl_value (fst := []) (cap := []) (vs := [.agg #[.slice p1 (bs.length) (c2), .slice q3 (R.length) (d4), Ix (gX), Ix (gY)]]) (all := [.agg #[.slice p1 (bs.length) (c2), .slice q3 (R.length) (d4), Ix (gX), Ix (gY)]]) tf75 rfl rfl rfl) ?_
    intro w hw
    obtain ⟨β1, sb, kn, hw1, back⟩ := St.frame_all hw
    refine (islandsM_ok β1 w hw1 _ _ gX gY bs R (Sl.mono _ _ _ _ _ sb hslB) (Sl.mono _ _ _ _ _ sb hslR) (by omega) (by omega)).mono ?_
    rintro e w' ⟨p7, c8, hs9, hx10, rfl, hw'⟩
    refine ⟨_, rfl, _, back _ _ hw', ?_⟩
    clear hw hw1 hw' back kn sb
    refine l_val (v := .tuple #[.slice p7 (hs9.length) c8, Ix ((errI bs R gX gY))]) rfl rfl rfl (e_move) ?_
    refine l_val (v := .slice p7 (hs9.length) c8) rfl rfl rfl (e_extract (vs := #[.slice p7 (hs9.length) c8, Ix ((errI bs R gX gY))]) rfl rfl) ?_
    refine l_val (v := Ix ((errI bs R gX gY))) rfl rfl rfl (e_extract (vs := #[.slice p7 (hs9.length) c8, Ix ((errI bs R gX gY))]) rfl rfl) ?_
    refine l_val (v := .slice p7 (hs9.length) c8) rfl rfl rfl (e_assign) ?_
    refine l_val (v := Ix ((errI bs R gX gY))) rfl rfl rfl (e_assign) ?_
    refine l_nil ?_
    refine f_then ?_
    refine c_seq ?_
    refine c_perm (L' := [pt b5 (.cells #[.slice p1 (bs.length) (c2), .slice q3 (R.length) (d4), Ix (gX), Ix (gY)] 32), Sat (llL p7 c8 hs9)]) (perm_ix [1, 0] 2 rfl (by kernel_rfl) (by kernel_rfl)) ?_
    refine c_freeze2 (M := [pt b5 (.cells #[.slice p1 (bs.length) (c2), .slice q3 (R.length) (d4), Ix (gX), Ix (gY)] 32)]) (K := [Sat (llL p7 c8 hs9)]) rfl (fun βX extX knX bkX => ?_)
    have hslX := knX _ (k_ll 0 rfl)
    obtain ⟨xl, hqX⟩ : ∃ z, z = hs9.map (·.xs) := ⟨_, rfl⟩
    have hln : hs9.length = xl.length := by rw [hqX, List.length_map]
    rw [← hqX, hln] at hslX
    rw [hln]
    have hXX : xl = (islR bs R gX gY) := by rw [hqX, hx10]
    obtain ⟨-, hcX, hmX, heX⟩ := hslX.parts
    have hslB := Sl.mono _ _ _ _ _ extX.sub hslB
    have hslR := Sl.mono _ _ _ _ _ extX.sub hslR
    have heB := Elems.mono _ _ _ _ _ extX.sub heB
    have heR := Elems.mono _ _ _ _ _ extX.sub heR
    have hS : IsS (freeB bs) R gX gY xl := IsS.of hok hXX
    have hml1 : wh.toNat % bs.length < bs.length := Nat.mod_lt _ (by omega)
    have hml2 : ot.toNat % bs.length < bs.length := Nat.mod_lt _ (by omega)
    have he1 : errI bs R gX gY = 0 := if_pos hok
    obtain ⟨x11, hx12⟩ : ∃ x_, (bs)[wh.toNat % bs.length]? = some x_ := ⟨_, List.getElem?_eq_getElem (by omega)⟩
    obtain ⟨ha13, cs14, hc15, rfl⟩ := heB _ _ hx12
    obtain ⟨x17, hx18⟩ : ∃ x_, (bs)[ot.toNat % bs.length]? = some x_ := ⟨_, List.getElem?_eq_getElem (by omega)⟩
    obtain ⟨ha19, cs20, hc21, rfl⟩ := heB _ _ hx18
    refine c_any [⟨[], [], [0], [48], fun f => f 48 = .pointer (some ⟨b5, 0, none⟩)⟩, ⟨[0], [0], [], [49], fun f => f 49 = .slice p1 (bs.length) (c2)⟩, ⟨[], [], [1], [50], fun f => f 50 = Bx (wh)⟩, ⟨[2], [2], [], [51], fun f => f 51 = Nx (wh.toNat)⟩, ⟨[], [], [2], [52], fun f => f 52 = Nx (bs.length)⟩, ⟨[2, 3, 4], [3, 4], [], [53], fun f => f 53 = Nx (wh.toNat % bs.length)⟩, ⟨[0, 1, 2, 3, 4, 5], [1, 5], [], [54], fun f => f 54 = .pointer (some ((ba p1).add ((wh.toNat % bs.length) * 9)))⟩, ⟨[0, 1, 2, 3, 4, 5, 6], [6], [], [55], fun f => f 55 = .agg (bC x11)⟩, ⟨[], [], [0], [56], fun f => f 56 = .pointer (some ⟨b5, 0, none⟩)⟩, ⟨[8], [8], [], [57], fun f => f 57 = .slice p1 (bs.length) (c2)⟩, ⟨[], [], [3], [58], fun f => f 58 = Bx (ot)⟩, ⟨[10], [10], [], [59], fun f => f 59 = Nx (ot.toNat)⟩, ⟨[], [], [2], [60], fun f => f 60 = Nx (bs.length)⟩, ⟨[10, 11, 12], [11, 12], [], [61], fun f => f 61 = Nx (ot.toNat % bs.length)⟩, ⟨[8, 9, 10, 11, 12, 13], [9, 13], [], [62], fun f => f 62 = .pointer (some ((ba p1).add ((ot.toNat % bs.length) * 9)))⟩, ⟨[8, 9, 10, 11, 12, 13, 14], [14], [], [63], fun f => f 63 = .agg (bC x17)⟩, ⟨[], [], [], [17], fun f => f 17 = .pointer (some ⟨(blk (f 17)), 0, none⟩)⟩, ⟨[], [], [], [18], fun f => f 18 = .pointer (some ⟨(blk (f 18)), 0, none⟩)⟩, ⟨[0, 1, 2, 3, 4, 5, 6, 7, 16, 17], [16, 7], [], [], fun _ => True⟩, ⟨[0, 1, 2, 3, 4, 5, 6, 7, 8, 9, 10, 11, 12, 13, 14, 15, 16, 17, 18], [17, 15], [], [], fun _ => True⟩] [⟨none, none, [1, 9], [], fun _ => pt b5 (.cells #[.slice p1 (bs.length) (c2), .slice q3 (R.length) (d4), Ix (gX), Ix (gY)] 32)⟩, ⟨(some 16), (some 18), [18], [17], fun f => pt (blk (f 17)) (.cells #[.int .i64 (0), .int .i64 (0), .int .i64 (0), .int .i64 (0), .int .i64 (0), .int .i64 (0), .int .i64 (0), .bool false, .bool false] 39)⟩, ⟨(some 17), (some 19), [19], [18], fun f => pt (blk (f 18)) (.cells #[.int .i64 (0), .int .i64 (0), .int .i64 (0), .int .i64 (0), .int .i64 (0), .int .i64 (0), .int .i64 (0), .bool false, .bool false] 39)⟩, ⟨(some 18), none, [], [17], fun f => pt (blk (f 17)) (.cells (bC x11) 39)⟩, ⟨(some 19), none, [], [18], fun f => pt (blk (f 18)) (.cells (bC x17) 39)⟩] [(13, .pointer (some ⟨b5, 0, none⟩)), (4, Bx (wh)), (14, Nx (bs.length)), (5, Bx (ot)), (15, .slice p7 (xl.length) (c8)), (16, Ix ((errI bs R gX gY)))] [0, 4, 5] [] (by kernel_rfl) (by kernel_rfl) (by kernel_rfl) (by kernel_rfl) rfl ⟨rfl, rfl, rfl, rfl, rfl, rfl, trivial⟩ ⟨?_, ?_, ?_, ?_, ?_, ?_, ?_, ?_, ?_, ?_, ?_, ?_, ?_, ?_, ?_, ?_, ?_, ?_, ?_, ?_, trivial⟩ ?_
    · rintro f M - ⟨i0, -⟩
      have hs13 : f 13 = .pointer (some ⟨b5, 0, none⟩) := i0
      refine ob_start (L' := M) (by rfl) (up_cons rfl hs13) ?_
      refine l_val (v := .pointer (some ⟨b5, 0, none⟩)) rfl rfl rfl (e_fieldPt (b := b5) (o := 0) rfl tf33) ?_
      refine l_nil ?_
      exact f_owes_d (up_cons rfl hs13) rfl (List.Perm.refl _)
    · rintro f M ⟨k0, -⟩ -
      have hs48 : f 48 = .pointer (some ⟨b5, 0, none⟩) := k0
      refine ob_start (L' := pt b5 (.cells #[.slice p1 (bs.length) (c2), .slice q3 (R.length) (d4), Ix (gX), Ix (gY)] 32) :: M) (by rfl) (up_cons rfl hs48) ?_
      refine l_val (v := .slice p1 (bs.length) (c2)) rfl rfl rfl (e_load1 tf26 (v := .slice p1 (bs.length) (c2)) rfl (k_pt 0 (cs := #[.slice p1 (bs.length) (c2), .slice q3 (R.length) (d4), Ix (gX), Ix (gY)]) (vs := [.slice p1 (bs.length) (c2)]) rfl rfl)) ?_
      refine l_nil ?_
      exact f_owes_d (up_cons rfl hs48) rfl (perm_front 0 rfl)
    · rintro f M - ⟨i0, -⟩
      have hs4 : f 4 = Bx (wh) := i0
      refine ob_start (L' := M) (by rfl) (up_cons rfl hs4) ?_
      refine l_val (v := Bx (wh)) rfl rfl rfl (e_move) ?_
      refine l_nil ?_
      exact f_owes_d (up_cons rfl hs4) rfl (List.Perm.refl _)
    · rintro f M ⟨k0, -⟩ -
      have hs50 : f 50 = Bx (wh) := k0
      refine ob_start (L' := M) (by rfl) (up_cons rfl hs50) ?_
      refine l_val (v := Nx (wh.toNat)) rfl rfl rfl (e_conv (a := ((wh).toNat : Int)) rfl ⟨_, tf94⟩ tf95 (i64n rfl (by have := (wh).toNat_lt; omega))) ?_
      refine l_nil ?_
      exact f_owes_d (up_cons rfl hs50) rfl (List.Perm.refl _)
    · rintro f M - ⟨i0, -⟩
      have hs14 : f 14 = Nx (bs.length) := i0
      refine ob_start (L' := M) (by rfl) (up_cons rfl hs14) ?_
      refine l_val (v := Nx (bs.length)) rfl rfl rfl (e_move) ?_
      refine l_nil ?_
      exact f_owes_d (up_cons rfl hs14) rfl (List.Perm.refl _)
    · rintro f M ⟨k0, k1, -⟩ -
      have hs51 : f 51 = Nx (wh.toNat) := k0
      have hs52 : f 52 = Nx (bs.length) := k1
      refine ob_start (L' := M) (by rfl) (up_cons (up_cons rfl hs51) hs52) ?_
      refine l_val (v := Nx (wh.toNat % bs.length)) rfl rfl rfl (e_rem (a := ((wh.toNat : Nat) : Int)) (b := ((bs.length : Nat) : Int)) rfl rfl (by omega) (nat_tmod _ _)) ?_
      refine l_nil ?_
      exact f_owes_d (up_cons (up_cons rfl hs51) hs52) rfl (List.Perm.refl _)
    · rintro f M ⟨k0, k1, -⟩ -
      have hs49 : f 49 = .slice p1 (bs.length) (c2) := k0
      have hs53 : f 53 = Nx (wh.toNat % bs.length) := k1
      refine ob_start (L' := M) (by rfl) (up_cons (up_cons rfl hs49) hs53) ?_
      refine l_val (v := .pointer (some ((ba p1).add ((wh.toNat % bs.length) * 9)))) rfl rfl rfl (e_indexAddr (k := wh.toNat % bs.length) (len := bs.length) (cap := c2) (a := p1) rfl rfl tf16 (by omega) ha13) ?_
      refine l_nil ?_
      exact f_owes_d (up_cons (up_cons rfl hs49) hs53) rfl (List.Perm.refl _)
    · rintro f M ⟨k0, -⟩ -
      have hs54 : f 54 = .pointer (some ((ba p1).add ((wh.toNat % bs.length) * 9))) := k0
      refine ob_start (L' := M) (by rfl) (up_cons rfl hs54) ?_
      refine l_val (v := .agg (bC x11)) rfl rfl rfl (e_load tf1 (cs := (bodyE x11)) rfl (Knows.of_base (Cs.mono _ _) hc15) rfl) ?_
      refine l_nil ?_
      exact f_owes_d (up_cons rfl hs54) rfl (List.Perm.refl _)
    · rintro f M - ⟨i0, -⟩
      have hs13 : f 13 = .pointer (some ⟨b5, 0, none⟩) := i0
      refine ob_start (L' := M) (by rfl) (up_cons rfl hs13) ?_
      refine l_val (v := .pointer (some ⟨b5, 0, none⟩)) rfl rfl rfl (e_fieldPt (b := b5) (o := 0) rfl tf33) ?_
      refine l_nil ?_
      exact f_owes_d (up_cons rfl hs13) rfl (List.Perm.refl _)
    · rintro f M ⟨k0, -⟩ -
      have hs56 : f 56 = .pointer (some ⟨b5, 0, none⟩) := k0
      refine ob_start (L' := pt b5 (.cells #[.slice p1 (bs.length) (c2), .slice q3 (R.length) (d4), Ix (gX), Ix (gY)] 32) :: M) (by rfl) (up_cons rfl hs56) ?_
      refine l_val (v := .slice p1 (bs.length) (c2)) rfl rfl rfl (e_load1 tf26 (v := .slice p1 (bs.length) (c2)) rfl (k_pt 0 (cs := #[.slice p1 (bs.length) (c2), .slice q3 (R.length) (d4), Ix (gX), Ix (gY)]) (vs := [.slice p1 (bs.length) (c2)]) rfl rfl)) ?_
      refine l_nil ?_
      exact f_owes_d (up_cons rfl hs56) rfl (perm_front 0 rfl)
    · rintro f M - ⟨i0, -⟩
      have hs5 : f 5 = Bx (ot) := i0
      refine ob_start (L' := M) (by rfl) (up_cons rfl hs5) ?_
      refine l_val (v := Bx (ot)) rfl rfl rfl (e_move) ?_
      refine l_nil ?_
      exact f_owes_d (up_cons rfl hs5) rfl (List.Perm.refl _)
    · rintro f M ⟨k0, -⟩ -
      have hs58 : f 58 = Bx (ot) := k0
      refine ob_start (L' := M) (by rfl) (up_cons rfl hs58) ?_
      refine l_val (v := Nx (ot.toNat)) rfl rfl rfl (e_conv (a := ((ot).toNat : Int)) rfl ⟨_, tf94⟩ tf95 (i64n rfl (by have := (ot).toNat_lt; omega))) ?_
      refine l_nil ?_
      exact f_owes_d (up_cons rfl hs58) rfl (List.Perm.refl _)
    · rintro f M - ⟨i0, -⟩
      have hs14 : f 14 = Nx (bs.length) := i0
      refine ob_start (L' := M) (by rfl) (up_cons rfl hs14) ?_
      refine l_val (v := Nx (bs.length)) rfl rfl rfl (e_move) ?_
      refine l_nil ?_
      exact f_owes_d (up_cons rfl hs14) rfl (List.Perm.refl _)
    · rintro f M ⟨k0, k1, -⟩ -
      have hs59 : f 59 = Nx (ot.toNat) := k0
      have hs60 : f 60 = Nx (bs.length) := k1
      refine ob_start (L' := M) (by rfl) (up_cons (up_cons rfl hs59) hs60) ?_
      refine l_val (v := Nx (ot.toNat % bs.length)) rfl rfl rfl (e_rem (a := ((ot.toNat : Nat) : Int)) (b := ((bs.length : Nat) : Int)) rfl rfl (by omega) (nat_tmod _ _)) ?_
      refine l_nil ?_
      exact f_owes_d (up_cons (up_cons rfl hs59) hs60) rfl (List.Perm.refl _)
    · rintro f M ⟨k0, k1, -⟩ -
      have hs57 : f 57 = .slice p1 (bs.length) (c2) := k0
      have hs61 : f 61 = Nx (ot.toNat % bs.length) := k1
      refine ob_start (L' := M) (by rfl) (up_cons (up_cons rfl hs57) hs61) ?_
      refine l_val (v := .pointer (some ((ba p1).add ((ot.toNat % bs.length) * 9)))) rfl rfl rfl (e_indexAddr (k := ot.toNat % bs.length) (len := bs.length) (cap := c2) (a := p1) rfl rfl tf16 (by omega) ha19) ?_
      refine l_nil ?_
      exact f_owes_d (up_cons (up_cons rfl hs57) hs61) rfl (List.Perm.refl _)
    · rintro f M ⟨k0, -⟩ -
      have hs62 : f 62 = .pointer (some ((ba p1).add ((ot.toNat % bs.length) * 9))) := k0
      refine ob_start (L' := M) (by rfl) (up_cons rfl hs62) ?_
      refine l_val (v := .agg (bC x17)) rfl rfl rfl (e_load tf1 (cs := (bodyE x17)) rfl (Knows.of_base (Cs.mono _ _) hc21) rfl) ?_
      refine l_nil ?_
      exact f_owes_d (up_cons rfl hs62) rfl (List.Perm.refl _)
    · rintro f M - -
      refine ob_start (L' := M) (by rfl) rfl ?_
      refine l_mv rfl rfl rfl (m_alloc tf17) ?_
      rintro _ _ ⟨b24, rfl, rfl⟩
      refine l_nil ?_
      exact f_owes_d rfl rfl (perm_front 0 rfl)
    · rintro f M - -
      refine ob_start (L' := M) (by rfl) rfl ?_
      refine l_mv rfl rfl rfl (m_alloc tf17) ?_
      rintro _ _ ⟨b26, rfl, rfl⟩
      refine l_nil ?_
      exact f_owes_d rfl rfl (perm_front 0 rfl)
    · rintro f M ⟨k0, k1, -⟩ -
      have hs17 : f 17 = .pointer (some ⟨(blk (f 17)), 0, none⟩) := k0
      have hs55 : f 55 = .agg (bC x11) := k1
      refine ob_start (L' := pt (blk (f 17)) (.cells #[.int .i64 (0), .int .i64 (0), .int .i64 (0), .int .i64 (0), .int .i64 (0), .int .i64 (0), .int .i64 (0), .bool false, .bool false] 39) :: M) (by rfl) (up_cons (up_cons rfl hs17) hs55) ?_
      refine l_mu rfl rfl (m_store 0 tf1 (b := (blk (f 17))) (o := 0) (T := 39) (cs := #[.int .i64 (0), .int .i64 (0), .int .i64 (0), .int .i64 (0), .int .i64 (0), .int .i64 (0), .int .i64 (0), .bool false, .bool false]) (cs' := (bC x11)) (v := .agg (bC x11)) rfl rfl rfl rfl rfl rfl rfl) ?_
      refine l_nil ?_
      exact f_owes_n (up_cons (up_cons rfl hs17) hs55) trivial (perm_front 0 rfl)
    · rintro f M ⟨k0, k1, -⟩ -
      have hs18 : f 18 = .pointer (some ⟨(blk (f 18)), 0, none⟩) := k0
      have hs63 : f 63 = .agg (bC x17) := k1
      refine ob_start (L' := pt (blk (f 18)) (.cells #[.int .i64 (0), .int .i64 (0), .int .i64 (0), .int .i64 (0), .int .i64 (0), .int .i64 (0), .int .i64 (0), .bool false, .bool false] 39) :: M) (by rfl) (up_cons (up_cons rfl hs18) hs63) ?_
      refine l_mu rfl rfl (m_store 0 tf1 (b := (blk (f 18))) (o := 0) (T := 39) (cs := #[.int .i64 (0), .int .i64 (0), .int .i64 (0), .int .i64 (0), .int .i64 (0), .int .i64 (0), .int .i64 (0), .bool false, .bool false]) (cs' := (bC x17)) (v := .agg (bC x17)) rfl rfl rfl rfl rfl rfl rfl) ?_
      refine l_nil ?_
      exact f_owes_n (up_cons (up_cons rfl hs18) hs63) trivial (perm_front 0 rfl)
    rintro fa27 ⟨-, -, -, -, -, -, -, -, -, -, -, -, -, -, -, -, k16, k17, -, -, -⟩ ⟨j0, j1, j2, -⟩
    refine f_re (L' := [pt b5 (.cells #[.slice p1 (bs.length) (c2), .slice q3 (R.length) (d4), Ix (gX), Ix (gY)] 32), pt (blk (fa27 17)) (.cells (bC x11) 39), pt (blk (fa27 18)) (.cells (bC x17) 39)]) (by rfl) ?_
    refine f_rebase (d := 13) (v := .pointer (some ⟨b5, 0, none⟩)) j0 ?_
    refine f_rebase (d := 15) (v := .slice p7 (xl.length) (c8)) j1 ?_
    refine f_rebase (d := 16) (v := Ix ((errI bs R gX gY))) j2 ?_
    refine f_rebase (d := 17) (v := .pointer (some ⟨(blk (fa27 17)), 0, none⟩)) k16 ?_
    refine f_rebase (d := 18) (v := .pointer (some ⟨(blk (fa27 18)), 0, none⟩)) k17 ?_
    refine f_then ?_
    refine c_seq ?_
    have hab1 := List.mem_of_getElem? hx12
    have hab2 := List.mem_of_getElem? hx18
    have ida := free_id hmP hab1
    have idb := free_id hmP hab2
    have hia := hmP.bodies.1 _ _ hx12
    have hib := hmP.bodies.1 _ _ hx18
    refine c_region ?_
    refine l_mv rfl rfl rfl (m_alloc tf67) ?_
    rintro _ _ ⟨b28, rfl, rfl⟩
    refine l_nil ?_
    refine f_then ?_
    refine c_seq ?_
    refine c_region ?_
    refine l_val (v := .pointer (some ⟨b5, 2, none⟩)) rfl rfl rfl (e_fieldPt (b := b5) (o := 0) rfl tf40) ?_
    refine l_val (v := .agg #[Ix (gX), Ix (gY)]) rfl rfl rfl (e_load tf5 (cs := [Ix (gX), Ix (gY)]) rfl (k_pt 1 (cs := #[.slice p1 (bs.length) (c2), .slice q3 (R.length) (d4), Ix (gX), Ix (gY)]) (vs := [Ix (gX), Ix (gY)]) rfl rfl) rfl) ?_
    refine l_val (v := .pointer (some ⟨b28, 2, none⟩)) rfl rfl rfl (e_fieldPt (b := b28) (o := 0) rfl tf40) ?_
    refine l_mu rfl rfl (m_store 0 tf5 (b := b28) (o := 2) (T := 32) (cs := #[.slice none 0 0, .slice none 0 0, .int .i64 (0), .int .i64 (0)]) (cs' := #[.slice none 0 0, .slice none 0 0, Ix (gX), Ix (gY)]) (v := .agg #[Ix (gX), Ix (gY)]) rfl rfl rfl rfl rfl rfl rfl) ?_
    refine l_nil ?_
    refine f_then ?_
    refine c_seq ?_
    refine c_seq ?_
    refine c_emp (r := rowF BodyF 39 none 0 []) (row_nil _ _ _) ?_
    refine c_region ?_
    refine l_val (v := .pointer (some ⟨b5, 0, none⟩)) rfl rfl rfl (e_fieldPt (b := b5) (o := 0) rfl tf33) ?_
    refine l_val (v := .slice p1 (bs.length) (c2)) rfl rfl rfl (e_load1 tf26 (v := .slice p1 (bs.length) (c2)) rfl (k_pt 2 (cs := #[.slice p1 (bs.length) (c2), .slice q3 (R.length) (d4), Ix (gX), Ix (gY)]) (vs := [.slice p1 (bs.length) (c2)]) rfl rfl)) ?_
    refine l_val (v := Nx (bs.length)) rfl rfl rfl (e_len (a := p1) (n := bs.length) (c := c2) rfl tf15) ?_
    refine l_val (v := .int .i64 (0)) rfl rfl rfl (e_move) ?_
    refine l_nil ?_
    refine f_then ?_
    refine c_block ?_
    refine c_loop (fun (x_ : Nat × Option Addr × Nat) (f : Fm) (L : List Res) => match x_ with | (k, t0, c0) => (f 13 = .pointer (some ⟨b5, 0, none⟩) ∧ f 15 = .slice p7 (xl.length) (c8) ∧ f 16 = Ix ((errI bs R gX gY)) ∧ f 17 = .pointer (some ⟨(blk (fa27 17)), 0, none⟩) ∧ f 18 = .pointer (some ⟨(blk (fa27 18)), 0, none⟩) ∧ f 19 = .pointer (some ⟨b28, 0, none⟩) ∧ f 68 = .slice p1 (bs.length) (c2) ∧ f 69 = Nx (bs.length) ∧ f 70 = Nx (k)) ∧ L = [rowF BodyF 39 t0 c0 (lessB (bs.take k) x11.id), pt b28 (.cells #[.slice t0 ((lessB (bs.take k) x11.id).length) c0, .slice none 0 0, Ix (gX), Ix (gY)] 32), pt b5 (.cells #[.slice p1 (bs.length) (c2), .slice q3 (R.length) (d4), Ix (gX), Ix (gY)] 32), pt (blk (fa27 17)) (.cells (bC x11) 39), pt (blk (fa27 18)) (.cells (bC x17) 39)] ∧ (k ≤ bs.length)) (fun (x_ : Nat × Option Addr × Nat) => match x_ with | (k, t0, c0) => bs.length - k) (0, none, 0) ?_ ?_
    · exact ⟨⟨rfl, rfl, rfl, rfl, rfl, rfl, rfl, rfl, rfl⟩, rfl, by omega⟩
    rintro ⟨k, t0, c0⟩ f0 L0 ⟨⟨hs13, hs15, hs16, hs17, hs18, hs19, hs68, hs69, hs70⟩, hL, hk⟩
    subst L0
    refine rebase (d := 13) hs13 ?_
    refine rebase (d := 15) hs15 ?_
    refine rebase (d := 16) hs16 ?_
    refine rebase (d := 17) hs17 ?_
    refine rebase (d := 18) hs18 ?_
    refine rebase (d := 19) hs19 ?_
    refine rebase (d := 68) hs68 ?_
    refine rebase (d := 69) hs69 ?_
    refine rebase (d := 70) hs70 ?_
    clear hs13 hs15 hs16 hs17 hs18 hs19 hs68 hs69 hs70
    have hpl : (lessB (bs.take k) x11.id).length ≤ 64 := by have h1 := lessB_len (bs.take k) x11.id; rw [List.length_take] at h1; omega
    refine c_seq ?_
    refine c_region ?_
    refine l_val (v := .bool (decide (((k : Nat) : Int) < ((bs.length : Nat) : Int)))) rfl rfl rfl (e_lss (a := ((k : Nat) : Int)) (b := ((bs.length : Nat) : Int)) rfl rfl) ?_
    refine l_nil ?_
    refine f_then ?_
    refine c_seq ?_
    refine c_if (((k : Nat) : Int) < ((bs.length : Nat) : Int)) rfl (fun hc29 => ?_) (fun hc29 => ?_)
    ·
      refine c_skip ?_
      refine f_then ?_
      refine c_seq ?_
      refine c_block ?_
      refine c_seq ?_
      refine c_region ?_
      obtain ⟨x30, hx31⟩ : ∃ x_, (bs)[k]? = some x_ := ⟨_, List.getElem?_eq_getElem (by omega)⟩
      obtain ⟨ha32, cs33, hc34, rfl⟩ := heB _ _ hx31
      refine l_val (v := .pointer (some ((ba p1).add (k * 9)))) rfl rfl rfl (e_indexAddr (k := k) (len := bs.length) (cap := c2) (a := p1) rfl rfl tf16 (by omega) ha32) ?_
      refine l_val (v := .agg (bC x30)) rfl rfl rfl (e_load tf1 (cs := (bodyE x30)) rfl (Knows.of_base (Cs.mono _ _) hc34) rfl) ?_
      refine l_mv rfl rfl rfl (m_alloc tf17) ?_
      rintro _ _ ⟨b36, rfl, rfl⟩
      refine l_mu rfl rfl (m_store 0 tf1 (b := b36) (o := 0) (T := 39) (cs := #[.int .i64 (0), .int .i64 (0), .int .i64 (0), .int .i64 (0), .int .i64 (0), .int .i64 (0), .int .i64 (0), .bool false, .bool false]) (cs' := (bC x30)) (v := .agg (bC x30)) rfl rfl rfl rfl rfl rfl rfl) ?_
      refine l_nil ?_
      refine f_then ?_
      refine c_seq ?_
      refine c_region ?_
      refine l_val (v := .pointer (some ⟨b36, 0, none⟩)) rfl rfl rfl (e_fieldPt (b := b36) (o := 0) rfl tf27) ?_
      refine l_val (v := Ix (x30.id)) rfl rfl rfl (e_load1 tf11 (v := Ix (x30.id)) rfl (k_pt 0 (cs := (bC x30)) (vs := [Ix (x30.id)]) rfl rfl)) ?_
      refine l_val (v := .pointer (some ⟨(blk (fa27 17)), 0, none⟩)) rfl rfl rfl (e_fieldPt (b := (blk (fa27 17))) (o := 0) rfl tf27) ?_
      refine l_val (v := Ix (x11.id)) rfl rfl rfl (e_load1 tf11 (v := Ix (x11.id)) rfl (k_pt 4 (cs := (bC x11)) (vs := [Ix (x11.id)]) rfl rfl)) ?_
      refine l_val (v := .bool (decide ((x30.id) ≠ (x11.id)))) rfl rfl rfl (e_neq (a := (x30.id)) (b := (x11.id)) rfl rfl) ?_
      refine l_nil ?_
      refine f_then ?_
      refine c_if ((x30.id) ≠ (x11.id)) rfl (fun hc37 => ?_) (fun hc37 => ?_)
      ·
        refine c_region ?_
        refine l_val (v := .pointer (some ⟨b28, 0, none⟩)) rfl rfl rfl (e_fieldPt (b := b28) (o := 0) rfl tf33) ?_
        refine l_val (v := .slice t0 ((lessB (bs.take k) x11.id).length) c0) rfl rfl rfl (e_load1 tf26 (v := .slice t0 ((lessB (bs.take k) x11.id).length) c0) rfl (k_pt 2 (cs := #[.slice t0 ((lessB (bs.take k) x11.id).length) c0, .slice none 0 0, Ix (gX), Ix (gY)]) (vs := [.slice t0 ((lessB (bs.take k) x11.id).length) c0]) rfl rfl)) ?_
        refine l_val (v := .agg (bC x30)) rfl rfl rfl (e_load tf1 (cs := (bodyE x30)) rfl (k_pt 0 (cs := (bC x30)) (vs := (bodyE x30)) rfl rfl) rfl) ?_
        refine l_mv rfl rfl rfl (m_slices tf16 tf17 (vs := [(0, .agg (bC x30))]) (cells := (bC x30)) rfl rfl rfl (by kernel_rfl)) ?_
        rintro _ _ ⟨b38, rfl, rfl⟩
        refine l_mv rfl rfl rfl (m_appendFlN (F := BodyF) 2 tf16 tf70 (p := t0) (m := (lessB (bs.take k) x11.id).length) (xs := (lessB (bs.take k) x11.id)) (ys := [x30]) (ao := (some ⟨b38, 0, none⟩)) (k := 1) (c := 1) rfl rfl rfl rfl rfl (k_ptFl (z := x30) 0 rfl rfl) (by first | omega | simp only [List.length_nil, List.length_cons, List.length_append, List.length_set]; omega) (by first | omega | simp only [List.length_nil, List.length_cons, List.length_append, List.length_set]; omega)) ?_
        rintro _ _ ⟨rp39, rc40, rfl, rfl⟩
        refine l_val (v := .pointer (some ⟨b28, 0, none⟩)) rfl rfl rfl (e_fieldPt (b := b28) (o := 0) rfl tf33) ?_
        refine l_mu rfl rfl (m_store 3 tf26 (b := b28) (o := 0) (T := 32) (cs := #[.slice t0 ((lessB (bs.take k) x11.id).length) c0, .slice none 0 0, Ix (gX), Ix (gY)]) (cs' := #[.slice rp39 (((lessB (bs.take k) x11.id) ++ [x30]).length) rc40, .slice none 0 0, Ix (gX), Ix (gY)]) (v := .slice rp39 (((lessB (bs.take k) x11.id) ++ [x30]).length) rc40) rfl rfl rfl rfl rfl rfl rfl) ?_
        refine l_nil ?_
        refine f_block ?_
        refine f_then ?_
        refine c_region ?_
        refine l_val (v := Nx (k + 1)) rfl rfl rfl (e_add (a := ((k : Nat) : Int)) (b := (1 : Int)) rfl rfl (i64n (by omega) (by omega))) ?_
        refine l_val (v := Nx (k + 1)) rfl rfl rfl (e_move) ?_
        refine l_nil ?_
        refine f_mask (L' := [rowF BodyF 39 rp39 rc40 ((lessB (bs.take k) x11.id) ++ [x30]), pt b28 (.cells #[.slice rp39 (((lessB (bs.take k) x11.id) ++ [x30]).length) rc40, .slice none 0 0, Ix (gX), Ix (gY)] 32), pt b5 (.cells #[.slice p1 (bs.length) (c2), .slice q3 (R.length) (d4), Ix (gX), Ix (gY)] 32), pt (blk (fa27 17)) (.cells (bC x11) 39), pt (blk (fa27 18)) (.cells (bC x17) 39)]) [false, false, true, true, true, true, true] rfl ?_
        exact f_cut ⟨(k + 1, rp39, rc40), ⟨⟨rfl, rfl, rfl, rfl, rfl, rfl, rfl, rfl, rfl⟩, by rw [less_yes hx31 hc37], by omega⟩, (show bs.length - (k + 1) < bs.length - k from by omega)⟩
      ·
        refine c_skip ?_
        refine f_block ?_
        refine f_then ?_
        refine c_region ?_
        refine l_val (v := Nx (k + 1)) rfl rfl rfl (e_add (a := ((k : Nat) : Int)) (b := (1 : Int)) rfl rfl (i64n (by omega) (by omega))) ?_
        refine l_val (v := Nx (k + 1)) rfl rfl rfl (e_move) ?_
        refine l_nil ?_
        refine f_mask (L' := [rowF BodyF 39 t0 c0 (lessB (bs.take k) x11.id), pt b28 (.cells #[.slice t0 ((lessB (bs.take k) x11.id).length) c0, .slice none 0 0, Ix (gX), Ix (gY)] 32), pt b5 (.cells #[.slice p1 (bs.length) (c2), .slice q3 (R.length) (d4), Ix (gX), Ix (gY)] 32), pt (blk (fa27 17)) (.cells (bC x11) 39), pt (blk (fa27 18)) (.cells (bC x17) 39)]) [false, true, true, true, true, true] rfl ?_
        exact f_cut ⟨(k + 1, t0, c0), ⟨⟨rfl, rfl, rfl, rfl, rfl, rfl, rfl, rfl, rfl⟩, by rw [less_no hx31 hc37], by omega⟩, (show bs.length - (k + 1) < bs.length - k from by omega)⟩
    ·
      refine c_exit ?_
      refine f_then_exit ?_
      refine f_then_exit ?_
      refine f_exit ?_
      refine f_then ?_
      refine c_seq ?_
      refine c_seq ?_
      have hbt : bs.take k = bs := List.take_of_length_le (by omega)
      rw [hbt]
      have hpb := lessB_len bs x11.id
      refine c_emp (r := rowF RopeF 49 none 0 []) (row_nil _ _ _) ?_
      refine c_region ?_
      refine l_val (v := .pointer (some ⟨b5, 1, none⟩)) rfl rfl rfl (e_fieldPt (b := b5) (o := 0) rfl tf52) ?_
      refine l_val (v := .slice q3 (R.length) (d4)) rfl rfl rfl (e_load1 tf53 (v := .slice q3 (R.length) (d4)) rfl (k_pt 3 (cs := #[.slice p1 (bs.length) (c2), .slice q3 (R.length) (d4), Ix (gX), Ix (gY)]) (vs := [.slice q3 (R.length) (d4)]) rfl rfl)) ?_
      refine l_val (v := Nx (R.length)) rfl rfl rfl (e_len (a := q3) (n := R.length) (c := d4) rfl tf54) ?_
      refine l_val (v := .int .i64 (0)) rfl rfl rfl (e_move) ?_
      refine l_nil ?_
      refine f_then ?_
      refine c_block ?_
      refine c_loop (fun (x_ : Nat × Option Addr × Nat) (f : Fm) (L : List Res) => match x_ with | (k, t1, c1) => (f 13 = .pointer (some ⟨b5, 0, none⟩) ∧ f 15 = .slice p7 (xl.length) (c8) ∧ f 16 = Ix ((errI bs R gX gY)) ∧ f 17 = .pointer (some ⟨(blk (fa27 17)), 0, none⟩) ∧ f 18 = .pointer (some ⟨(blk (fa27 18)), 0, none⟩) ∧ f 19 = .pointer (some ⟨b28, 0, none⟩) ∧ f 87 = .slice q3 (R.length) (d4) ∧ f 88 = Nx (R.length) ∧ f 89 = Nx (k)) ∧ L = [rowF RopeF 49 t1 c1 (lessR (R.take k) x11.id), rowF BodyF 39 t0 c0 (lessB bs x11.id), pt b28 (.cells #[.slice t0 ((lessB bs x11.id).length) c0, .slice t1 ((lessR (R.take k) x11.id).length) c1, Ix (gX), Ix (gY)] 32), pt b5 (.cells #[.slice p1 (bs.length) (c2), .slice q3 (R.length) (d4), Ix (gX), Ix (gY)] 32), pt (blk (fa27 17)) (.cells (bC x11) 39), pt (blk (fa27 18)) (.cells (bC x17) 39)] ∧ (k ≤ R.length)) (fun (x_ : Nat × Option Addr × Nat) => match x_ with | (k, t1, c1) => R.length - k) (0, none, 0) ?_ ?_
      · exact ⟨⟨rfl, rfl, rfl, rfl, rfl, rfl, rfl, rfl, rfl⟩, rfl, by omega⟩
      rintro ⟨k, t1, c1⟩ f0 L0 ⟨⟨hs13, hs15, hs16, hs17, hs18, hs19, hs87, hs88, hs89⟩, hL, hk⟩
      subst L0
      refine rebase (d := 13) hs13 ?_
      refine rebase (d := 15) hs15 ?_
      refine rebase (d := 16) hs16 ?_
      refine rebase (d := 17) hs17 ?_
      refine rebase (d := 18) hs18 ?_
      refine rebase (d := 19) hs19 ?_
      refine rebase (d := 87) hs87 ?_
      refine rebase (d := 88) hs88 ?_
      refine rebase (d := 89) hs89 ?_
      clear hs13 hs15 hs16 hs17 hs18 hs19 hs87 hs88 hs89
      have hrl2 : (lessR (R.take k) x11.id).length ≤ 32 := by have h1 := lessR_len (R.take k) x11.id; rw [List.length_take] at h1; omega
      refine c_seq ?_
      refine c_region ?_
      refine l_val (v := .bool (decide (((k : Nat) : Int) < ((R.length : Nat) : Int)))) rfl rfl rfl (e_lss (a := ((k : Nat) : Int)) (b := ((R.length : Nat) : Int)) rfl rfl) ?_
      refine l_nil ?_
      refine f_then ?_
      refine c_seq ?_
      refine c_if (((k : Nat) : Int) < ((R.length : Nat) : Int)) rfl (fun hc41 => ?_) (fun hc41 => ?_)
      ·
        refine c_skip ?_
        refine f_then ?_
        refine c_seq ?_
        refine c_block ?_
        refine c_seq ?_
        refine c_region ?_
        obtain ⟨x42, hx43⟩ : ∃ x_, (R)[k]? = some x_ := ⟨_, List.getElem?_eq_getElem (by omega)⟩
        obtain ⟨ha44, cs45, hc46, rfl⟩ := heR _ _ hx43
        refine l_val (v := .pointer (some ((ba q3).add (k * 3)))) rfl rfl rfl (e_indexAddr (k := k) (len := R.length) (cap := d4) (a := q3) rfl rfl tf55 (by omega) ha44) ?_
        refine l_val (v := .agg #[Ix (x42.a), Ix (x42.b), Ix (x42.len)]) rfl rfl rfl (e_load tf56 (cs := [Ix (x42.a), Ix (x42.b), Ix (x42.len)]) rfl (Knows.of_base (Cs.mono _ _) hc46) rfl) ?_
        refine l_mv rfl rfl rfl (m_alloc tf57) ?_
        rintro _ _ ⟨b48, rfl, rfl⟩
        refine l_mu rfl rfl (m_store 0 tf56 (b := b48) (o := 0) (T := 49) (cs := #[.int .i64 (0), .int .i64 (0), .int .i64 (0)]) (cs' := #[Ix (x42.a), Ix (x42.b), Ix (x42.len)]) (v := .agg #[Ix (x42.a), Ix (x42.b), Ix (x42.len)]) rfl rfl rfl rfl rfl rfl rfl) ?_
        refine l_nil ?_
        refine f_then ?_
        refine c_seq ?_
        refine c_region ?_
        refine l_val (v := .pointer (some ⟨b48, 0, none⟩)) rfl rfl rfl (e_fieldPt (b := b48) (o := 0) rfl tf58) ?_
        refine l_val (v := Ix (x42.a)) rfl rfl rfl (e_load1 tf11 (v := Ix (x42.a)) rfl (k_pt 0 (cs := #[Ix (x42.a), Ix (x42.b), Ix (x42.len)]) (vs := [Ix (x42.a)]) rfl rfl)) ?_
        refine l_val (v := .pointer (some ⟨(blk (fa27 17)), 0, none⟩)) rfl rfl rfl (e_fieldPt (b := (blk (fa27 17))) (o := 0) rfl tf27) ?_
        refine l_val (v := Ix (x11.id)) rfl rfl rfl (e_load1 tf11 (v := Ix (x11.id)) rfl (k_pt 5 (cs := (bC x11)) (vs := [Ix (x11.id)]) rfl rfl)) ?_
        refine l_val (v := .bool (decide ((x42.a) ≠ (x11.id)))) rfl rfl rfl (e_neq (a := (x42.a)) (b := (x11.id)) rfl rfl) ?_
        refine l_val (v := .bool (decide ((x42.a) ≠ (x11.id)))) rfl rfl rfl (e_move) ?_
        refine l_split (s := 98) (p := (x42.a) ≠ (x11.id)) rfl (fun hg49 => ?_) (fun hg49 => ?_)
        ·
          refine g_val (v := .pointer (some ⟨b48, 1, none⟩)) rfl rfl rfl rfl rfl (e_fieldPt (b := b48) (o := 0) rfl tf60) ?_
          refine g_val (v := Ix (x42.b)) rfl rfl rfl rfl rfl (e_load1 tf11 (v := Ix (x42.b)) rfl (k_pt 0 (cs := #[Ix (x42.a), Ix (x42.b), Ix (x42.len)]) (vs := [Ix (x42.b)]) rfl rfl)) ?_
          refine g_val (v := .pointer (some ⟨(blk (fa27 17)), 0, none⟩)) rfl rfl rfl rfl rfl (e_fieldPt (b := (blk (fa27 17))) (o := 0) rfl tf27) ?_
          refine g_val (v := Ix (x11.id)) rfl rfl rfl rfl rfl (e_load1 tf11 (v := Ix (x11.id)) rfl (k_pt 5 (cs := (bC x11)) (vs := [Ix (x11.id)]) rfl rfl)) ?_
          refine g_val (v := .bool (decide ((x42.b) ≠ (x11.id)))) rfl rfl rfl rfl rfl (e_neq (a := (x42.b)) (b := (x11.id)) rfl rfl) ?_
          refine l_val (v := .bool (decide ((x42.b) ≠ (x11.id)))) rfl rfl rfl (e_pick_t rfl) ?_
          refine l_nil ?_
          refine f_then ?_
          refine c_if ((x42.b) ≠ (x11.id)) rfl (fun hc50 => ?_) (fun hc50 => ?_)
          ·
            refine c_region ?_
            refine l_val (v := .pointer (some ⟨b28, 1, none⟩)) rfl rfl rfl (e_fieldPt (b := b28) (o := 0) rfl tf52) ?_
            refine l_val (v := .slice t1 ((lessR (R.take k) x11.id).length) c1) rfl rfl rfl (e_load1 tf53 (v := .slice t1 ((lessR (R.take k) x11.id).length) c1) rfl (k_pt 3 (cs := #[.slice t0 ((lessB bs x11.id).length) c0, .slice t1 ((lessR (R.take k) x11.id).length) c1, Ix (gX), Ix (gY)]) (vs := [.slice t1 ((lessR (R.take k) x11.id).length) c1]) rfl rfl)) ?_
            refine l_val (v := .agg #[Ix (x42.a), Ix (x42.b), Ix (x42.len)]) rfl rfl rfl (e_load tf56 (cs := [Ix (x42.a), Ix (x42.b), Ix (x42.len)]) rfl (k_pt 0 (cs := #[Ix (x42.a), Ix (x42.b), Ix (x42.len)]) (vs := [Ix (x42.a), Ix (x42.b), Ix (x42.len)]) rfl rfl) rfl) ?_
            refine l_mv rfl rfl rfl (m_slices tf55 tf57 (vs := [(0, .agg #[Ix (x42.a), Ix (x42.b), Ix (x42.len)])]) (cells := #[Ix (x42.a), Ix (x42.b), Ix (x42.len)]) rfl rfl rfl rfl) ?_
            rintro _ _ ⟨b51, rfl, rfl⟩
            refine l_mv rfl rfl rfl (m_appendFlN (F := RopeF) 2 tf55 tf72 (p := t1) (m := (lessR (R.take k) x11.id).length) (xs := (lessR (R.take k) x11.id)) (ys := [x42]) (ao := (some ⟨b51, 0, none⟩)) (k := 1) (c := 1) rfl rfl rfl rfl rfl (k_ptFl (z := x42) 0 rfl rfl) (by first | omega | simp only [List.length_nil, List.length_cons, List.length_append, List.length_set]; omega) (by first | omega | simp only [List.length_nil, List.length_cons, List.length_append, List.length_set]; omega)) ?_
            rintro _ _ ⟨rp52, rc53, rfl, rfl⟩
            refine l_val (v := .pointer (some ⟨b28, 1, none⟩)) rfl rfl rfl (e_fieldPt (b := b28) (o := 0) rfl tf52) ?_
            refine l_mu rfl rfl (m_store 4 tf53 (b := b28) (o := 1) (T := 32) (cs := #[.slice t0 ((lessB bs x11.id).length) c0, .slice t1 ((lessR (R.take k) x11.id).length) c1, Ix (gX), Ix (gY)]) (cs' := #[.slice t0 ((lessB bs x11.id).length) c0, .slice rp52 (((lessR (R.take k) x11.id) ++ [x42]).length) rc53, Ix (gX), Ix (gY)]) (v := .slice rp52 (((lessR (R.take k) x11.id) ++ [x42]).length) rc53) rfl rfl rfl rfl rfl rfl rfl) ?_
            refine l_nil ?_
            refine f_block ?_
            refine f_then ?_
            refine c_region ?_
            refine l_val (v := Nx (k + 1)) rfl rfl rfl (e_add (a := ((k : Nat) : Int)) (b := (1 : Int)) rfl rfl (i64n (by omega) (by omega))) ?_
            refine l_val (v := Nx (k + 1)) rfl rfl rfl (e_move) ?_
            refine l_nil ?_
            refine f_mask (L' := [rowF RopeF 49 rp52 rc53 ((lessR (R.take k) x11.id) ++ [x42]), rowF BodyF 39 t0 c0 (lessB bs x11.id), pt b28 (.cells #[.slice t0 ((lessB bs x11.id).length) c0, .slice rp52 (((lessR (R.take k) x11.id) ++ [x42]).length) rc53, Ix (gX), Ix (gY)] 32), pt b5 (.cells #[.slice p1 (bs.length) (c2), .slice q3 (R.length) (d4), Ix (gX), Ix (gY)] 32), pt (blk (fa27 17)) (.cells (bC x11) 39), pt (blk (fa27 18)) (.cells (bC x17) 39)]) [false, false, true, true, true, true, true, true] rfl ?_
            exact f_cut ⟨(k + 1, rp52, rc53), ⟨⟨rfl, rfl, rfl, rfl, rfl, rfl, rfl, rfl, rfl⟩, by rw [lessR_yes hx43 hg49 hc50], by omega⟩, (show R.length - (k + 1) < R.length - k from by omega)⟩
          ·
            refine c_skip ?_
            refine f_block ?_
            refine f_then ?_
            refine c_region ?_
            refine l_val (v := Nx (k + 1)) rfl rfl rfl (e_add (a := ((k : Nat) : Int)) (b := (1 : Int)) rfl rfl (i64n (by omega) (by omega))) ?_
            refine l_val (v := Nx (k + 1)) rfl rfl rfl (e_move) ?_
            refine l_nil ?_
            refine f_mask (L' := [rowF RopeF 49 t1 c1 (lessR (R.take k) x11.id), rowF BodyF 39 t0 c0 (lessB bs x11.id), pt b28 (.cells #[.slice t0 ((lessB bs x11.id).length) c0, .slice t1 ((lessR (R.take k) x11.id).length) c1, Ix (gX), Ix (gY)] 32), pt b5 (.cells #[.slice p1 (bs.length) (c2), .slice q3 (R.length) (d4), Ix (gX), Ix (gY)] 32), pt (blk (fa27 17)) (.cells (bC x11) 39), pt (blk (fa27 18)) (.cells (bC x17) 39)]) [false, true, true, true, true, true, true] rfl ?_
            exact f_cut ⟨(k + 1, t1, c1), ⟨⟨rfl, rfl, rfl, rfl, rfl, rfl, rfl, rfl, rfl⟩, by rw [lessR_no hx43 (fun q => hc50 q.2)], by omega⟩, (show R.length - (k + 1) < R.length - k from by omega)⟩
        ·
          refine l_skip rfl rfl rfl rfl rfl rfl ?_
          refine l_skip rfl rfl rfl rfl rfl rfl ?_
          refine l_skip rfl rfl rfl rfl rfl rfl ?_
          refine l_skip rfl rfl rfl rfl rfl rfl ?_
          refine l_skip rfl rfl rfl rfl rfl rfl ?_
          refine l_val (v := .bool false) rfl rfl rfl (e_pick_f rfl) ?_
          refine l_nil ?_
          refine f_then ?_
          refine c_no rfl ?_
          refine c_skip ?_
          refine f_block ?_
          refine f_then ?_
          refine c_region ?_
          refine l_val (v := Nx (k + 1)) rfl rfl rfl (e_add (a := ((k : Nat) : Int)) (b := (1 : Int)) rfl rfl (i64n (by omega) (by omega))) ?_
          refine l_val (v := Nx (k + 1)) rfl rfl rfl (e_move) ?_
          refine l_nil ?_
          refine f_mask (L' := [rowF RopeF 49 t1 c1 (lessR (R.take k) x11.id), rowF BodyF 39 t0 c0 (lessB bs x11.id), pt b28 (.cells #[.slice t0 ((lessB bs x11.id).length) c0, .slice t1 ((lessR (R.take k) x11.id).length) c1, Ix (gX), Ix (gY)] 32), pt b5 (.cells #[.slice p1 (bs.length) (c2), .slice q3 (R.length) (d4), Ix (gX), Ix (gY)] 32), pt (blk (fa27 17)) (.cells (bC x11) 39), pt (blk (fa27 18)) (.cells (bC x17) 39)]) [false, true, true, true, true, true, true] rfl ?_
          exact f_cut ⟨(k + 1, t1, c1), ⟨⟨rfl, rfl, rfl, rfl, rfl, rfl, rfl, rfl, rfl⟩, by rw [lessR_no hx43 (fun q => hg49 q.1)], by omega⟩, (show R.length - (k + 1) < R.length - k from by omega)⟩
      ·
        refine c_exit ?_
        refine f_then_exit ?_
        refine f_then_exit ?_
        refine f_exit ?_
        refine f_then ?_
        refine c_seq ?_
        have hrt : R.take k = R := List.take_of_length_le (by omega)
        rw [hrt]
        have hpr := lessR_len R x11.id
        have hokl := less_ok hmP x11.id
        have he2 : errI (lessB bs x11.id) (lessR R x11.id) gX gY = 0 := if_pos hokl
        refine c_region ?_
        refine l_val (v := .agg #[.slice t0 ((lessB bs x11.id).length) c0, .slice t1 ((lessR R x11.id).length) c1, Ix (gX), Ix (gY)]) rfl rfl rfl (e_load tf31 (cs := [.slice t0 ((lessB bs x11.id).length) c0, .slice t1 ((lessR R x11.id).length) c1, Ix (gX), Ix (gY)]) rfl (k_pt 2 (cs := #[.slice t0 ((lessB bs x11.id).length) c0, .slice t1 ((lessR R x11.id).length) c1, Ix (gX), Ix (gY)]) (vs := [.slice t0 ((lessB bs x11.id).length) c0, .slice t1 ((lessR R x11.id).length) c1, Ix (gX), Ix (gY)]) rfl rfl) rfl) ?_
        refine l_call rfl rfl rfl (cl_value (fst := []) (cap := []) (vs := [.agg #[.slice t0 ((lessB bs x11.id).length) c0, .slice t1 ((lessR R x11.id).length) c1, Ix (gX), Ix (gY)]]) (all := [.agg #[.slice t0 ((lessB bs x11.id).length) c0, .slice t1 ((lessR R x11.id).length) c1, Ix (gX), Ix (gY)]]) tf75 rfl rfl rfl) ?_
        intro w hw
        obtain ⟨β1, sb, kn, hw1, back⟩ := St.frame_all hw
        refine (islandsM_ok β1 w hw1 _ _ gX gY (lessB bs x11.id) (lessR R x11.id) (kn _ (k_flN 1 (F := BodyF) (m := (lessB bs x11.id).length) rfl rfl)) (kn _ (k_flN 0 (F := RopeF) (m := (lessR R x11.id).length) rfl rfl)) (by omega) (by omega)).mono ?_
        rintro e w' ⟨p54, c55, hs56, hx57, rfl, hw'⟩
        refine ⟨_, rfl, _, back _ _ hw', ?_⟩
        clear hw hw1 hw' back kn sb
        refine l_val (v := .tuple #[.slice p54 (hs56.length) c55, Ix ((errI (lessB bs x11.id) (lessR R x11.id) gX gY))]) rfl rfl rfl (e_move) ?_
        refine l_val (v := .slice p54 (hs56.length) c55) rfl rfl rfl (e_extract (vs := #[.slice p54 (hs56.length) c55, Ix ((errI (lessB bs x11.id) (lessR R x11.id) gX gY))]) rfl rfl) ?_
        refine l_val (v := Ix ((errI (lessB bs x11.id) (lessR R x11.id) gX gY))) rfl rfl rfl (e_extract (vs := #[.slice p54 (hs56.length) c55, Ix ((errI (lessB bs x11.id) (lessR R x11.id) gX gY))]) rfl rfl) ?_
        refine l_val (v := .slice p54 (hs56.length) c55) rfl rfl rfl (e_assign) ?_
        refine l_val (v := Ix ((errI (lessB bs x11.id) (lessR R x11.id) gX gY))) rfl rfl rfl (e_assign) ?_
        refine l_nil ?_
        refine f_then ?_
        refine c_seq ?_
        refine c_mask [true, false, false, false, true, true, true] rfl ?_
        refine c_perm (L' := [pt b5 (.cells #[.slice p1 (bs.length) (c2), .slice q3 (R.length) (d4), Ix (gX), Ix (gY)] 32), pt (blk (fa27 17)) (.cells (bC x11) 39), pt (blk (fa27 18)) (.cells (bC x17) 39), Sat (llL p54 c55 hs56)]) (perm_ix [1, 2, 3, 0] 4 rfl (by kernel_rfl) (by kernel_rfl)) ?_
        refine c_freeze2 (M := [pt b5 (.cells #[.slice p1 (bs.length) (c2), .slice q3 (R.length) (d4), Ix (gX), Ix (gY)] 32), pt (blk (fa27 17)) (.cells (bC x11) 39), pt (blk (fa27 18)) (.cells (bC x17) 39)]) (K := [Sat (llL p54 c55 hs56)]) rfl (fun βM extM knM bkM => ?_)
        have hslM := knM _ (k_ll 0 rfl)
        obtain ⟨ml, hqM⟩ : ∃ z, z = hs56.map (·.xs) := ⟨_, rfl⟩
        have hln : hs56.length = ml.length := by rw [hqM, List.length_map]
        rw [← hqM, hln] at hslM
        rw [hln]
        have hXM : ml = (islR (lessB bs x11.id) (lessR R x11.id) gX gY) := by rw [hqM, hx57]
        obtain ⟨-, hcM, hmM, heM⟩ := hslM.parts
        have hslB := Sl.mono _ _ _ _ _ extM.sub hslB
        have hslR := Sl.mono _ _ _ _ _ extM.sub hslR
        have heB := Elems.mono _ _ _ _ _ extM.sub heB
        have heR := Elems.mono _ _ _ _ _ extM.sub heR
        have hslX := Sl.mono _ _ _ _ _ extM.sub hslX
        have heX := Elems.mono _ _ _ _ _ extM.sub heX
        have hM : IsS (freeB (lessB bs x11.id)) (lessR R x11.id) gX gY ml := IsS.of hokl hXM
        refine c_region ?_
        refine l_val (v := .agg #[.slice p1 (bs.length) (c2), .slice q3 (R.length) (d4), Ix (gX), Ix (gY)]) rfl rfl rfl (e_load tf31 (cs := [.slice p1 (bs.length) (c2), .slice q3 (R.length) (d4), Ix (gX), Ix (gY)]) rfl (k_pt 0 (cs := #[.slice p1 (bs.length) (c2), .slice q3 (R.length) (d4), Ix (gX), Ix (gY)]) (vs := [.slice p1 (bs.length) (c2), .slice q3 (R.length) (d4), Ix (gX), Ix (gY)]) rfl rfl) rfl) ?_
        refine l_mv rfl rfl rfl (m_alloc tf67) ?_
        rintro _ _ ⟨b58, rfl, rfl⟩
        refine l_mu rfl rfl (m_store 0 tf31 (b := b58) (o := 0) (T := 32) (cs := #[.slice none 0 0, .slice none 0 0, .int .i64 (0), .int .i64 (0)]) (cs' := #[.slice p1 (bs.length) (c2), .slice q3 (R.length) (d4), Ix (gX), Ix (gY)]) (v := .agg #[.slice p1 (bs.length) (c2), .slice q3 (R.length) (d4), Ix (gX), Ix (gY)]) rfl rfl rfl rfl rfl rfl rfl) ?_
        refine l_nil ?_
        refine f_then ?_
        refine c_seq_cut (fun (f : Fm) (L : List Res) => ∃ (rp : Option Addr) (rc : Nat) (rr : Res), (f 15 = .slice p7 (xl.length) (c8) ∧ f 16 = Ix ((errI bs R gX gY)) ∧ f 17 = .pointer (some ⟨(blk (fa27 17)), 0, none⟩) ∧ f 18 = .pointer (some ⟨(blk (fa27 18)), 0, none⟩) ∧ f 24 = .slice p54 (ml.length) (c55) ∧ f 25 = Ix ((errI (lessB bs x11.id) (lessR R x11.id) gX gY)) ∧ f 26 = .pointer (some ⟨b58, 0, none⟩)) ∧ L = [pt b58 (.cells #[.slice p1 (bs.length) (c2), .slice rp ((moreR R x11.id x17.id).length) rc, Ix (gX), Ix (gY)] 32), pt (blk (fa27 17)) (.cells (bC x11) 39), pt (blk (fa27 18)) (.cells (bC x17) 39), rr] ∧ (Knows βM [rr] (fun h => Sl KRR h (.slice rp (moreR R x11.id x17.id).length rc) (moreR R x11.id x17.id)))) ?_ ?_
        ·
          refine c_seq ?_
          refine c_region ?_
          refine l_val (v := .pointer (some ⟨(blk (fa27 17)), 0, none⟩)) rfl rfl rfl (e_fieldPt (b := (blk (fa27 17))) (o := 0) rfl tf27) ?_
          refine l_val (v := Ix (x11.id)) rfl rfl rfl (e_load1 tf11 (v := Ix (x11.id)) rfl (k_pt 2 (cs := (bC x11)) (vs := [Ix (x11.id)]) rfl rfl)) ?_
          refine l_val (v := .pointer (some ⟨(blk (fa27 18)), 0, none⟩)) rfl rfl rfl (e_fieldPt (b := (blk (fa27 18))) (o := 0) rfl tf27) ?_
          refine l_val (v := Ix (x17.id)) rfl rfl rfl (e_load1 tf11 (v := Ix (x17.id)) rfl (k_pt 3 (cs := (bC x17)) (vs := [Ix (x17.id)]) rfl rfl)) ?_
          refine l_val (v := .bool (decide ((x11.id) ≠ (x17.id)))) rfl rfl rfl (e_neq (a := (x11.id)) (b := (x17.id)) rfl rfl) ?_
          refine l_nil ?_
          refine f_then ?_
          refine c_if ((x11.id) ≠ (x17.id)) rfl (fun hc59 => ?_) (fun hc59 => ?_)
          ·
            refine c_any [⟨[], [], [], [123], fun f => f 123 = .slice (some ⟨(blk (f 123)), 0, none⟩) 0 0⟩, ⟨[], [], [0], [124], fun f => f 124 = .pointer (some ⟨b5, 1, none⟩)⟩, ⟨[1], [1], [], [125], fun f => f 125 = .slice q3 (R.length) (d4)⟩, ⟨[0, 1, 2], [0, 2], [], [126], fun f => f 126 = .slice (sla (f 126)) (R.length) (slc (f 126))⟩, ⟨[], [], [1], [127], fun f => f 127 = .pointer (some ⟨(blk (fa27 17)), 0, none⟩)⟩, ⟨[4], [4], [], [128], fun f => f 128 = Ix (x11.id)⟩, ⟨[], [], [2], [129], fun f => f 129 = .pointer (some ⟨(blk (fa27 18)), 0, none⟩)⟩, ⟨[6], [6], [], [130], fun f => f 130 = Ix (x17.id)⟩, ⟨[4, 5, 6, 7], [5, 7], [], [131], fun f => f 131 = Ix (min (x11.id) (x17.id))⟩, ⟨[], [], [1], [132], fun f => f 132 = .pointer (some ⟨(blk (fa27 17)), 0, none⟩)⟩, ⟨[9], [9], [], [133], fun f => f 133 = Ix (x11.id)⟩, ⟨[], [], [2], [134], fun f => f 134 = .pointer (some ⟨(blk (fa27 18)), 0, none⟩)⟩, ⟨[11], [11], [], [135], fun f => f 135 = Ix (x17.id)⟩, ⟨[9, 10, 11, 12], [10, 12], [], [136], fun f => f 136 = Ix (max (x11.id) (x17.id))⟩, ⟨[4, 5, 6, 7, 8, 9, 10, 11, 12, 13], [8, 13], [], [137], fun f => f 137 = .agg #[Ix (min (x11.id) (x17.id)), Ix (max (x11.id) (x17.id)), .int .i64 (5)]⟩, ⟨[4, 5, 6, 7, 8, 9, 10, 11, 12, 13, 14], [14], [], [138], fun f => f 138 = .slice (some ⟨(blk (f 138)), 0, none⟩) 1 1⟩, ⟨[0, 1, 2, 3, 4, 5, 6, 7, 8, 9, 10, 11, 12, 13, 14, 15], [3, 15], [], [139], fun f => f 139 = .slice (sla (f 139)) ((R ++ [(⟨min (x11.id) (x17.id), max (x11.id) (x17.id), 5⟩ : KR)]).length) (slc (f 139))⟩, ⟨[0, 1, 2, 3, 4, 5, 6, 7, 8, 9, 10, 11, 12, 13, 14, 15, 16], [], [3], [140], fun f => f 140 = .pointer (some ⟨b58, 1, none⟩)⟩, ⟨[0, 1, 2, 3, 4, 5, 6, 7, 8, 9, 10, 11, 12, 13, 14, 15, 16, 17], [17, 16], [], [], fun _ => True⟩] [⟨none, (some 18), [18], [], fun _ => pt b58 (.cells #[.slice p1 (bs.length) (c2), .slice q3 (R.length) (d4), Ix (gX), Ix (gY)] 32)⟩, ⟨none, none, [2], [], fun _ => pt b5 (.cells #[.slice p1 (bs.length) (c2), .slice q3 (R.length) (d4), Ix (gX), Ix (gY)] 32)⟩, ⟨none, none, [5, 10], [], fun _ => pt (blk (fa27 17)) (.cells (bC x11) 39)⟩, ⟨none, none, [7, 12], [], fun _ => pt (blk (fa27 18)) (.cells (bC x17) 39)⟩, ⟨(some 0), (some 3), [3], [123], fun f => pt (blk (f 123)) (.cells #[] 49)⟩, ⟨(some 3), (some 16), [16], [126], fun f => rowF RopeF 49 (sla (f 126)) (slc (f 126)) R⟩, ⟨(some 15), none, [16], [138], fun f => pt (blk (f 138)) (.cells #[Ix (min (x11.id) (x17.id)), Ix (max (x11.id) (x17.id)), .int .i64 (5)] 49)⟩, ⟨(some 16), none, [], [139], fun f => rowF RopeF 49 (sla (f 139)) (slc (f 139)) (R ++ [(⟨min (x11.id) (x17.id), max (x11.id) (x17.id), 5⟩ : KR)])⟩, ⟨(some 18), none, [], [139], fun f => pt b58 (.cells #[.slice p1 (bs.length) (c2), .slice (sla (f 139)) ((R ++ [(⟨min (x11.id) (x17.id), max (x11.id) (x17.id), 5⟩ : KR)]).length) (slc (f 139)), Ix (gX), Ix (gY)] 32)⟩] [(13, .pointer (some ⟨b5, 0, none⟩)), (17, .pointer (some ⟨(blk (fa27 17)), 0, none⟩)), (18, .pointer (some ⟨(blk (fa27 18)), 0, none⟩)), (26, .pointer (some ⟨b58, 0, none⟩)), (15, .slice p7 (xl.length) (c8)), (16, Ix ((errI bs R gX gY))), (24, .slice p54 (ml.length) (c55)), (25, Ix ((errI (lessB bs x11.id) (lessR R x11.id) gX gY)))] [4, 5, 1, 2, 6, 7, 3] [] (by kernel_rfl) (by kernel_rfl) (by kernel_rfl) (by kernel_rfl) rfl ⟨rfl, rfl, rfl, rfl, rfl, rfl, rfl, rfl, trivial⟩ ⟨?_, ?_, ?_, ?_, ?_, ?_, ?_, ?_, ?_, ?_, ?_, ?_, ?_, ?_, ?_, ?_, ?_, ?_, ?_, trivial⟩ ?_
            · rintro f M - -
              refine ob_start (L' := M) (by rfl) rfl ?_
              refine l_mv rfl rfl rfl (m_slice0 tf55) ?_
              rintro _ _ ⟨b61, rfl, rfl⟩
              refine l_nil ?_
              exact f_owes_d rfl rfl (perm_front 0 rfl)
            · rintro f M - ⟨i0, -⟩
              have hs13 : f 13 = .pointer (some ⟨b5, 0, none⟩) := i0
              refine ob_start (L' := M) (by rfl) (up_cons rfl hs13) ?_
              refine l_val (v := .pointer (some ⟨b5, 1, none⟩)) rfl rfl rfl (e_fieldPt (b := b5) (o := 0) rfl tf52) ?_
              refine l_nil ?_
              exact f_owes_d (up_cons rfl hs13) rfl (List.Perm.refl _)
            · rintro f M ⟨k0, -⟩ -
              have hs124 : f 124 = .pointer (some ⟨b5, 1, none⟩) := k0
              refine ob_start (L' := pt b5 (.cells #[.slice p1 (bs.length) (c2), .slice q3 (R.length) (d4), Ix (gX), Ix (gY)] 32) :: M) (by rfl) (up_cons rfl hs124) ?_
              refine l_val (v := .slice q3 (R.length) (d4)) rfl rfl rfl (e_load1 tf53 (v := .slice q3 (R.length) (d4)) rfl (k_pt 0 (cs := #[.slice p1 (bs.length) (c2), .slice q3 (R.length) (d4), Ix (gX), Ix (gY)]) (vs := [.slice q3 (R.length) (d4)]) rfl rfl)) ?_
              refine l_nil ?_
              exact f_owes_d (up_cons rfl hs124) rfl (perm_front 0 rfl)
            · rintro f M ⟨k0, k1, -⟩ -
              have hs123 : f 123 = .slice (some ⟨(blk (f 123)), 0, none⟩) 0 0 := k0
              have hs125 : f 125 = .slice q3 (R.length) (d4) := k1
              refine ob_start (L' := pt (blk (f 123)) (.cells #[] 49) :: M) (by rfl) (up_cons (up_cons rfl hs123) hs125) ?_
              refine l_conseq 0 (r' := rowF RopeF 49 (some ⟨(blk (f 123)), 0, none⟩) 0 []) rfl (fun a h => pt_row (m := 0) (by decide) rfl a h) ?_
              refine l_mv rfl rfl rfl (m_appendFlN (F := RopeF) 0 tf55 tf72 (p := (some ⟨(blk (f 123)), 0, none⟩)) (m := 0) (xs := []) (ys := R) (ao := q3) (k := R.length) (c := d4) rfl rfl rfl rfl rfl (Knows.of_base (Elems.mono _ _ _) heR) (by first | omega | simp only [List.length_nil, List.length_cons, List.length_append, List.length_set]; omega) (by first | omega | simp only [List.length_nil, List.length_cons, List.length_append, List.length_set]; omega)) ?_
              rintro _ _ ⟨rp64, rc65, rfl, rfl⟩
              refine l_nil ?_
              exact f_owes_d (up_cons (up_cons rfl hs123) hs125) rfl (perm_front 0 rfl)
            · rintro f M - ⟨i0, -⟩
              have hs17 : f 17 = .pointer (some ⟨(blk (fa27 17)), 0, none⟩) := i0
              refine ob_start (L' := M) (by rfl) (up_cons rfl hs17) ?_
              refine l_val (v := .pointer (some ⟨(blk (fa27 17)), 0, none⟩)) rfl rfl rfl (e_fieldPt (b := (blk (fa27 17))) (o := 0) rfl tf27) ?_
              refine l_nil ?_
              exact f_owes_d (up_cons rfl hs17) rfl (List.Perm.refl _)
            · rintro f M ⟨k0, -⟩ -
              have hs127 : f 127 = .pointer (some ⟨(blk (fa27 17)), 0, none⟩) := k0
              refine ob_start (L' := pt (blk (fa27 17)) (.cells (bC x11) 39) :: M) (by rfl) (up_cons rfl hs127) ?_
              refine l_val (v := Ix (x11.id)) rfl rfl rfl (e_load1 tf11 (v := Ix (x11.id)) rfl (k_pt 0 (cs := (bC x11)) (vs := [Ix (x11.id)]) rfl rfl)) ?_
              refine l_nil ?_
              exact f_owes_d (up_cons rfl hs127) rfl (perm_front 0 rfl)
            · rintro f M - ⟨i0, -⟩
              have hs18 : f 18 = .pointer (some ⟨(blk (fa27 18)), 0, none⟩) := i0
              refine ob_start (L' := M) (by rfl) (up_cons rfl hs18) ?_
              refine l_val (v := .pointer (some ⟨(blk (fa27 18)), 0, none⟩)) rfl rfl rfl (e_fieldPt (b := (blk (fa27 18))) (o := 0) rfl tf27) ?_
              refine l_nil ?_
              exact f_owes_d (up_cons rfl hs18) rfl (List.Perm.refl _)
            · rintro f M ⟨k0, -⟩ -
              have hs129 : f 129 = .pointer (some ⟨(blk (fa27 18)), 0, none⟩) := k0
              refine ob_start (L' := pt (blk (fa27 18)) (.cells (bC x17) 39) :: M) (by rfl) (up_cons rfl hs129) ?_
              refine l_val (v := Ix (x17.id)) rfl rfl rfl (e_load1 tf11 (v := Ix (x17.id)) rfl (k_pt 0 (cs := (bC x17)) (vs := [Ix (x17.id)]) rfl rfl)) ?_
              refine l_nil ?_
              exact f_owes_d (up_cons rfl hs129) rfl (perm_front 0 rfl)
            · rintro f M ⟨k0, k1, -⟩ -
              have hs128 : f 128 = Ix (x11.id) := k0
              have hs130 : f 130 = Ix (x17.id) := k1
              refine ob_start (L' := M) (by rfl) (up_cons (up_cons rfl hs128) hs130) ?_
              refine l_val (v := Ix (min (x11.id) (x17.id))) rfl rfl rfl (e_min (a := (x11.id)) (b := (x17.id)) rfl rfl) ?_
              refine l_nil ?_
              exact f_owes_d (up_cons (up_cons rfl hs128) hs130) rfl (List.Perm.refl _)
            · rintro f M - ⟨i0, -⟩
              have hs17 : f 17 = .pointer (some ⟨(blk (fa27 17)), 0, none⟩) := i0
              refine ob_start (L' := M) (by rfl) (up_cons rfl hs17) ?_
              refine l_val (v := .pointer (some ⟨(blk (fa27 17)), 0, none⟩)) rfl rfl rfl (e_fieldPt (b := (blk (fa27 17))) (o := 0) rfl tf27) ?_
              refine l_nil ?_
              exact f_owes_d (up_cons rfl hs17) rfl (List.Perm.refl _)
            · rintro f M ⟨k0, -⟩ -
              have hs132 : f 132 = .pointer (some ⟨(blk (fa27 17)), 0, none⟩) := k0
              refine ob_start (L' := pt (blk (fa27 17)) (.cells (bC x11) 39) :: M) (by rfl) (up_cons rfl hs132) ?_
              refine l_val (v := Ix (x11.id)) rfl rfl rfl (e_load1 tf11 (v := Ix (x11.id)) rfl (k_pt 0 (cs := (bC x11)) (vs := [Ix (x11.id)]) rfl rfl)) ?_
              refine l_nil ?_
              exact f_owes_d (up_cons rfl hs132) rfl (perm_front 0 rfl)
            · rintro f M - ⟨i0, -⟩
              have hs18 : f 18 = .pointer (some ⟨(blk (fa27 18)), 0, none⟩) := i0
              refine ob_start (L' := M) (by rfl) (up_cons rfl hs18) ?_
              refine l_val (v := .pointer (some ⟨(blk (fa27 18)), 0, none⟩)) rfl rfl rfl (e_fieldPt (b := (blk (fa27 18))) (o := 0) rfl tf27) ?_
              refine l_nil ?_
              exact f_owes_d (up_cons rfl hs18) rfl (List.Perm.refl _)
            · rintro f M ⟨k0, -⟩ -
              have hs134 : f 134 = .pointer (some ⟨(blk (fa27 18)), 0, none⟩) := k0
              refine ob_start (L' := pt (blk (fa27 18)) (.cells (bC x17) 39) :: M) (by rfl) (up_cons rfl hs134) ?_
              refine l_val (v := Ix (x17.id)) rfl rfl rfl (e_load1 tf11 (v := Ix (x17.id)) rfl (k_pt 0 (cs := (bC x17)) (vs := [Ix (x17.id)]) rfl rfl)) ?_
              refine l_nil ?_
              exact f_owes_d (up_cons rfl hs134) rfl (perm_front 0 rfl)
            · rintro f M ⟨k0, k1, -⟩ -
              have hs133 : f 133 = Ix (x11.id) := k0
              have hs135 : f 135 = Ix (x17.id) := k1
              refine ob_start (L' := M) (by rfl) (up_cons (up_cons rfl hs133) hs135) ?_
              refine l_val (v := Ix (max (x11.id) (x17.id))) rfl rfl rfl (e_max (a := (x11.id)) (b := (x17.id)) rfl rfl) ?_
              refine l_nil ?_
              exact f_owes_d (up_cons (up_cons rfl hs133) hs135) rfl (List.Perm.refl _)
            · rintro f M ⟨k0, k1, -⟩ -
              have hs131 : f 131 = Ix (min (x11.id) (x17.id)) := k0
              have hs136 : f 136 = Ix (max (x11.id) (x17.id)) := k1
              refine ob_start (L' := M) (by rfl) (up_cons (up_cons rfl hs131) hs136) ?_
              refine l_val (v := .agg #[Ix (min (x11.id) (x17.id)), Ix (max (x11.id) (x17.id)), .int .i64 (5)]) rfl rfl rfl (e_build tf57 tf74 (vs := [(0, Ix (min (x11.id) (x17.id))), (1, Ix (max (x11.id) (x17.id))), (2, .int .i64 (5))]) (cells := #[Ix (min (x11.id) (x17.id)), Ix (max (x11.id) (x17.id)), .int .i64 (5)]) rfl rfl) ?_
              refine l_nil ?_
              exact f_owes_d (up_cons (up_cons rfl hs131) hs136) rfl (List.Perm.refl _)
            · rintro f M ⟨k0, -⟩ -
              have hs137 : f 137 = .agg #[Ix (min (x11.id) (x17.id)), Ix (max (x11.id) (x17.id)), .int .i64 (5)] := k0
              refine ob_start (L' := M) (by rfl) (up_cons rfl hs137) ?_
              refine l_mv rfl rfl rfl (m_slices tf55 tf57 (vs := [(0, .agg #[Ix (min (x11.id) (x17.id)), Ix (max (x11.id) (x17.id)), .int .i64 (5)])]) (cells := #[Ix (min (x11.id) (x17.id)), Ix (max (x11.id) (x17.id)), .int .i64 (5)]) rfl rfl rfl rfl) ?_
              rintro _ _ ⟨b67, rfl, rfl⟩
              refine l_nil ?_
              exact f_owes_d (up_cons rfl hs137) rfl (perm_front 0 rfl)
            · rintro f M ⟨k0, k1, -⟩ -
              have hs126 : f 126 = .slice (sla (f 126)) (R.length) (slc (f 126)) := k0
              have hs138 : f 138 = .slice (some ⟨(blk (f 138)), 0, none⟩) 1 1 := k1
              refine ob_start (L' := rowF RopeF 49 (sla (f 126)) (slc (f 126)) R :: pt (blk (f 138)) (.cells #[Ix (min (x11.id) (x17.id)), Ix (max (x11.id) (x17.id)), .int .i64 (5)] 49) :: M) (by rfl) (up_cons (up_cons rfl hs126) hs138) ?_
              refine l_mv rfl rfl rfl (m_appendFlN (F := RopeF) 0 tf55 tf72 (p := (sla (f 126))) (m := R.length) (xs := R) (ys := [(⟨min (x11.id) (x17.id), max (x11.id) (x17.id), 5⟩ : KR)]) (ao := (some ⟨(blk (f 138)), 0, none⟩)) (k := 1) (c := 1) rfl rfl rfl rfl rfl (k_ptFl (z := (⟨min (x11.id) (x17.id), max (x11.id) (x17.id), 5⟩ : KR)) 1 rfl rfl) (by first | omega | simp only [List.length_nil, List.length_cons, List.length_append, List.length_set]; omega) (by first | omega | simp only [List.length_nil, List.length_cons, List.length_append, List.length_set]; omega)) ?_
              rintro _ _ ⟨rp70, rc71, rfl, rfl⟩
              refine l_nil ?_
              exact f_owes_d (up_cons (up_cons rfl hs126) hs138) rfl ((perm_front 0 rfl).trans (perm_front 1 rfl))
            · rintro f M - ⟨i0, -⟩
              have hs26 : f 26 = .pointer (some ⟨b58, 0, none⟩) := i0
              refine ob_start (L' := M) (by rfl) (up_cons rfl hs26) ?_
              refine l_val (v := .pointer (some ⟨b58, 1, none⟩)) rfl rfl rfl (e_fieldPt (b := b58) (o := 0) rfl tf52) ?_
              refine l_nil ?_
              exact f_owes_d (up_cons rfl hs26) rfl (List.Perm.refl _)
            · rintro f M ⟨k0, k1, -⟩ -
              have hs140 : f 140 = .pointer (some ⟨b58, 1, none⟩) := k0
              have hs139 : f 139 = .slice (sla (f 139)) ((R ++ [(⟨min (x11.id) (x17.id), max (x11.id) (x17.id), 5⟩ : KR)]).length) (slc (f 139)) := k1
              refine ob_start (L' := pt b58 (.cells #[.slice p1 (bs.length) (c2), .slice q3 (R.length) (d4), Ix (gX), Ix (gY)] 32) :: M) (by rfl) (up_cons (up_cons rfl hs140) hs139) ?_
              refine l_mu rfl rfl (m_store 0 tf53 (b := b58) (o := 1) (T := 32) (cs := #[.slice p1 (bs.length) (c2), .slice q3 (R.length) (d4), Ix (gX), Ix (gY)]) (cs' := #[.slice p1 (bs.length) (c2), .slice (sla (f 139)) ((R ++ [(⟨min (x11.id) (x17.id), max (x11.id) (x17.id), 5⟩ : KR)]).length) (slc (f 139)), Ix (gX), Ix (gY)]) (v := .slice (sla (f 139)) ((R ++ [(⟨min (x11.id) (x17.id), max (x11.id) (x17.id), 5⟩ : KR)]).length) (slc (f 139))) rfl rfl rfl rfl rfl rfl rfl) ?_
              refine l_nil ?_
              exact f_owes_n (up_cons (up_cons rfl hs140) hs139) trivial (perm_front 0 rfl)
            rintro fa72 ⟨-, -, -, -, -, -, -, -, -, -, -, -, -, -, -, -, -, -, -, -⟩ ⟨j0, j1, j2, j3, j4, j5, j6, -⟩
            refine f_re (L' := [pt b5 (.cells #[.slice p1 (bs.length) (c2), .slice q3 (R.length) (d4), Ix (gX), Ix (gY)] 32), pt (blk (fa27 17)) (.cells (bC x11) 39), pt (blk (fa27 18)) (.cells (bC x17) 39), pt (blk (fa72 138)) (.cells #[Ix (min (x11.id) (x17.id)), Ix (max (x11.id) (x17.id)), .int .i64 (5)] 49), rowF RopeF 49 (sla (fa72 139)) (slc (fa72 139)) (R ++ [(⟨min (x11.id) (x17.id), max (x11.id) (x17.id), 5⟩ : KR)]), pt b58 (.cells #[.slice p1 (bs.length) (c2), .slice (sla (fa72 139)) ((R ++ [(⟨min (x11.id) (x17.id), max (x11.id) (x17.id), 5⟩ : KR)]).length) (slc (fa72 139)), Ix (gX), Ix (gY)] 32)]) (by rfl) ?_
            refine f_rebase (d := 15) (v := .slice p7 (xl.length) (c8)) j0 ?_
            refine f_rebase (d := 16) (v := Ix ((errI bs R gX gY))) j1 ?_
            refine f_rebase (d := 17) (v := .pointer (some ⟨(blk (fa27 17)), 0, none⟩)) j2 ?_
            refine f_rebase (d := 18) (v := .pointer (some ⟨(blk (fa27 18)), 0, none⟩)) j3 ?_
            refine f_rebase (d := 24) (v := .slice p54 (ml.length) (c55)) j4 ?_
            refine f_rebase (d := 25) (v := Ix ((errI (lessB bs x11.id) (lessR R x11.id) gX gY))) j5 ?_
            refine f_rebase (d := 26) (v := .pointer (some ⟨b58, 0, none⟩)) j6 ?_
            have hmr : moreR R x11.id x17.id = (R ++ [(⟨min (x11.id) (x17.id), max (x11.id) (x17.id), 5⟩ : KR)]) := if_neg hc59
            refine f_perm (L' := [pt b58 (.cells #[.slice p1 (bs.length) (c2), .slice (sla (fa72 139)) ((R ++ [(⟨min (x11.id) (x17.id), max (x11.id) (x17.id), 5⟩ : KR)]).length) (slc (fa72 139)), Ix (gX), Ix (gY)] 32), pt (blk (fa27 17)) (.cells (bC x11) 39), pt (blk (fa27 18)) (.cells (bC x17) 39), rowF RopeF 49 (sla (fa72 139)) (slc (fa72 139)) (R ++ [(⟨min (x11.id) (x17.id), max (x11.id) (x17.id), 5⟩ : KR)]), pt b5 (.cells #[.slice p1 (bs.length) (c2), .slice q3 (R.length) (d4), Ix (gX), Ix (gY)] 32), pt (blk (fa72 138)) (.cells #[Ix (min (x11.id) (x17.id)), Ix (max (x11.id) (x17.id)), .int .i64 (5)] 49)]) (perm_ix [5, 1, 2, 4, 0, 3] 6 rfl (by kernel_rfl) (by kernel_rfl)) ?_
            refine f_mask (L' := [pt b58 (.cells #[.slice p1 (bs.length) (c2), .slice (sla (fa72 139)) ((R ++ [(⟨min (x11.id) (x17.id), max (x11.id) (x17.id), 5⟩ : KR)]).length) (slc (fa72 139)), Ix (gX), Ix (gY)] 32), pt (blk (fa27 17)) (.cells (bC x11) 39), pt (blk (fa27 18)) (.cells (bC x17) 39), rowF RopeF 49 (sla (fa72 139)) (slc (fa72 139)) (R ++ [(⟨min (x11.id) (x17.id), max (x11.id) (x17.id), 5⟩ : KR)])]) [true, true, true, true, false, false] rfl ?_
            exact f_cut ⟨(sla (fa72 139)), (slc (fa72 139)), rowF RopeF 49 (sla (fa72 139)) (slc (fa72 139)) (R ++ [(⟨min (x11.id) (x17.id), max (x11.id) (x17.id), 5⟩ : KR)]), ⟨rfl, rfl, rfl, rfl, rfl, rfl, rfl⟩, by rw [hmr] <;> rfl, by rw [hmr]; exact k_fl 0 (F := RopeF) rfl⟩
          ·
            refine c_skip ?_
            have hmr : moreR R x11.id x17.id = R := if_pos (Decidable.not_not.1 hc59)
            refine f_emp (r := empR) trivial ?_
            refine f_perm (L' := [pt b58 (.cells #[.slice p1 (bs.length) (c2), .slice q3 (R.length) (d4), Ix (gX), Ix (gY)] 32), pt (blk (fa27 17)) (.cells (bC x11) 39), pt (blk (fa27 18)) (.cells (bC x17) 39), empR, pt b5 (.cells #[.slice p1 (bs.length) (c2), .slice q3 (R.length) (d4), Ix (gX), Ix (gY)] 32)]) (perm_ix [1, 3, 4, 0, 2] 5 rfl (by kernel_rfl) (by kernel_rfl)) ?_
            refine f_mask (L' := [pt b58 (.cells #[.slice p1 (bs.length) (c2), .slice q3 (R.length) (d4), Ix (gX), Ix (gY)] 32), pt (blk (fa27 17)) (.cells (bC x11) 39), pt (blk (fa27 18)) (.cells (bC x17) 39), empR]) [true, true, true, true, false] rfl ?_
            exact f_cut ⟨q3, d4, empR, ⟨rfl, rfl, rfl, rfl, rfl, rfl, rfl⟩, by rw [hmr] <;> rfl, by rw [hmr]; exact Knows.of_base (Sl.mono KRR _ _) hslR⟩
        rintro f0 L0 ⟨rp, rc, rr, ⟨hs15, hs16, hs17, hs18, hs24, hs25, hs26⟩, hL, hrr⟩
        subst L0
        refine rebase (d := 15) hs15 ?_
        refine rebase (d := 16) hs16 ?_
        refine rebase (d := 17) hs17 ?_
        refine rebase (d := 18) hs18 ?_
        refine rebase (d := 24) hs24 ?_
        refine rebase (d := 25) hs25 ?_
        refine rebase (d := 26) hs26 ?_
        clear hs15 hs16 hs17 hs18 hs24 hs25 hs26
        refine c_seq ?_
        have hokm := more_ok hmP hab1 hab2
        have hmrl := more_len R x11.id x17.id
        have he3 : errI bs (moreR R x11.id x17.id) gX gY = 0 := if_pos hokm
        refine c_region ?_
        refine l_val (v := .agg #[.slice p1 (bs.length) (c2), .slice rp ((moreR R x11.id x17.id).length) rc, Ix (gX), Ix (gY)]) rfl rfl rfl (e_load tf31 (cs := [.slice p1 (bs.length) (c2), .slice rp ((moreR R x11.id x17.id).length) rc, Ix (gX), Ix (gY)]) rfl (k_pt 0 (cs := #[.slice p1 (bs.length) (c2), .slice rp ((moreR R x11.id x17.id).length) rc, Ix (gX), Ix (gY)]) (vs := [.slice p1 (bs.length) (c2), .slice rp ((moreR R x11.id x17.id).length) rc, Ix (gX), Ix (gY)]) rfl rfl) rfl) ?_
        refine l_call rfl rfl rfl (cl_value (fst := []) (cap := []) (vs := [.agg #[.slice p1 (bs.length) (c2), .slice rp ((moreR R x11.id x17.id).length) rc, Ix (gX), Ix (gY)]]) (all := [.agg #[.slice p1 (bs.length) (c2), .slice rp ((moreR R x11.id x17.id).length) rc, Ix (gX), Ix (gY)]]) tf75 rfl rfl rfl) ?_
        intro w hw
        obtain ⟨β1, sb, kn, hw1, back⟩ := St.frame_all hw
        refine (islandsM_ok β1 w hw1 _ _ gX gY bs (moreR R x11.id x17.id) (Sl.mono _ _ _ _ _ sb hslB) (kn _ (Knows.pick 3 rfl hrr)) (by omega) (by omega)).mono ?_
        rintro e w' ⟨p73, c74, hs75, hx76, rfl, hw'⟩
        refine ⟨_, rfl, _, back _ _ hw', ?_⟩
        clear hw hw1 hw' back kn sb
        refine l_val (v := .tuple #[.slice p73 (hs75.length) c74, Ix ((errI bs (moreR R x11.id x17.id) gX gY))]) rfl rfl rfl (e_move) ?_
        refine l_val (v := .slice p73 (hs75.length) c74) rfl rfl rfl (e_extract (vs := #[.slice p73 (hs75.length) c74, Ix ((errI bs (moreR R x11.id x17.id) gX gY))]) rfl rfl) ?_
        refine l_val (v := Ix ((errI bs (moreR R x11.id x17.id) gX gY))) rfl rfl rfl (e_extract (vs := #[.slice p73 (hs75.length) c74, Ix ((errI bs (moreR R x11.id x17.id) gX gY))]) rfl rfl) ?_
        refine l_val (v := .slice p73 (hs75.length) c74) rfl rfl rfl (e_assign) ?_
        refine l_val (v := Ix ((errI bs (moreR R x11.id x17.id) gX gY))) rfl rfl rfl (e_assign) ?_
        refine l_nil ?_
        refine f_then ?_
        refine c_seq ?_
        refine c_seq ?_
        refine c_mask [true, false, true, true, false] rfl ?_
        refine c_perm (L' := [pt (blk (fa27 17)) (.cells (bC x11) 39), pt (blk (fa27 18)) (.cells (bC x17) 39), Sat (llL p73 c74 hs75)]) (perm_ix [1, 2, 0] 3 rfl (by kernel_rfl) (by kernel_rfl)) ?_
        refine c_freeze2 (M := [pt (blk (fa27 17)) (.cells (bC x11) 39), pt (blk (fa27 18)) (.cells (bC x17) 39)]) (K := [Sat (llL p73 c74 hs75)]) rfl (fun βO extO knO bkO => ?_)
        have hslO := knO _ (k_ll 0 rfl)
        obtain ⟨ol, hqO⟩ : ∃ z, z = hs75.map (·.xs) := ⟨_, rfl⟩
        have hln : hs75.length = ol.length := by rw [hqO, List.length_map]
        rw [← hqO, hln] at hslO
        rw [hln]
        have hXO : ol = (islR bs (moreR R x11.id x17.id) gX gY) := by rw [hqO, hx76]
        obtain ⟨-, hcO, hmO, heO⟩ := hslO.parts
        have hslB := Sl.mono _ _ _ _ _ extO.sub hslB
        have hslR := Sl.mono _ _ _ _ _ extO.sub hslR
        have heB := Elems.mono _ _ _ _ _ extO.sub heB
        have heR := Elems.mono _ _ _ _ _ extO.sub heR
        have hslX := Sl.mono _ _ _ _ _ extO.sub hslX
        have heX := Elems.mono _ _ _ _ _ extO.sub heX
        have hslM := Sl.mono _ _ _ _ _ extO.sub hslM
        have heM := Elems.mono _ _ _ _ _ extO.sub heM
        have hO : IsS (freeB bs) (moreR R x11.id x17.id) gX gY ol := IsS.of hokm hXO
        refine c_region ?_
        refine l_val (v := Ix ((errI bs R gX gY))) rfl rfl rfl (e_move) ?_
        refine l_val (v := Ix ((errI (lessB bs x11.id) (lessR R x11.id) gX gY))) rfl rfl rfl (e_move) ?_
        refine l_val (v := Ix (((errI bs R gX gY)) + ((errI (lessB bs x11.id) (lessR R x11.id) gX gY)))) rfl rfl rfl (e_add (a := ((errI bs R gX gY))) (b := ((errI (lessB bs x11.id) (lessR R x11.id) gX gY))) rfl rfl (i64w (by omega))) ?_
        refine l_val (v := Ix ((errI bs (moreR R x11.id x17.id) gX gY))) rfl rfl rfl (e_move) ?_
        refine l_val (v := Ix ((((errI bs R gX gY)) + ((errI (lessB bs x11.id) (lessR R x11.id) gX gY))) + ((errI bs (moreR R x11.id x17.id) gX gY)))) rfl rfl rfl (e_add (a := (((errI bs R gX gY)) + ((errI (lessB bs x11.id) (lessR R x11.id) gX gY)))) (b := ((errI bs (moreR R x11.id x17.id) gX gY))) rfl rfl (i64w (by omega))) ?_
        refine l_val (v := .bool (decide (((((errI bs R gX gY)) + ((errI (lessB bs x11.id) (lessR R x11.id) gX gY))) + ((errI bs (moreR R x11.id x17.id) gX gY))) ≠ (0 : Int)))) rfl rfl rfl (e_neq (a := ((((errI bs R gX gY)) + ((errI (lessB bs x11.id) (lessR R x11.id) gX gY))) + ((errI bs (moreR R x11.id x17.id) gX gY)))) (b := (0 : Int)) rfl rfl) ?_
        refine l_nil ?_
        refine f_then ?_
        refine c_if (((((errI bs R gX gY)) + ((errI (lessB bs x11.id) (lessR R x11.id) gX gY))) + ((errI bs (moreR R x11.id x17.id) gX gY))) ≠ (0 : Int)) rfl (fun hc77 => ?_) (fun hc77 => ?_)
        ·
          exact absurd hc77 (by omega)
        ·
          refine c_skip ?_
          refine f_then ?_
          refine c_seq_cut (fun (f : Fm) (L : List Res) => ∃ (jn : Bool), (f 15 = .slice p7 (xl.length) (c8) ∧ f 17 = .pointer (some ⟨(blk (fa27 17)), 0, none⟩) ∧ f 18 = .pointer (some ⟨(blk (fa27 18)), 0, none⟩) ∧ f 24 = .slice p54 (ml.length) (c55) ∧ f 27 = .slice p73 (ol.length) (c74) ∧ f 29 = .bool (jn)) ∧ L = [pt (blk (fa27 17)) (.cells (bC x11) 39), pt (blk (fa27 18)) (.cells (bC x17) 39)] ∧ (jn = true ↔ (x11.fixed = false ∧ x17.fixed = false ∧ placeI xl x11.id ≠ placeI xl x17.id))) ?_ ?_
          ·
            refine c_quiet (by kernel_rfl) (by kernel_rfl) ?_
            refine q_val (v := .pointer (some ⟨(blk (fa27 17)), 8, none⟩)) rfl rfl rfl (e_fieldPt (b := (blk (fa27 17))) (o := 0) rfl tf18) ?_
            refine q_val (v := .bool (x11.fixed)) rfl rfl rfl (e_load1 tf19 (v := .bool (x11.fixed)) rfl (k_pt 0 (cs := (bC x11)) (vs := [.bool (x11.fixed)]) rfl rfl)) ?_
            refine q_val (v := .bool (!x11.fixed)) rfl rfl rfl (e_not rfl) ?_
            refine q_val (v := .bool (!x11.fixed)) rfl rfl rfl (e_move) ?_
            refine q_splitb (s := 155) (b := !x11.fixed) rfl (fun hg78 => ?_) (fun hg78 => ?_)
            ·
              refine qg_val (v := .pointer (some ⟨(blk (fa27 18)), 8, none⟩)) rfl rfl rfl rfl rfl (e_fieldPt (b := (blk (fa27 18))) (o := 0) rfl tf18) ?_
              refine qg_val (v := .bool (x17.fixed)) rfl rfl rfl rfl rfl (e_load1 tf19 (v := .bool (x17.fixed)) rfl (k_pt 1 (cs := (bC x17)) (vs := [.bool (x17.fixed)]) rfl rfl)) ?_
              refine qg_val (v := .bool (!x17.fixed)) rfl rfl rfl rfl rfl (e_not rfl) ?_
              refine q_val (v := .bool (!x17.fixed)) rfl rfl rfl (e_pick_t rfl) ?_
              refine q_val (v := .bool (!x17.fixed)) rfl rfl rfl (e_move) ?_
              refine q_splitb (s := 160) (b := !x17.fixed) rfl (fun hg79 => ?_) (fun hg79 => ?_)
              ·
                refine qg_val (v := .slice p7 (xl.length) (c8)) rfl rfl rfl rfl rfl (e_move) ?_
                refine qg_val (v := .pointer (some ⟨(blk (fa27 17)), 0, none⟩)) rfl rfl rfl rfl rfl (e_fieldPt (b := (blk (fa27 17))) (o := 0) rfl tf27) ?_
                refine qg_val (v := Ix (x11.id)) rfl rfl rfl rfl rfl (e_load1 tf11 (v := Ix (x11.id)) rfl (k_pt 0 (cs := (bC x11)) (vs := [Ix (x11.id)]) rfl rfl)) ?_
                refine qg_call (v := Ix (placeI xl x11.id)) rfl rfl rfl rfl rfl (cl_value (fst := []) (cap := []) (vs := [.slice p7 (xl.length) (c8), Ix (x11.id)]) (all := [.slice p7 (xl.length) (c8), Ix (x11.id)]) tf87 rfl rfl rfl) (fun w hw => ?_) ?_
                · obtain ⟨β1, sb, kn, hw1, back⟩ := St.frame_all hw
                  exact (place_ok β1 w hw1 _ xl (Sl.mono _ _ _ _ _ sb hslX) x11.id).mono (fun e w' ⟨he, hw'⟩ => ⟨he, st_mask [true, true] rfl (back _ _ hw')⟩)
                refine qg_val (v := .slice p7 (xl.length) (c8)) rfl rfl rfl rfl rfl (e_move) ?_
                refine qg_val (v := .pointer (some ⟨(blk (fa27 18)), 0, none⟩)) rfl rfl rfl rfl rfl (e_fieldPt (b := (blk (fa27 18))) (o := 0) rfl tf27) ?_
                refine qg_val (v := Ix (x17.id)) rfl rfl rfl rfl rfl (e_load1 tf11 (v := Ix (x17.id)) rfl (k_pt 1 (cs := (bC x17)) (vs := [Ix (x17.id)]) rfl rfl)) ?_
                refine qg_call (v := Ix (placeI xl x17.id)) rfl rfl rfl rfl rfl (cl_value (fst := []) (cap := []) (vs := [.slice p7 (xl.length) (c8), Ix (x17.id)]) (all := [.slice p7 (xl.length) (c8), Ix (x17.id)]) tf87 rfl rfl rfl) (fun w hw => ?_) ?_
                · obtain ⟨β1, sb, kn, hw1, back⟩ := St.frame_all hw
                  exact (place_ok β1 w hw1 _ xl (Sl.mono _ _ _ _ _ sb hslX) x17.id).mono (fun e w' ⟨he, hw'⟩ => ⟨he, st_mask [true, true] rfl (back _ _ hw')⟩)
                refine qg_val (v := .bool (decide ((placeI xl x11.id) ≠ (placeI xl x17.id)))) rfl rfl rfl rfl rfl (e_neq (a := (placeI xl x11.id)) (b := (placeI xl x17.id)) rfl rfl) ?_
                refine q_val (v := .bool (decide ((placeI xl x11.id) ≠ (placeI xl x17.id)))) rfl rfl rfl (e_pick_t rfl) ?_
                refine q_val (v := .bool (decide ((placeI xl x11.id) ≠ (placeI xl x17.id)))) rfl rfl rfl (e_assign) ?_
                refine q_nil ?_
                exact f_cut ⟨(decide ((placeI xl x11.id) ≠ (placeI xl x17.id))), ⟨rfl, rfl, rfl, rfl, rfl, rfl⟩, rfl, ⟨fun q => ⟨by simpa using hg78, by simpa using hg79, of_decide_eq_true q⟩, fun q => decide_eq_true q.2.2⟩⟩
              ·
                refine q_skip rfl rfl rfl rfl rfl rfl ?_
                refine q_skip rfl rfl rfl rfl rfl rfl ?_
                refine q_skip rfl rfl rfl rfl rfl rfl ?_
                refine q_skip rfl rfl rfl rfl rfl rfl ?_
                refine q_skip rfl rfl rfl rfl rfl rfl ?_
                refine q_skip rfl rfl rfl rfl rfl rfl ?_
                refine q_skip rfl rfl rfl rfl rfl rfl ?_
                refine q_skip rfl rfl rfl rfl rfl rfl ?_
                refine q_skip rfl rfl rfl rfl rfl rfl ?_
                refine q_val (v := .bool false) rfl rfl rfl (e_pick_f rfl) ?_
                refine q_val (v := .bool false) rfl rfl rfl (e_assign) ?_
                refine q_nil ?_
                exact f_cut ⟨false, ⟨rfl, rfl, rfl, rfl, rfl, rfl⟩, rfl, ⟨fun q => absurd q (by decide), fun q => absurd q.2.1 (by simpa using hg79)⟩⟩
            ·
              refine q_skip rfl rfl rfl rfl rfl rfl ?_
              refine q_skip rfl rfl rfl rfl rfl rfl ?_
              refine q_skip rfl rfl rfl rfl rfl rfl ?_
              refine q_val (v := .bool false) rfl rfl rfl (e_pick_f rfl) ?_
              refine q_val (v := .bool false) rfl rfl rfl (e_move) ?_
              refine q_skip rfl rfl rfl rfl rfl rfl ?_
              refine q_skip rfl rfl rfl rfl rfl rfl ?_
              refine q_skip rfl rfl rfl rfl rfl rfl ?_
              refine q_skip rfl rfl rfl rfl rfl rfl ?_
              refine q_skip rfl rfl rfl rfl rfl rfl ?_
              refine q_skip rfl rfl rfl rfl rfl rfl ?_
              refine q_skip rfl rfl rfl rfl rfl rfl ?_
              refine q_skip rfl rfl rfl rfl rfl rfl ?_
              refine q_skip rfl rfl rfl rfl rfl rfl ?_
              refine q_val (v := .bool false) rfl rfl rfl (e_pick_f rfl) ?_
              refine q_val (v := .bool false) rfl rfl rfl (e_assign) ?_
              refine q_nil ?_
              exact f_cut ⟨false, ⟨rfl, rfl, rfl, rfl, rfl, rfl⟩, rfl, ⟨fun q => absurd q (by decide), fun q => absurd q.1 (by simpa using hg78)⟩⟩
          rintro f0 L0 ⟨jn, ⟨hs15, hs17, hs18, hs24, hs27, hs29⟩, hL, hj⟩
          subst L0
          refine rebase (d := 15) hs15 ?_
          refine rebase (d := 17) hs17 ?_
          refine rebase (d := 18) hs18 ?_
          refine rebase (d := 24) hs24 ?_
          refine rebase (d := 27) hs27 ?_
          refine rebase (d := 29) hs29 ?_
          clear hs15 hs17 hs18 hs24 hs27 hs29
          have hjoin : jn = true → ol.length + 1 = xl.length ∧ placeI ol x11.id = placeI ol x17.id := fun q => more_join hS hO (ida.2 (hj.1 q).1) (idb.2 (hj.1 q).2.1) (hj.1 q).2.2
          have hsame : jn = false → ol = xl := fun q => more_eq hS hO (fun ja jb => Classical.byContradiction fun n => by have := hj.2 ⟨ida.1 ja, idb.1 jb, n⟩; rw [q] at this; cases this)
          refine c_seq_cut (fun (f : Fm) (L : List Res) => ∃ (zz : Nat), (f 15 = .slice p7 (xl.length) (c8) ∧ f 17 = .pointer (some ⟨(blk (fa27 17)), 0, none⟩) ∧ f 18 = .pointer (some ⟨(blk (fa27 18)), 0, none⟩) ∧ f 24 = .slice p54 (ml.length) (c55) ∧ f 27 = .slice p73 (ol.length) (c74)) ∧ L = [pt (blk (fa27 17)) (.cells (bC x11) 39), pt (blk (fa27 18)) (.cells (bC x17) 39)] ∧ (True)) ?_ ?_
          ·
            refine c_seq ?_
            refine c_quiet (by kernel_rfl) (by kernel_rfl) ?_
            refine q_val (v := .bool (jn)) rfl rfl rfl (e_move) ?_
            refine q_val (v := .bool (jn)) rfl rfl rfl (e_move) ?_
            refine q_splitb (s := 172) (b := jn) rfl (fun hg80 => ?_) (fun hg80 => ?_)
            ·
              obtain ⟨hjl, hjp⟩ := hjoin hg80
              refine qg_val (v := .slice p73 (ol.length) (c74)) rfl rfl rfl rfl rfl (e_move) ?_
              refine qg_val (v := Nx (ol.length)) rfl rfl rfl rfl rfl (e_len (a := p73) (n := ol.length) (c := c74) rfl tf64) ?_
              refine qg_val (v := .slice p7 (xl.length) (c8)) rfl rfl rfl rfl rfl (e_move) ?_
              refine qg_val (v := Nx (xl.length)) rfl rfl rfl rfl rfl (e_len (a := p7) (n := xl.length) (c := c8) rfl tf64) ?_
              refine qg_val (v := Nx (xl.length - 1)) rfl rfl rfl rfl rfl (ev_eq (congrArg (Value.int .i64) (by omega)) (e_sub (a := ((xl.length : Nat) : Int)) (b := (1 : Int)) rfl rfl (i64w (by omega)))) ?_
              refine qg_val (v := .bool (decide (((ol.length : Nat) : Int) ≠ ((xl.length - 1 : Nat) : Int)))) rfl rfl rfl rfl rfl (e_neq (a := ((ol.length : Nat) : Int)) (b := ((xl.length - 1 : Nat) : Int)) rfl rfl) ?_
              refine q_val (v := .bool (decide (((ol.length : Nat) : Int) ≠ ((xl.length - 1 : Nat) : Int)))) rfl rfl rfl (e_pick_t rfl) ?_
              refine q_val (v := .bool (decide (((ol.length : Nat) : Int) ≠ ((xl.length - 1 : Nat) : Int)))) rfl rfl rfl (e_move) ?_
              refine q_split (s := 180) (p := ((ol.length : Nat) : Int) ≠ ((xl.length - 1 : Nat) : Int)) rfl (fun h => ?_) (fun h => ?_)
              exact absurd h (by omega)
              refine qg_val (v := .bool (jn)) rfl rfl rfl rfl rfl (e_move) ?_
              refine qg_val (v := .bool (!jn)) rfl rfl rfl rfl rfl (e_not rfl) ?_
              refine qg_val (v := .bool (!jn)) rfl rfl rfl rfl rfl (e_move) ?_
              refine q_splitb (s := 183) (b := !jn) rfl (fun h => ?_) (fun h => ?_)
              (rw [(show (!jn) = false from by rw [show jn = true by simpa using hg80]; rfl)] at h; cases h)
              refine q_skip rfl rfl rfl rfl rfl rfl ?_
              refine q_skip rfl rfl rfl rfl rfl rfl ?_
              refine q_skip rfl rfl rfl rfl rfl rfl ?_
              refine q_skip rfl rfl rfl rfl rfl rfl ?_
              refine qg_val (v := .bool false) rfl rfl rfl rfl rfl (e_pick_f rfl) ?_
              refine q_val (v := .bool false) rfl rfl rfl (e_pick_f rfl) ?_
              refine q_val (v := .bool false) rfl rfl rfl (e_move) ?_
              refine qg_val (v := .bool (jn)) rfl rfl rfl rfl rfl (e_move) ?_
              refine qg_val (v := .bool (jn)) rfl rfl rfl rfl rfl (e_move) ?_
              refine q_splitb (s := 192) (b := jn) rfl (fun h => ?_) (fun h => ?_)
              rotate_left; (rw [hg80] at h; cases h)
              refine qg_val (v := .slice p73 (ol.length) (c74)) rfl rfl rfl rfl rfl (e_move) ?_
              refine qg_val (v := .pointer (some ⟨(blk (fa27 17)), 0, none⟩)) rfl rfl rfl rfl rfl (e_fieldPt (b := (blk (fa27 17))) (o := 0) rfl tf27) ?_
              refine qg_val (v := Ix (x11.id)) rfl rfl rfl rfl rfl (e_load1 tf11 (v := Ix (x11.id)) rfl (k_pt 0 (cs := (bC x11)) (vs := [Ix (x11.id)]) rfl rfl)) ?_
              refine qg_call (v := Ix (placeI ol x11.id)) rfl rfl rfl rfl rfl (cl_value (fst := []) (cap := []) (vs := [.slice p73 (ol.length) (c74), Ix (x11.id)]) (all := [.slice p73 (ol.length) (c74), Ix (x11.id)]) tf87 rfl rfl rfl) (fun w hw => ?_) ?_
              · obtain ⟨β1, sb, kn, hw1, back⟩ := St.frame_all hw
                exact (place_ok β1 w hw1 _ ol (Sl.mono _ _ _ _ _ sb hslO) x11.id).mono (fun e w' ⟨he, hw'⟩ => ⟨he, st_mask [true, true] rfl (back _ _ hw')⟩)
              refine qg_val (v := .slice p73 (ol.length) (c74)) rfl rfl rfl rfl rfl (e_move) ?_
              refine qg_val (v := .pointer (some ⟨(blk (fa27 18)), 0, none⟩)) rfl rfl rfl rfl rfl (e_fieldPt (b := (blk (fa27 18))) (o := 0) rfl tf27) ?_
              refine qg_val (v := Ix (x17.id)) rfl rfl rfl rfl rfl (e_load1 tf11 (v := Ix (x17.id)) rfl (k_pt 1 (cs := (bC x17)) (vs := [Ix (x17.id)]) rfl rfl)) ?_
              refine qg_call (v := Ix (placeI ol x17.id)) rfl rfl rfl rfl rfl (cl_value (fst := []) (cap := []) (vs := [.slice p73 (ol.length) (c74), Ix (x17.id)]) (all := [.slice p73 (ol.length) (c74), Ix (x17.id)]) tf87 rfl rfl rfl) (fun w hw => ?_) ?_
              · obtain ⟨β1, sb, kn, hw1, back⟩ := St.frame_all hw
                exact (place_ok β1 w hw1 _ ol (Sl.mono _ _ _ _ _ sb hslO) x17.id).mono (fun e w' ⟨he, hw'⟩ => ⟨he, st_mask [true, true] rfl (back _ _ hw')⟩)
              refine qg_val (v := .bool (decide ((placeI ol x11.id) ≠ (placeI ol x17.id)))) rfl rfl rfl rfl rfl (e_neq (a := (placeI ol x11.id)) (b := (placeI ol x17.id)) rfl rfl) ?_
              refine qg_val (v := .bool (decide ((placeI ol x11.id) ≠ (placeI ol x17.id)))) rfl rfl rfl rfl rfl (e_pick_t rfl) ?_
              refine q_val (v := .bool (decide ((placeI ol x11.id) ≠ (placeI ol x17.id)))) rfl rfl rfl (e_pick_f rfl) ?_
              refine q_nil ?_
              refine f_then ?_
              refine c_if ((placeI ol x11.id) ≠ (placeI ol x17.id)) rfl (fun hc81 => ?_) (fun hc81 => ?_)
              ·
                exact absurd hc81 (fun q => q hjp)
              ·
                refine c_skip ?_
                exact f_cut ⟨0, ⟨rfl, rfl, rfl, rfl, rfl⟩, rfl, trivial⟩
            ·
              have hsm := hsame (by simpa using hg80)
              refine q_skip rfl rfl rfl rfl rfl rfl ?_
              refine q_skip rfl rfl rfl rfl rfl rfl ?_
              refine q_skip rfl rfl rfl rfl rfl rfl ?_
              refine q_skip rfl rfl rfl rfl rfl rfl ?_
              refine q_skip rfl rfl rfl rfl rfl rfl ?_
              refine q_skip rfl rfl rfl rfl rfl rfl ?_
              refine q_val (v := .bool false) rfl rfl rfl (e_pick_f rfl) ?_
              refine q_val (v := .bool false) rfl rfl rfl (e_move) ?_
              refine qg_val (v := .bool (jn)) rfl rfl rfl rfl rfl (e_move) ?_
              refine qg_val (v := .bool (!jn)) rfl rfl rfl rfl rfl (e_not rfl) ?_
              refine qg_val (v := .bool (!jn)) rfl rfl rfl rfl rfl (e_move) ?_
              refine q_splitb (s := 183) (b := !jn) rfl (fun h => ?_) (fun h => ?_)
              rotate_left; (rw [(show (!jn) = true from by rw [show jn = false by simpa using hg80]; rfl)] at h; cases h)
              refine qg_val (v := .slice p73 (ol.length) (c74)) rfl rfl rfl rfl rfl (e_move) ?_
              refine qg_val (v := .slice p7 (xl.length) (c8)) rfl rfl rfl rfl rfl (e_move) ?_
              refine qg_call (v := .bool (decide (ol = xl))) rfl rfl rfl rfl rfl (cl_value (fst := []) (cap := []) (vs := [.slice p73 (ol.length) (c74), .slice p7 (xl.length) (c8)]) (all := [.slice p73 (ol.length) (c74), .slice p7 (xl.length) (c8)]) tf77 rfl rfl rfl) (fun w hw => ?_) ?_
              · obtain ⟨β1, sb, kn, hw1, back⟩ := St.frame_all hw
                exact (sameL_ok β1 w hw1 _ _ ol xl (Sl.mono _ _ _ _ _ sb hslO) (Sl.mono _ _ _ _ _ sb hslX)).mono (fun e w' ⟨he, hw'⟩ => ⟨he, st_mask [true, true] rfl (back _ _ hw')⟩)
              refine qg_val (v := .bool (decide (¬ (ol = xl)))) rfl rfl rfl rfl rfl (e_not_p (p := ol = xl) rfl) ?_
              refine qg_val (v := .bool (decide (¬ (ol = xl)))) rfl rfl rfl rfl rfl (e_pick_t rfl) ?_
              refine q_val (v := .bool (decide (¬ (ol = xl)))) rfl rfl rfl (e_pick_f rfl) ?_
              refine q_val (v := .bool (decide (¬ (ol = xl)))) rfl rfl rfl (e_move) ?_
              refine q_split (s := 190) (p := ¬ (ol = xl)) rfl (fun h => ?_) (fun h => ?_)
              exact absurd h (fun q => q hsm)
              refine qg_val (v := .bool (jn)) rfl rfl rfl rfl rfl (e_move) ?_
              refine qg_val (v := .bool (jn)) rfl rfl rfl rfl rfl (e_move) ?_
              refine q_splitb (s := 192) (b := jn) rfl (fun h => ?_) (fun h => ?_)
              (rw [hg80] at h; cases h)
              refine q_skip rfl rfl rfl rfl rfl rfl ?_
              refine q_skip rfl rfl rfl rfl rfl rfl ?_
              refine q_skip rfl rfl rfl rfl rfl rfl ?_
              refine q_skip rfl rfl rfl rfl rfl rfl ?_
              refine q_skip rfl rfl rfl rfl rfl rfl ?_
              refine q_skip rfl rfl rfl rfl rfl rfl ?_
              refine q_skip rfl rfl rfl rfl rfl rfl ?_
              refine q_skip rfl rfl rfl rfl rfl rfl ?_
              refine q_skip rfl rfl rfl rfl rfl rfl ?_
              refine qg_val (v := .bool false) rfl rfl rfl rfl rfl (e_pick_f rfl) ?_
              refine q_val (v := .bool false) rfl rfl rfl (e_pick_f rfl) ?_
              refine q_nil ?_
              refine f_then ?_
              refine c_no rfl ?_
              refine c_skip ?_
              exact f_cut ⟨0, ⟨rfl, rfl, rfl, rfl, rfl⟩, rfl, trivial⟩
          rintro f0 L0 ⟨zz, ⟨hs15, hs17, hs18, hs24, hs27⟩, hL, -⟩
          subst L0
          refine rebase (d := 15) hs15 ?_
          refine rebase (d := 17) hs17 ?_
          refine rebase (d := 18) hs18 ?_
          refine rebase (d := 24) hs24 ?_
          refine rebase (d := 27) hs27 ?_
          clear hs15 hs17 hs18 hs24 hs27
          refine c_seq ?_
          refine c_seq ?_
          refine c_region ?_
          refine l_val (v := .slice p7 (xl.length) (c8)) rfl rfl rfl (e_move) ?_
          refine l_val (v := Nx (xl.length)) rfl rfl rfl (e_len (a := p7) (n := xl.length) (c := c8) rfl tf64) ?_
          refine l_val (v := .int .i64 (0)) rfl rfl rfl (e_move) ?_
          refine l_nil ?_
          refine f_then ?_
          refine c_block ?_
          refine c_loop (fun (k : Nat) (f : Fm) (L : List Res) => (f 15 = .slice p7 (xl.length) (c8) ∧ f 17 = .pointer (some ⟨(blk (fa27 17)), 0, none⟩) ∧ f 18 = .pointer (some ⟨(blk (fa27 18)), 0, none⟩) ∧ f 24 = .slice p54 (ml.length) (c55) ∧ f 27 = .slice p73 (ol.length) (c74) ∧ f 205 = Nx (xl.length) ∧ f 206 = Nx (k)) ∧ L = [pt (blk (fa27 17)) (.cells (bC x11) 39), pt (blk (fa27 18)) (.cells (bC x17) 39)] ∧ (k ≤ xl.length)) (fun (k : Nat) => xl.length - k) 0 ?_ ?_
          · exact ⟨⟨rfl, rfl, rfl, rfl, rfl, rfl, rfl⟩, rfl, by omega⟩
          rintro k f0 L0 ⟨⟨hs15, hs17, hs18, hs24, hs27, hs205, hs206⟩, hL, hk⟩
          subst L0
          refine rebase (d := 15) hs15 ?_
          refine rebase (d := 17) hs17 ?_
          refine rebase (d := 18) hs18 ?_
          refine rebase (d := 24) hs24 ?_
          refine rebase (d := 27) hs27 ?_
          refine rebase (d := 205) hs205 ?_
          refine rebase (d := 206) hs206 ?_
          clear hs15 hs17 hs18 hs24 hs27 hs205 hs206
          refine c_seq ?_
          refine c_region ?_
          refine l_val (v := .bool (decide (((k : Nat) : Int) < ((xl.length : Nat) : Int)))) rfl rfl rfl (e_lss (a := ((k : Nat) : Int)) (b := ((xl.length : Nat) : Int)) rfl rfl) ?_
          refine l_nil ?_
          refine f_then ?_
          refine c_seq ?_
          refine c_if (((k : Nat) : Int) < ((xl.length : Nat) : Int)) rfl (fun hc82 => ?_) (fun hc82 => ?_)
          ·
            refine c_skip ?_
            refine f_then ?_
            refine c_seq ?_
            refine c_block ?_
            refine c_seq ?_
            refine c_region ?_
            refine l_val (v := Nx (k)) rfl rfl rfl (e_move) ?_
            refine l_val (v := Nx (k)) rfl rfl rfl (e_assign) ?_
            refine l_nil ?_
            refine f_then ?_
            refine c_seq ?_
            refine c_seq ?_
            by_cases hg83 : ((k : Nat) : Int) ≠ (placeI xl x11.id)
            ·
              obtain ⟨x84, hx85⟩ : ∃ x_, (xl)[k]? = some x_ := ⟨_, List.getElem?_eq_getElem (by omega)⟩
              obtain ⟨ha86, cs87, hc88, hr89⟩ := heX _ _ hx85
              obtain ⟨v90, rfl, hv91⟩ := hr89
              obtain ⟨a92, c93, rfl, hl94, hm95, he96⟩ := (hv91).get
              have hposx84 := hS.first hx85
              obtain ⟨x97, hx98⟩ : ∃ x_, (x84)[0]? = some x_ := ⟨_, List.getElem?_eq_getElem (by omega)⟩
              obtain ⟨ha99, cs100, hc101, rfl⟩ := he96 _ _ hx98
              obtain ⟨km103, hkm103, hkm103m, hkm103l⟩ := less_same hS hM hx85 hg83 hx98
              obtain ⟨x104, hx105⟩ : ∃ x_, (ml)[km103]? = some x_ := ⟨_, List.getElem?_eq_getElem (by omega)⟩
              obtain ⟨ha106, cs107, hc108, hr109⟩ := heM _ _ hx105
              obtain ⟨v110, rfl, hv111⟩ := hr109
              obtain ⟨a112, c113, rfl, hl114, hm115, he116⟩ := (hv111).get
              obtain ⟨zs119, hz120⟩ : ∃ zs, zs = ((xl.take (k + 1)).drop k) := ⟨_, rfl⟩
              have zl121 : zs119.length = min (k + 1) (xl).length - k := by rw [hz120]; simp; try omega
              have ze122 := (Elems.drop (cap := c8) k (by first | omega | (simp; omega)) (Elems.take (k + 1) heX))
              rw [← hz120] at ze122
              refine c_any [⟨[], [], [0], [209], fun f => f 209 = Nx (k)⟩, ⟨[], [], [1], [210], fun f => f 210 = .slice p7 (xl.length) (c8)⟩, ⟨[], [], [2], [211], fun f => f 211 = .pointer (some ⟨(blk (fa27 17)), 0, none⟩)⟩, ⟨[2], [2], [], [212], fun f => f 212 = Ix (x11.id)⟩, ⟨[1, 2, 3], [1, 3], [], [213], fun f => f 213 = Ix (placeI xl x11.id)⟩, ⟨[0, 1, 2, 3, 4], [0, 4], [], [214], fun f => f 214 = .bool true⟩, ⟨[0, 1, 2, 3, 4, 5], [5], [], [215], fun f => f 215 = .bool true⟩, ⟨[0, 1, 2, 3, 4, 5, 6], [6], [3], [216], fun f => f 216 = .slice p54 (ml.length) (c55)⟩, ⟨[0, 1, 2, 3, 4, 5, 6], [6], [3], [217], fun f => f 217 = .slice p54 (ml.length) (c55)⟩, ⟨[0, 1, 2, 3, 4, 5, 6], [6], [1], [218], fun f => f 218 = .slice p7 (xl.length) (c8)⟩, ⟨[0, 1, 2, 3, 4, 5, 6], [6], [0], [219], fun f => f 219 = Nx (k)⟩, ⟨[0, 1, 2, 3, 4, 5, 6, 9, 10], [9, 10, 6], [], [220], fun f => f 220 = .pointer (some ((ba p7).add (k * 1)))⟩, ⟨[0, 1, 2, 3, 4, 5, 6, 9, 10, 11], [11, 6], [], [221], fun f => f 221 = .slice a92 (x84.length) (c93)⟩, ⟨[0, 1, 2, 3, 4, 5, 6, 9, 10, 11, 12], [12, 6], [], [222], fun f => f 222 = .pointer (some ((ba a92).add (0 * 1)))⟩, ⟨[0, 1, 2, 3, 4, 5, 6, 9, 10, 11, 12, 13], [13, 6], [], [223], fun f => f 223 = Ix (x97)⟩, ⟨[0, 1, 2, 3, 4, 5, 6, 8, 9, 10, 11, 12, 13, 14], [8, 14, 6], [], [224], fun f => f 224 = Nx (km103)⟩, ⟨[0, 1, 2, 3, 4, 5, 6, 7, 8, 9, 10, 11, 12, 13, 14, 15], [7, 15, 6], [], [225], fun f => f 225 = .pointer (some ((ba p54).add (km103 * 1)))⟩, ⟨[0, 1, 2, 3, 4, 5, 6, 7, 8, 9, 10, 11, 12, 13, 14, 15, 16], [16, 6], [], [226], fun f => f 226 = .slice a112 (x104.length) (c113)⟩, ⟨[0, 1, 2, 3, 4, 5, 6, 7, 8, 9, 10, 11, 12, 13, 14, 15, 16, 17], [17, 6], [], [227], fun f => f 227 = .slice (some ⟨(blk (f 227)), 0, none⟩) 1 1⟩, ⟨[0, 1, 2, 3, 4, 5, 6], [6], [1], [228], fun f => f 228 = .slice p7 (xl.length) (c8)⟩, ⟨[0, 1, 2, 3, 4, 5, 6], [6], [0], [229], fun f => f 229 = Nx (k)⟩, ⟨[0, 1, 2, 3, 4, 5, 6], [6], [0], [230], fun f => f 230 = Nx (k)⟩, ⟨[0, 1, 2, 3, 4, 5, 6, 21], [21, 6], [], [231], fun f => f 231 = Nx (k + 1)⟩, ⟨[0, 1, 2, 3, 4, 5, 6, 19, 20, 21, 22], [19, 20, 22, 6], [], [232], fun f => f 232 = .slice (adv p7 c8 k 1) (zs119.length) ((c8 - k))⟩, ⟨[0, 1, 2, 3, 4, 5, 6, 7, 8, 9, 10, 11, 12, 13, 14, 15, 16, 17, 18, 19, 20, 21, 22, 23], [18, 23, 6], [], [233], fun f => f 233 = .bool true⟩, ⟨[0, 1, 2, 3, 4, 5, 6, 7, 8, 9, 10, 11, 12, 13, 14, 15, 16, 17, 18, 19, 20, 21, 22, 23, 24], [24, 6], [], [234], fun f => f 234 = .bool false⟩, ⟨[0, 1, 2, 3, 4, 5, 6, 7, 8, 9, 10, 11, 12, 13, 14, 15, 16, 17, 18, 19, 20, 21, 22, 23, 24, 25], [6, 25], [], [235], fun f => f 235 = .bool false⟩] [⟨none, none, [3], [], fun _ => pt (blk (fa27 17)) (.cells (bC x11) 39)⟩, ⟨none, none, [], [], fun _ => pt (blk (fa27 18)) (.cells (bC x17) 39)⟩, ⟨(some 18), none, [24], [227], fun f => pt (blk (f 227)) (.cells #[.slice a112 (x104.length) (c113)] 41)⟩] [(30, Nx (k)), (15, .slice p7 (xl.length) (c8)), (17, .pointer (some ⟨(blk (fa27 17)), 0, none⟩)), (24, .slice p54 (ml.length) (c55)), (18, .pointer (some ⟨(blk (fa27 18)), 0, none⟩)), (27, .slice p73 (ol.length) (c74)), (205, Nx (xl.length)), (206, Nx (k))] [1, 2, 4, 3, 5, 0, 6, 7] [] (by kernel_rfl) (by kernel_rfl) (by kernel_rfl) (by kernel_rfl) rfl ⟨rfl, rfl, rfl, rfl, rfl, rfl, rfl, rfl, trivial⟩ ⟨?_, ?_, ?_, ?_, ?_, ?_, ?_, ?_, ?_, ?_, ?_, ?_, ?_, ?_, ?_, ?_, ?_, ?_, ?_, ?_, ?_, ?_, ?_, ?_, ?_, ?_, ?_, trivial⟩ ?_
              · rintro f M - ⟨i0, -⟩
                have hs30 : f 30 = Nx (k) := i0
                refine ob_start (L' := M) (by rfl) (up_cons rfl hs30) ?_
                refine l_val (v := Nx (k)) rfl rfl rfl (e_move) ?_
                refine l_nil ?_
                exact f_owes_d (up_cons rfl hs30) rfl (List.Perm.refl _)
              · rintro f M - ⟨i0, -⟩
                have hs15 : f 15 = .slice p7 (xl.length) (c8) := i0
                refine ob_start (L' := M) (by rfl) (up_cons rfl hs15) ?_
                refine l_val (v := .slice p7 (xl.length) (c8)) rfl rfl rfl (e_move) ?_
                refine l_nil ?_
                exact f_owes_d (up_cons rfl hs15) rfl (List.Perm.refl _)
              · rintro f M - ⟨i0, -⟩
                have hs17 : f 17 = .pointer (some ⟨(blk (fa27 17)), 0, none⟩) := i0
                refine ob_start (L' := M) (by rfl) (up_cons rfl hs17) ?_
                refine l_val (v := .pointer (some ⟨(blk (fa27 17)), 0, none⟩)) rfl rfl rfl (e_fieldPt (b := (blk (fa27 17))) (o := 0) rfl tf27) ?_
                refine l_nil ?_
                exact f_owes_d (up_cons rfl hs17) rfl (List.Perm.refl _)
              · rintro f M ⟨k0, -⟩ -
                have hs211 : f 211 = .pointer (some ⟨(blk (fa27 17)), 0, none⟩) := k0
                refine ob_start (L' := pt (blk (fa27 17)) (.cells (bC x11) 39) :: M) (by rfl) (up_cons rfl hs211) ?_
                refine l_val (v := Ix (x11.id)) rfl rfl rfl (e_load1 tf11 (v := Ix (x11.id)) rfl (k_pt 0 (cs := (bC x11)) (vs := [Ix (x11.id)]) rfl rfl)) ?_
                refine l_nil ?_
                exact f_owes_d (up_cons rfl hs211) rfl (perm_front 0 rfl)
              · rintro f M ⟨k0, k1, -⟩ -
                have hs210 : f 210 = .slice p7 (xl.length) (c8) := k0
                have hs212 : f 212 = Ix (x11.id) := k1
                refine ob_start (L' := M) (by rfl) (up_cons (up_cons rfl hs210) hs212) ?_
                refine l_call rfl rfl rfl (cl_value (fst := []) (cap := []) (vs := [.slice p7 (xl.length) (c8), Ix (x11.id)]) (all := [.slice p7 (xl.length) (c8), Ix (x11.id)]) tf87 rfl rfl rfl) ?_
                intro w hw
                obtain ⟨β1, sb, kn, hw1, back⟩ := St.frame_all hw
                refine (place_ok β1 w hw1 _ xl (Sl.mono _ _ _ _ _ sb hslX) x11.id).mono ?_
                rintro e w' ⟨rfl, hw'⟩
                refine ⟨_, rfl, _, back _ _ hw', ?_⟩
                clear hw hw1 hw' back kn sb
                refine l_nil ?_
                exact f_owes_d (up_cons (up_cons rfl hs210) hs212) rfl (List.Perm.refl _)
              · rintro f M ⟨k0, k1, -⟩ -
                have hs209 : f 209 = Nx (k) := k0
                have hs213 : f 213 = Ix (placeI xl x11.id) := k1
                refine ob_start (L' := M) (by rfl) (up_cons (up_cons rfl hs209) hs213) ?_
                refine l_val (v := .bool true) rfl rfl rfl ((ev_t hg83 (e_neq (a := ((k : Nat) : Int)) (b := (placeI xl x11.id)) rfl rfl))) ?_
                refine l_nil ?_
                exact f_owes_d (up_cons (up_cons rfl hs209) hs213) rfl (List.Perm.refl _)
              · rintro f M ⟨k0, -⟩ -
                have hs214 : f 214 = .bool true := k0
                refine ob_start (L' := M) (by rfl) (up_cons rfl hs214) ?_
                refine l_val (v := .bool true) rfl rfl rfl (e_move) ?_
                refine l_nil ?_
                exact f_owes_d (up_cons rfl hs214) rfl (List.Perm.refl _)
              · rintro f M ⟨k0, -⟩ ⟨i0, -⟩
                have hs24 : f 24 = .slice p54 (ml.length) (c55) := i0
                have hs215 : f 215 = .bool true := k0
                refine ob_start (L' := M) (by rfl) (up_cons (up_cons rfl hs24) hs215) ?_
                refine g_val (v := .slice p54 (ml.length) (c55)) rfl rfl rfl rfl rfl (e_move) ?_
                refine l_nil ?_
                exact f_owes_d (up_cons (up_cons rfl hs24) hs215) rfl (List.Perm.refl _)
              · rintro f M ⟨k0, -⟩ ⟨i0, -⟩
                have hs24 : f 24 = .slice p54 (ml.length) (c55) := i0
                have hs215 : f 215 = .bool true := k0
                refine ob_start (L' := M) (by rfl) (up_cons (up_cons rfl hs24) hs215) ?_
                refine g_val (v := .slice p54 (ml.length) (c55)) rfl rfl rfl rfl rfl (e_move) ?_
                refine l_nil ?_
                exact f_owes_d (up_cons (up_cons rfl hs24) hs215) rfl (List.Perm.refl _)
              · rintro f M ⟨k0, -⟩ ⟨i0, -⟩
                have hs15 : f 15 = .slice p7 (xl.length) (c8) := i0
                have hs215 : f 215 = .bool true := k0
                refine ob_start (L' := M) (by rfl) (up_cons (up_cons rfl hs15) hs215) ?_
                refine g_val (v := .slice p7 (xl.length) (c8)) rfl rfl rfl rfl rfl (e_move) ?_
                refine l_nil ?_
                exact f_owes_d (up_cons (up_cons rfl hs15) hs215) rfl (List.Perm.refl _)
              · rintro f M ⟨k0, -⟩ ⟨i0, -⟩
                have hs30 : f 30 = Nx (k) := i0
                have hs215 : f 215 = .bool true := k0
                refine ob_start (L' := M) (by rfl) (up_cons (up_cons rfl hs30) hs215) ?_
                refine g_val (v := Nx (k)) rfl rfl rfl rfl rfl (e_move) ?_
                refine l_nil ?_
                exact f_owes_d (up_cons (up_cons rfl hs30) hs215) rfl (List.Perm.refl _)
              · rintro f M ⟨k0, k1, k2, -⟩ -
                have hs218 : f 218 = .slice p7 (xl.length) (c8) := k0
                have hs219 : f 219 = Nx (k) := k1
                have hs215 : f 215 = .bool true := k2
                refine ob_start (L' := M) (by rfl) (up_cons (up_cons (up_cons rfl hs218) hs219) hs215) ?_
                refine g_val (v := .pointer (some ((ba p7).add (k * 1)))) rfl rfl rfl rfl rfl (e_indexAddr (k := k) (len := xl.length) (cap := c8) (a := p7) rfl rfl tf21 (by omega) ha86) ?_
                refine l_nil ?_
                exact f_owes_d (up_cons (up_cons (up_cons rfl hs218) hs219) hs215) rfl (List.Perm.refl _)
              · rintro f M ⟨k0, k1, -⟩ -
                have hs220 : f 220 = .pointer (some ((ba p7).add (k * 1))) := k0
                have hs215 : f 215 = .bool true := k1
                refine ob_start (L' := M) (by rfl) (up_cons (up_cons rfl hs220) hs215) ?_
                refine g_val (v := .slice a92 (x84.length) (c93)) rfl rfl rfl rfl rfl (e_load1 tf22 (v := .slice a92 (x84.length) (c93)) rfl (Knows.of_base (Cs.mono _ _) hc88)) ?_
                refine l_nil ?_
                exact f_owes_d (up_cons (up_cons rfl hs220) hs215) rfl (List.Perm.refl _)
              · rintro f M ⟨k0, k1, -⟩ -
                have hs221 : f 221 = .slice a92 (x84.length) (c93) := k0
                have hs215 : f 215 = .bool true := k1
                refine ob_start (L' := M) (by rfl) (up_cons (up_cons rfl hs221) hs215) ?_
                refine g_val (v := .pointer (some ((ba a92).add (0 * 1)))) rfl rfl rfl rfl rfl (e_indexAddr (k := 0) (len := x84.length) (cap := c93) (a := a92) rfl rfl tf23 (by omega) ha99) ?_
                refine l_nil ?_
                exact f_owes_d (up_cons (up_cons rfl hs221) hs215) rfl (List.Perm.refl _)
              · rintro f M ⟨k0, k1, -⟩ -
                have hs222 : f 222 = .pointer (some ((ba a92).add (0 * 1))) := k0
                have hs215 : f 215 = .bool true := k1
                refine ob_start (L' := M) (by rfl) (up_cons (up_cons rfl hs222) hs215) ?_
                refine g_val (v := Ix (x97)) rfl rfl rfl rfl rfl (e_load1 tf11 (v := Ix (x97)) rfl (Knows.of_base (Cs.mono _ _) hc101)) ?_
                refine l_nil ?_
                exact f_owes_d (up_cons (up_cons rfl hs222) hs215) rfl (List.Perm.refl _)
              · rintro f M ⟨k0, k1, k2, -⟩ -
                have hs217 : f 217 = .slice p54 (ml.length) (c55) := k0
                have hs223 : f 223 = Ix (x97) := k1
                have hs215 : f 215 = .bool true := k2
                refine ob_start (L' := M) (by rfl) (up_cons (up_cons (up_cons rfl hs217) hs223) hs215) ?_
                refine g_call rfl rfl rfl rfl rfl (cl_value (fst := []) (cap := []) (vs := [.slice p54 (ml.length) (c55), Ix (x97)]) (all := [.slice p54 (ml.length) (c55), Ix (x97)]) tf87 rfl rfl rfl) ?_
                intro w hw
                obtain ⟨β1, sb, kn, hw1, back⟩ := St.frame_all hw
                refine (placeN_ok β1 w hw1 _ ml (Sl.mono _ _ _ _ _ sb hslM) x97 km103 hkm103).mono ?_
                rintro e w' ⟨rfl, hw'⟩
                refine ⟨_, rfl, _, back _ _ hw', ?_⟩
                clear hw hw1 hw' back kn sb
                refine l_nil ?_
                exact f_owes_d (up_cons (up_cons (up_cons rfl hs217) hs223) hs215) rfl (List.Perm.refl _)
              · rintro f M ⟨k0, k1, k2, -⟩ -
                have hs216 : f 216 = .slice p54 (ml.length) (c55) := k0
                have hs224 : f 224 = Nx (km103) := k1
                have hs215 : f 215 = .bool true := k2
                refine ob_start (L' := M) (by rfl) (up_cons (up_cons (up_cons rfl hs216) hs224) hs215) ?_
                refine g_val (v := .pointer (some ((ba p54).add (km103 * 1)))) rfl rfl rfl rfl rfl (e_indexAddr (k := km103) (len := ml.length) (cap := c55) (a := p54) rfl rfl tf21 (by omega) ha106) ?_
                refine l_nil ?_
                exact f_owes_d (up_cons (up_cons (up_cons rfl hs216) hs224) hs215) rfl (List.Perm.refl _)
              · rintro f M ⟨k0, k1, -⟩ -
                have hs225 : f 225 = .pointer (some ((ba p54).add (km103 * 1))) := k0
                have hs215 : f 215 = .bool true := k1
                refine ob_start (L' := M) (by rfl) (up_cons (up_cons rfl hs225) hs215) ?_
                refine g_val (v := .slice a112 (x104.length) (c113)) rfl rfl rfl rfl rfl (e_load1 tf22 (v := .slice a112 (x104.length) (c113)) rfl (Knows.of_base (Cs.mono _ _) hc108)) ?_
                refine l_nil ?_
                exact f_owes_d (up_cons (up_cons rfl hs225) hs215) rfl (List.Perm.refl _)
              · rintro f M ⟨k0, k1, -⟩ -
                have hs226 : f 226 = .slice a112 (x104.length) (c113) := k0
                have hs215 : f 215 = .bool true := k1
                refine ob_start (L' := M) (by rfl) (up_cons (up_cons rfl hs226) hs215) ?_
                refine g_mv rfl rfl rfl rfl rfl (m_slices tf21 tf38 (vs := [(0, .slice a112 (x104.length) (c113))]) (cells := #[.slice a112 (x104.length) (c113)]) rfl rfl rfl rfl) ?_
                rintro _ _ ⟨b118, rfl, rfl⟩
                refine l_nil ?_
                exact f_owes_d (up_cons (up_cons rfl hs226) hs215) rfl (perm_front 0 rfl)
              · rintro f M ⟨k0, -⟩ ⟨i0, -⟩
                have hs15 : f 15 = .slice p7 (xl.length) (c8) := i0
                have hs215 : f 215 = .bool true := k0
                refine ob_start (L' := M) (by rfl) (up_cons (up_cons rfl hs15) hs215) ?_
                refine g_val (v := .slice p7 (xl.length) (c8)) rfl rfl rfl rfl rfl (e_move) ?_
                refine l_nil ?_
                exact f_owes_d (up_cons (up_cons rfl hs15) hs215) rfl (List.Perm.refl _)
              · rintro f M ⟨k0, -⟩ ⟨i0, -⟩
                have hs30 : f 30 = Nx (k) := i0
                have hs215 : f 215 = .bool true := k0
                refine ob_start (L' := M) (by rfl) (up_cons (up_cons rfl hs30) hs215) ?_
                refine g_val (v := Nx (k)) rfl rfl rfl rfl rfl (e_move) ?_
                refine l_nil ?_
                exact f_owes_d (up_cons (up_cons rfl hs30) hs215) rfl (List.Perm.refl _)
              · rintro f M ⟨k0, -⟩ ⟨i0, -⟩
                have hs30 : f 30 = Nx (k) := i0
                have hs215 : f 215 = .bool true := k0
                refine ob_start (L' := M) (by rfl) (up_cons (up_cons rfl hs30) hs215) ?_
                refine g_val (v := Nx (k)) rfl rfl rfl rfl rfl (e_move) ?_
                refine l_nil ?_
                exact f_owes_d (up_cons (up_cons rfl hs30) hs215) rfl (List.Perm.refl _)
              · rintro f M ⟨k0, k1, -⟩ -
                have hs230 : f 230 = Nx (k) := k0
                have hs215 : f 215 = .bool true := k1
                refine ob_start (L' := M) (by rfl) (up_cons (up_cons rfl hs230) hs215) ?_
                refine g_val (v := Nx (k + 1)) rfl rfl rfl rfl rfl (e_add (a := ((k : Nat) : Int)) (b := (1 : Int)) rfl rfl (i64n (by omega) (by omega))) ?_
                refine l_nil ?_
                exact f_owes_d (up_cons (up_cons rfl hs230) hs215) rfl (List.Perm.refl _)
              · rintro f M ⟨k0, k1, k2, k3, -⟩ -
                have hs228 : f 228 = .slice p7 (xl.length) (c8) := k0
                have hs229 : f 229 = Nx (k) := k1
                have hs231 : f 231 = Nx (k + 1) := k2
                have hs215 : f 215 = .bool true := k3
                refine ob_start (L' := M) (by rfl) (up_cons (up_cons (up_cons (up_cons rfl hs228) hs229) hs231) hs215) ?_
                refine g_val (v := .slice (adv p7 c8 k 1) (zs119.length) ((c8 - k))) rfl rfl rfl rfl rfl (ev_eq (by rw [show zs119.length = (k + 1) - k by omega]) (e_slice_lh (a := p7) (len := xl.length) (cap := c8) (l := k) (h := k + 1) tf21 rfl rfl rfl (by omega) (by omega))) ?_
                refine l_nil ?_
                exact f_owes_d (up_cons (up_cons (up_cons (up_cons rfl hs228) hs229) hs231) hs215) rfl (List.Perm.refl _)
              · rintro f M ⟨k0, k1, k2, -⟩ -
                have hs227 : f 227 = .slice (some ⟨(blk (f 227)), 0, none⟩) 1 1 := k0
                have hs232 : f 232 = .slice (adv p7 c8 k 1) (zs119.length) ((c8 - k)) := k1
                have hs215 : f 215 = .bool true := k2
                refine ob_start (L' := pt (blk (f 227)) (.cells #[.slice a112 (x104.length) (c113)] 41) :: M) (by rfl) (up_cons (up_cons (up_cons rfl hs227) hs232) hs215) ?_
                refine g_call rfl rfl rfl rfl rfl (cl_value (fst := []) (cap := []) (vs := [.slice (some ⟨(blk (f 227)), 0, none⟩) 1 1, .slice (adv p7 c8 k 1) (zs119.length) ((c8 - k))]) (all := [.slice (some ⟨(blk (f 227)), 0, none⟩) 1 1, .slice (adv p7 c8 k 1) (zs119.length) ((c8 - k))]) tf77 rfl rfl rfl) ?_
                intro w hw
                obtain ⟨β1, sb, kn, hw1, back⟩ := St.frame_all hw
                refine (sameL_ok β1 w hw1 _ _ [x104] zs119 (kn _ (k_lists (m := 1) (xss := [x104]) 0 rfl rfl rfl (Nat.le_of_ble_eq_true rfl) (.cons (Knows.of_base (Sl.mono _ _ _) (⟨⟨_, _, rfl, by omega, by omega, he116⟩⟩ : Sl IntF.R _ _ x104)) .nil))) (Sl.mono _ _ _ _ _ sb (⟨⟨_, _, rfl, by omega, by omega, ze122⟩⟩ : Sl IntF.R.slice _ _ zs119))).mono ?_
                rintro e w' ⟨rfl, hw'⟩
                refine ⟨_, rfl, _, back _ _ hw', ?_⟩
                clear hw hw1 hw' back kn sb
                refine l_nil ?_
                exact f_owes_d (up_cons (up_cons (up_cons rfl hs227) hs232) hs215) (congrArg Value.bool (decide_eq_true (by rw [hz120, one_at hx85, Option.some.inj (hx105.symm.trans hkm103m)]))) (perm_front 0 rfl)
              · rintro f M ⟨k0, k1, -⟩ -
                have hs233 : f 233 = .bool true := k0
                have hs215 : f 215 = .bool true := k1
                refine ob_start (L' := M) (by rfl) (up_cons (up_cons rfl hs233) hs215) ?_
                refine g_val (v := .bool false) rfl rfl rfl rfl rfl (e_not (a := true) rfl) ?_
                refine l_nil ?_
                exact f_owes_d (up_cons (up_cons rfl hs233) hs215) rfl (List.Perm.refl _)
              · rintro f M ⟨k0, k1, -⟩ -
                have hs215 : f 215 = .bool true := k0
                have hs234 : f 234 = .bool false := k1
                refine ob_start (L' := M) (by rfl) (up_cons (up_cons rfl hs215) hs234) ?_
                refine l_val (v := .bool false) rfl rfl rfl (e_pick_t rfl) ?_
                refine l_nil ?_
                exact f_owes_d (up_cons (up_cons rfl hs215) hs234) rfl (List.Perm.refl _)
              rintro fa123 ⟨-, -, -, -, -, -, -, -, -, -, -, -, -, -, -, -, -, -, -, -, -, -, -, -, -, -, k26, -⟩ ⟨j0, j1, j2, j3, j4, j5, j6, j7, -⟩
              refine f_re (L' := [pt (blk (fa27 17)) (.cells (bC x11) 39), pt (blk (fa27 18)) (.cells (bC x17) 39), pt (blk (fa123 227)) (.cells #[.slice a112 (x104.length) (c113)] 41)]) (by rfl) ?_
              refine f_rebase (d := 15) (v := .slice p7 (xl.length) (c8)) j0 ?_
              refine f_rebase (d := 17) (v := .pointer (some ⟨(blk (fa27 17)), 0, none⟩)) j1 ?_
              refine f_rebase (d := 18) (v := .pointer (some ⟨(blk (fa27 18)), 0, none⟩)) j2 ?_
              refine f_rebase (d := 24) (v := .slice p54 (ml.length) (c55)) j3 ?_
              refine f_rebase (d := 27) (v := .slice p73 (ol.length) (c74)) j4 ?_
              refine f_rebase (d := 30) (v := Nx (k)) j5 ?_
              refine f_rebase (d := 205) (v := Nx (xl.length)) j6 ?_
              refine f_rebase (d := 206) (v := Nx (k)) j7 ?_
              refine f_rebase (d := 235) (v := .bool false) k26 ?_
              refine f_then ?_
              refine c_no rfl ?_
              refine c_skip ?_
              refine f_then ?_
              refine c_seq ?_
              by_cases hg124 : ((k : Nat) : Int) ≠ (placeI xl x17.id)
              ·
                obtain ⟨km125, hkm125, hkm125m, hkm125l⟩ := more_same hS hO hx85 hg83 hg124 hx98
                obtain ⟨x126, hx127⟩ : ∃ x_, (ol)[km125]? = some x_ := ⟨_, List.getElem?_eq_getElem (by omega)⟩
                obtain ⟨ha128, cs129, hc130, hr131⟩ := heO _ _ hx127
                obtain ⟨v132, rfl, hv133⟩ := hr131
                obtain ⟨a134, c135, rfl, hl136, hm137, he138⟩ := (hv133).get
                refine c_any [⟨[], [], [0], [236], fun f => f 236 = Nx (k)⟩, ⟨[], [], [1], [237], fun f => f 237 = .slice p7 (xl.length) (c8)⟩, ⟨[], [], [2], [238], fun f => f 238 = .pointer (some ⟨(blk (fa27 17)), 0, none⟩)⟩, ⟨[2], [2], [], [239], fun f => f 239 = Ix (x11.id)⟩, ⟨[1, 2, 3], [1, 3], [], [240], fun f => f 240 = Ix (placeI xl x11.id)⟩, ⟨[0, 1, 2, 3, 4], [0, 4], [], [241], fun f => f 241 = .bool true⟩, ⟨[0, 1, 2, 3, 4, 5], [5], [], [242], fun f => f 242 = .bool true⟩, ⟨[0, 1, 2, 3, 4, 5, 6], [6], [0], [243], fun f => f 243 = Nx (k)⟩, ⟨[0, 1, 2, 3, 4, 5, 6], [6], [1], [244], fun f => f 244 = .slice p7 (xl.length) (c8)⟩, ⟨[0, 1, 2, 3, 4, 5, 6], [6], [3], [245], fun f => f 245 = .pointer (some ⟨(blk (fa27 18)), 0, none⟩)⟩, ⟨[0, 1, 2, 3, 4, 5, 6, 9], [9, 6], [], [246], fun f => f 246 = Ix (x17.id)⟩, ⟨[0, 1, 2, 3, 4, 5, 6, 8, 9, 10], [8, 10, 6], [], [247], fun f => f 247 = Ix (placeI xl x17.id)⟩, ⟨[0, 1, 2, 3, 4, 5, 6, 7, 8, 9, 10, 11], [7, 11, 6], [], [248], fun f => f 248 = .bool true⟩, ⟨[0, 1, 2, 3, 4, 5, 6, 7, 8, 9, 10, 11, 12], [6, 12], [], [249], fun f => f 249 = .bool true⟩, ⟨[0, 1, 2, 3, 4, 5, 6, 7, 8, 9, 10, 11, 12, 13], [13], [], [250], fun f => f 250 = .bool true⟩, ⟨[0, 1, 2, 3, 4, 5, 6, 7, 8, 9, 10, 11, 12, 13, 14], [14], [4], [251], fun f => f 251 = .slice p73 (ol.length) (c74)⟩, ⟨[0, 1, 2, 3, 4, 5, 6, 7, 8, 9, 10, 11, 12, 13, 14], [14], [4], [252], fun f => f 252 = .slice p73 (ol.length) (c74)⟩, ⟨[0, 1, 2, 3, 4, 5, 6, 7, 8, 9, 10, 11, 12, 13, 14], [14], [1], [253], fun f => f 253 = .slice p7 (xl.length) (c8)⟩, ⟨[0, 1, 2, 3, 4, 5, 6, 7, 8, 9, 10, 11, 12, 13, 14], [14], [0], [254], fun f => f 254 = Nx (k)⟩, ⟨[0, 1, 2, 3, 4, 5, 6, 7, 8, 9, 10, 11, 12, 13, 14, 17, 18], [17, 18, 14], [], [255], fun f => f 255 = .pointer (some ((ba p7).add (k * 1)))⟩, ⟨[0, 1, 2, 3, 4, 5, 6, 7, 8, 9, 10, 11, 12, 13, 14, 17, 18, 19], [19, 14], [], [256], fun f => f 256 = .slice a92 (x84.length) (c93)⟩, ⟨[0, 1, 2, 3, 4, 5, 6, 7, 8, 9, 10, 11, 12, 13, 14, 17, 18, 19, 20], [20, 14], [], [257], fun f => f 257 = .pointer (some ((ba a92).add (0 * 1)))⟩, ⟨[0, 1, 2, 3, 4, 5, 6, 7, 8, 9, 10, 11, 12, 13, 14, 17, 18, 19, 20, 21], [21, 14], [], [258], fun f => f 258 = Ix (x97)⟩, ⟨[0, 1, 2, 3, 4, 5, 6, 7, 8, 9, 10, 11, 12, 13, 14, 16, 17, 18, 19, 20, 21, 22], [16, 22, 14], [], [259], fun f => f 259 = Nx (km125)⟩, ⟨[0, 1, 2, 3, 4, 5, 6, 7, 8, 9, 10, 11, 12, 13, 14, 15, 16, 17, 18, 19, 20, 21, 22, 23], [15, 23, 14], [], [260], fun f => f 260 = .pointer (some ((ba p73).add (km125 * 1)))⟩, ⟨[0, 1, 2, 3, 4, 5, 6, 7, 8, 9, 10, 11, 12, 13, 14, 15, 16, 17, 18, 19, 20, 21, 22, 23, 24], [24, 14], [], [261], fun f => f 261 = .slice a134 (x126.length) (c135)⟩, ⟨[0, 1, 2, 3, 4, 5, 6, 7, 8, 9, 10, 11, 12, 13, 14, 15, 16, 17, 18, 19, 20, 21, 22, 23, 24, 25], [25, 14], [], [262], fun f => f 262 = .slice (some ⟨(blk (f 262)), 0, none⟩) 1 1⟩, ⟨[0, 1, 2, 3, 4, 5, 6, 7, 8, 9, 10, 11, 12, 13, 14], [14], [1], [263], fun f => f 263 = .slice p7 (xl.length) (c8)⟩, ⟨[0, 1, 2, 3, 4, 5, 6, 7, 8, 9, 10, 11, 12, 13, 14], [14], [0], [264], fun f => f 264 = Nx (k)⟩, ⟨[0, 1, 2, 3, 4, 5, 6, 7, 8, 9, 10, 11, 12, 13, 14], [14], [0], [265], fun f => f 265 = Nx (k)⟩, ⟨[0, 1, 2, 3, 4, 5, 6, 7, 8, 9, 10, 11, 12, 13, 14, 29], [29, 14], [], [266], fun f => f 266 = Nx (k + 1)⟩, ⟨[0, 1, 2, 3, 4, 5, 6, 7, 8, 9, 10, 11, 12, 13, 14, 27, 28, 29, 30], [27, 28, 30, 14], [], [267], fun f => f 267 = .slice (adv p7 c8 k 1) (zs119.length) ((c8 - k))⟩, ⟨[0, 1, 2, 3, 4, 5, 6, 7, 8, 9, 10, 11, 12, 13, 14, 15, 16, 17, 18, 19, 20, 21, 22, 23, 24, 25, 26, 27, 28, 29, 30, 31], [26, 31, 14], [], [268], fun f => f 268 = .bool true⟩, ⟨[0, 1, 2, 3, 4, 5, 6, 7, 8, 9, 10, 11, 12, 13, 14, 15, 16, 17, 18, 19, 20, 21, 22, 23, 24, 25, 26, 27, 28, 29, 30, 31, 32], [32, 14], [], [269], fun f => f 269 = .bool false⟩, ⟨[0, 1, 2, 3, 4, 5, 6, 7, 8, 9, 10, 11, 12, 13, 14, 15, 16, 17, 18, 19, 20, 21, 22, 23, 24, 25, 26, 27, 28, 29, 30, 31, 32, 33], [14, 33], [], [270], fun f => f 270 = .bool false⟩] [⟨none, none, [3], [], fun _ => pt (blk (fa27 17)) (.cells (bC x11) 39)⟩, ⟨none, none, [10], [], fun _ => pt (blk (fa27 18)) (.cells (bC x17) 39)⟩, ⟨none, none, [], [], fun _ => pt (blk (fa123 227)) (.cells #[.slice a112 (x104.length) (c113)] 41)⟩, ⟨(some 26), none, [32], [262], fun f => pt (blk (f 262)) (.cells #[.slice a134 (x126.length) (c135)] 41)⟩] [(30, Nx (k)), (15, .slice p7 (xl.length) (c8)), (17, .pointer (some ⟨(blk (fa27 17)), 0, none⟩)), (18, .pointer (some ⟨(blk (fa27 18)), 0, none⟩)), (27, .slice p73 (ol.length) (c74)), (24, .slice p54 (ml.length) (c55)), (205, Nx (xl.length)), (206, Nx (k))] [1, 2, 3, 5, 4, 6, 7] [] (by kernel_rfl) (by kernel_rfl) (by kernel_rfl) (by kernel_rfl) rfl ⟨rfl, rfl, rfl, rfl, rfl, rfl, rfl, rfl, trivial⟩ ⟨?_, ?_, ?_, ?_, ?_, ?_, ?_, ?_, ?_, ?_, ?_, ?_, ?_, ?_, ?_, ?_, ?_, ?_, ?_, ?_, ?_, ?_, ?_, ?_, ?_, ?_, ?_, ?_, ?_, ?_, ?_, ?_, ?_, ?_, ?_, trivial⟩ ?_
                · rintro f M - ⟨i0, -⟩
                  have hs30 : f 30 = Nx (k) := i0
                  refine ob_start (L' := M) (by rfl) (up_cons rfl hs30) ?_
                  refine l_val (v := Nx (k)) rfl rfl rfl (e_move) ?_
                  refine l_nil ?_
                  exact f_owes_d (up_cons rfl hs30) rfl (List.Perm.refl _)
                · rintro f M - ⟨i0, -⟩
                  have hs15 : f 15 = .slice p7 (xl.length) (c8) := i0
                  refine ob_start (L' := M) (by rfl) (up_cons rfl hs15) ?_
                  refine l_val (v := .slice p7 (xl.length) (c8)) rfl rfl rfl (e_move) ?_
                  refine l_nil ?_
                  exact f_owes_d (up_cons rfl hs15) rfl (List.Perm.refl _)
                · rintro f M - ⟨i0, -⟩
                  have hs17 : f 17 = .pointer (some ⟨(blk (fa27 17)), 0, none⟩) := i0
                  refine ob_start (L' := M) (by rfl) (up_cons rfl hs17) ?_
                  refine l_val (v := .pointer (some ⟨(blk (fa27 17)), 0, none⟩)) rfl rfl rfl (e_fieldPt (b := (blk (fa27 17))) (o := 0) rfl tf27) ?_
                  refine l_nil ?_
                  exact f_owes_d (up_cons rfl hs17) rfl (List.Perm.refl _)
                · rintro f M ⟨k0, -⟩ -
                  have hs238 : f 238 = .pointer (some ⟨(blk (fa27 17)), 0, none⟩) := k0
                  refine ob_start (L' := pt (blk (fa27 17)) (.cells (bC x11) 39) :: M) (by rfl) (up_cons rfl hs238) ?_
                  refine l_val (v := Ix (x11.id)) rfl rfl rfl (e_load1 tf11 (v := Ix (x11.id)) rfl (k_pt 0 (cs := (bC x11)) (vs := [Ix (x11.id)]) rfl rfl)) ?_
                  refine l_nil ?_
                  exact f_owes_d (up_cons rfl hs238) rfl (perm_front 0 rfl)
                · rintro f M ⟨k0, k1, -⟩ -
                  have hs237 : f 237 = .slice p7 (xl.length) (c8) := k0
                  have hs239 : f 239 = Ix (x11.id) := k1
                  refine ob_start (L' := M) (by rfl) (up_cons (up_cons rfl hs237) hs239) ?_
                  refine l_call rfl rfl rfl (cl_value (fst := []) (cap := []) (vs := [.slice p7 (xl.length) (c8), Ix (x11.id)]) (all := [.slice p7 (xl.length) (c8), Ix (x11.id)]) tf87 rfl rfl rfl) ?_
                  intro w hw
                  obtain ⟨β1, sb, kn, hw1, back⟩ := St.frame_all hw
                  refine (place_ok β1 w hw1 _ xl (Sl.mono _ _ _ _ _ sb hslX) x11.id).mono ?_
                  rintro e w' ⟨rfl, hw'⟩
                  refine ⟨_, rfl, _, back _ _ hw', ?_⟩
                  clear hw hw1 hw' back kn sb
                  refine l_nil ?_
                  exact f_owes_d (up_cons (up_cons rfl hs237) hs239) rfl (List.Perm.refl _)
                · rintro f M ⟨k0, k1, -⟩ -
                  have hs236 : f 236 = Nx (k) := k0
                  have hs240 : f 240 = Ix (placeI xl x11.id) := k1
                  refine ob_start (L' := M) (by rfl) (up_cons (up_cons rfl hs236) hs240) ?_
                  refine l_val (v := .bool true) rfl rfl rfl ((ev_t hg83 (e_neq (a := ((k : Nat) : Int)) (b := (placeI xl x11.id)) rfl rfl))) ?_
                  refine l_nil ?_
                  exact f_owes_d (up_cons (up_cons rfl hs236) hs240) rfl (List.Perm.refl _)
                · rintro f M ⟨k0, -⟩ -
                  have hs241 : f 241 = .bool true := k0
                  refine ob_start (L' := M) (by rfl) (up_cons rfl hs241) ?_
                  refine l_val (v := .bool true) rfl rfl rfl (e_move) ?_
                  refine l_nil ?_
                  exact f_owes_d (up_cons rfl hs241) rfl (List.Perm.refl _)
                · rintro f M ⟨k0, -⟩ ⟨i0, -⟩
                  have hs30 : f 30 = Nx (k) := i0
                  have hs242 : f 242 = .bool true := k0
                  refine ob_start (L' := M) (by rfl) (up_cons (up_cons rfl hs30) hs242) ?_
                  refine g_val (v := Nx (k)) rfl rfl rfl rfl rfl (e_move) ?_
                  refine l_nil ?_
                  exact f_owes_d (up_cons (up_cons rfl hs30) hs242) rfl (List.Perm.refl _)
                · rintro f M ⟨k0, -⟩ ⟨i0, -⟩
                  have hs15 : f 15 = .slice p7 (xl.length) (c8) := i0
                  have hs242 : f 242 = .bool true := k0
                  refine ob_start (L' := M) (by rfl) (up_cons (up_cons rfl hs15) hs242) ?_
                  refine g_val (v := .slice p7 (xl.length) (c8)) rfl rfl rfl rfl rfl (e_move) ?_
                  refine l_nil ?_
                  exact f_owes_d (up_cons (up_cons rfl hs15) hs242) rfl (List.Perm.refl _)
                · rintro f M ⟨k0, -⟩ ⟨i0, -⟩
                  have hs18 : f 18 = .pointer (some ⟨(blk (fa27 18)), 0, none⟩) := i0
                  have hs242 : f 242 = .bool true := k0
                  refine ob_start (L' := M) (by rfl) (up_cons (up_cons rfl hs18) hs242) ?_
                  refine g_val (v := .pointer (some ⟨(blk (fa27 18)), 0, none⟩)) rfl rfl rfl rfl rfl (e_fieldPt (b := (blk (fa27 18))) (o := 0) rfl tf27) ?_
                  refine l_nil ?_
                  exact f_owes_d (up_cons (up_cons rfl hs18) hs242) rfl (List.Perm.refl _)
                · rintro f M ⟨k0, k1, -⟩ -
                  have hs245 : f 245 = .pointer (some ⟨(blk (fa27 18)), 0, none⟩) := k0
                  have hs242 : f 242 = .bool true := k1
                  refine ob_start (L' := pt (blk (fa27 18)) (.cells (bC x17) 39) :: M) (by rfl) (up_cons (up_cons rfl hs245) hs242) ?_
                  refine g_val (v := Ix (x17.id)) rfl rfl rfl rfl rfl (e_load1 tf11 (v := Ix (x17.id)) rfl (k_pt 0 (cs := (bC x17)) (vs := [Ix (x17.id)]) rfl rfl)) ?_
                  refine l_nil ?_
                  exact f_owes_d (up_cons (up_cons rfl hs245) hs242) rfl (perm_front 0 rfl)
                · rintro f M ⟨k0, k1, k2, -⟩ -
                  have hs244 : f 244 = .slice p7 (xl.length) (c8) := k0
                  have hs246 : f 246 = Ix (x17.id) := k1
                  have hs242 : f 242 = .bool true := k2
                  refine ob_start (L' := M) (by rfl) (up_cons (up_cons (up_cons rfl hs244) hs246) hs242) ?_
                  refine g_call rfl rfl rfl rfl rfl (cl_value (fst := []) (cap := []) (vs := [.slice p7 (xl.length) (c8), Ix (x17.id)]) (all := [.slice p7 (xl.length) (c8), Ix (x17.id)]) tf87 rfl rfl rfl) ?_
                  intro w hw
                  obtain ⟨β1, sb, kn, hw1, back⟩ := St.frame_all hw
                  refine (place_ok β1 w hw1 _ xl (Sl.mono _ _ _ _ _ sb hslX) x17.id).mono ?_
                  rintro e w' ⟨rfl, hw'⟩
                  refine ⟨_, rfl, _, back _ _ hw', ?_⟩
                  clear hw hw1 hw' back kn sb
                  refine l_nil ?_
                  exact f_owes_d (up_cons (up_cons (up_cons rfl hs244) hs246) hs242) rfl (List.Perm.refl _)
                · rintro f M ⟨k0, k1, k2, -⟩ -
                  have hs243 : f 243 = Nx (k) := k0
                  have hs247 : f 247 = Ix (placeI xl x17.id) := k1
                  have hs242 : f 242 = .bool true := k2
                  refine ob_start (L' := M) (by rfl) (up_cons (up_cons (up_cons rfl hs243) hs247) hs242) ?_
                  refine g_val (v := .bool true) rfl rfl rfl rfl rfl ((ev_t hg124 (e_neq (a := ((k : Nat) : Int)) (b := (placeI xl x17.id)) rfl rfl))) ?_
                  refine l_nil ?_
                  exact f_owes_d (up_cons (up_cons (up_cons rfl hs243) hs247) hs242) rfl (List.Perm.refl _)
                · rintro f M ⟨k0, k1, -⟩ -
                  have hs242 : f 242 = .bool true := k0
                  have hs248 : f 248 = .bool true := k1
                  refine ob_start (L' := M) (by rfl) (up_cons (up_cons rfl hs242) hs248) ?_
                  refine l_val (v := .bool true) rfl rfl rfl (e_pick_t rfl) ?_
                  refine l_nil ?_
                  exact f_owes_d (up_cons (up_cons rfl hs242) hs248) rfl (List.Perm.refl _)
                · rintro f M ⟨k0, -⟩ -
                  have hs249 : f 249 = .bool true := k0
                  refine ob_start (L' := M) (by rfl) (up_cons rfl hs249) ?_
                  refine l_val (v := .bool true) rfl rfl rfl (e_move) ?_
                  refine l_nil ?_
                  exact f_owes_d (up_cons rfl hs249) rfl (List.Perm.refl _)
                · rintro f M ⟨k0, -⟩ ⟨i0, -⟩
                  have hs27 : f 27 = .slice p73 (ol.length) (c74) := i0
                  have hs250 : f 250 = .bool true := k0
                  refine ob_start (L' := M) (by rfl) (up_cons (up_cons rfl hs27) hs250) ?_
                  refine g_val (v := .slice p73 (ol.length) (c74)) rfl rfl rfl rfl rfl (e_move) ?_
                  refine l_nil ?_
                  exact f_owes_d (up_cons (up_cons rfl hs27) hs250) rfl (List.Perm.refl _)
                · rintro f M ⟨k0, -⟩ ⟨i0, -⟩
                  have hs27 : f 27 = .slice p73 (ol.length) (c74) := i0
                  have hs250 : f 250 = .bool true := k0
                  refine ob_start (L' := M) (by rfl) (up_cons (up_cons rfl hs27) hs250) ?_
                  refine g_val (v := .slice p73 (ol.length) (c74)) rfl rfl rfl rfl rfl (e_move) ?_
                  refine l_nil ?_
                  exact f_owes_d (up_cons (up_cons rfl hs27) hs250) rfl (List.Perm.refl _)
                · rintro f M ⟨k0, -⟩ ⟨i0, -⟩
                  have hs15 : f 15 = .slice p7 (xl.length) (c8) := i0
                  have hs250 : f 250 = .bool true := k0
                  refine ob_start (L' := M) (by rfl) (up_cons (up_cons rfl hs15) hs250) ?_
                  refine g_val (v := .slice p7 (xl.length) (c8)) rfl rfl rfl rfl rfl (e_move) ?_
                  refine l_nil ?_
                  exact f_owes_d (up_cons (up_cons rfl hs15) hs250) rfl (List.Perm.refl _)
                · rintro f M ⟨k0, -⟩ ⟨i0, -⟩
                  have hs30 : f 30 = Nx (k) := i0
                  have hs250 : f 250 = .bool true := k0
                  refine ob_start (L' := M) (by rfl) (up_cons (up_cons rfl hs30) hs250) ?_
                  refine g_val (v := Nx (k)) rfl rfl rfl rfl rfl (e_move) ?_
                  refine l_nil ?_
                  exact f_owes_d (up_cons (up_cons rfl hs30) hs250) rfl (List.Perm.refl _)
                · rintro f M ⟨k0, k1, k2, -⟩ -
                  have hs253 : f 253 = .slice p7 (xl.length) (c8) := k0
                  have hs254 : f 254 = Nx (k) := k1
                  have hs250 : f 250 = .bool true := k2
                  refine ob_start (L' := M) (by rfl) (up_cons (up_cons (up_cons rfl hs253) hs254) hs250) ?_
                  refine g_val (v := .pointer (some ((ba p7).add (k * 1)))) rfl rfl rfl rfl rfl (e_indexAddr (k := k) (len := xl.length) (cap := c8) (a := p7) rfl rfl tf21 (by omega) ha86) ?_
                  refine l_nil ?_
                  exact f_owes_d (up_cons (up_cons (up_cons rfl hs253) hs254) hs250) rfl (List.Perm.refl _)
                · rintro f M ⟨k0, k1, -⟩ -
                  have hs255 : f 255 = .pointer (some ((ba p7).add (k * 1))) := k0
                  have hs250 : f 250 = .bool true := k1
                  refine ob_start (L' := M) (by rfl) (up_cons (up_cons rfl hs255) hs250) ?_
                  refine g_val (v := .slice a92 (x84.length) (c93)) rfl rfl rfl rfl rfl (e_load1 tf22 (v := .slice a92 (x84.length) (c93)) rfl (Knows.of_base (Cs.mono _ _) hc88)) ?_
                  refine l_nil ?_
                  exact f_owes_d (up_cons (up_cons rfl hs255) hs250) rfl (List.Perm.refl _)
                · rintro f M ⟨k0, k1, -⟩ -
                  have hs256 : f 256 = .slice a92 (x84.length) (c93) := k0
                  have hs250 : f 250 = .bool true := k1
                  refine ob_start (L' := M) (by rfl) (up_cons (up_cons rfl hs256) hs250) ?_
                  refine g_val (v := .pointer (some ((ba a92).add (0 * 1)))) rfl rfl rfl rfl rfl (e_indexAddr (k := 0) (len := x84.length) (cap := c93) (a := a92) rfl rfl tf23 (by omega) ha99) ?_
                  refine l_nil ?_
                  exact f_owes_d (up_cons (up_cons rfl hs256) hs250) rfl (List.Perm.refl _)
                · rintro f M ⟨k0, k1, -⟩ -
                  have hs257 : f 257 = .pointer (some ((ba a92).add (0 * 1))) := k0
                  have hs250 : f 250 = .bool true := k1
                  refine ob_start (L' := M) (by rfl) (up_cons (up_cons rfl hs257) hs250) ?_
                  refine g_val (v := Ix (x97)) rfl rfl rfl rfl rfl (e_load1 tf11 (v := Ix (x97)) rfl (Knows.of_base (Cs.mono _ _) hc101)) ?_
                  refine l_nil ?_
                  exact f_owes_d (up_cons (up_cons rfl hs257) hs250) rfl (List.Perm.refl _)
                · rintro f M ⟨k0, k1, k2, -⟩ -
                  have hs252 : f 252 = .slice p73 (ol.length) (c74) := k0
                  have hs258 : f 258 = Ix (x97) := k1
                  have hs250 : f 250 = .bool true := k2
                  refine ob_start (L' := M) (by rfl) (up_cons (up_cons (up_cons rfl hs252) hs258) hs250) ?_
                  refine g_call rfl rfl rfl rfl rfl (cl_value (fst := []) (cap := []) (vs := [.slice p73 (ol.length) (c74), Ix (x97)]) (all := [.slice p73 (ol.length) (c74), Ix (x97)]) tf87 rfl rfl rfl) ?_
                  intro w hw
                  obtain ⟨β1, sb, kn, hw1, back⟩ := St.frame_all hw
                  refine (placeN_ok β1 w hw1 _ ol (Sl.mono _ _ _ _ _ sb hslO) x97 km125 hkm125).mono ?_
                  rintro e w' ⟨rfl, hw'⟩
                  refine ⟨_, rfl, _, back _ _ hw', ?_⟩
                  clear hw hw1 hw' back kn sb
                  refine l_nil ?_
                  exact f_owes_d (up_cons (up_cons (up_cons rfl hs252) hs258) hs250) rfl (List.Perm.refl _)
                · rintro f M ⟨k0, k1, k2, -⟩ -
                  have hs251 : f 251 = .slice p73 (ol.length) (c74) := k0
                  have hs259 : f 259 = Nx (km125) := k1
                  have hs250 : f 250 = .bool true := k2
                  refine ob_start (L' := M) (by rfl) (up_cons (up_cons (up_cons rfl hs251) hs259) hs250) ?_
                  refine g_val (v := .pointer (some ((ba p73).add (km125 * 1)))) rfl rfl rfl rfl rfl (e_indexAddr (k := km125) (len := ol.length) (cap := c74) (a := p73) rfl rfl tf21 (by omega) ha128) ?_
                  refine l_nil ?_
                  exact f_owes_d (up_cons (up_cons (up_cons rfl hs251) hs259) hs250) rfl (List.Perm.refl _)
                · rintro f M ⟨k0, k1, -⟩ -
                  have hs260 : f 260 = .pointer (some ((ba p73).add (km125 * 1))) := k0
                  have hs250 : f 250 = .bool true := k1
                  refine ob_start (L' := M) (by rfl) (up_cons (up_cons rfl hs260) hs250) ?_
                  refine g_val (v := .slice a134 (x126.length) (c135)) rfl rfl rfl rfl rfl (e_load1 tf22 (v := .slice a134 (x126.length) (c135)) rfl (Knows.of_base (Cs.mono _ _) hc130)) ?_
                  refine l_nil ?_
                  exact f_owes_d (up_cons (up_cons rfl hs260) hs250) rfl (List.Perm.refl _)
                · rintro f M ⟨k0, k1, -⟩ -
                  have hs261 : f 261 = .slice a134 (x126.length) (c135) := k0
                  have hs250 : f 250 = .bool true := k1
                  refine ob_start (L' := M) (by rfl) (up_cons (up_cons rfl hs261) hs250) ?_
                  refine g_mv rfl rfl rfl rfl rfl (m_slices tf21 tf38 (vs := [(0, .slice a134 (x126.length) (c135))]) (cells := #[.slice a134 (x126.length) (c135)]) rfl rfl rfl rfl) ?_
                  rintro _ _ ⟨b140, rfl, rfl⟩
                  refine l_nil ?_
                  exact f_owes_d (up_cons (up_cons rfl hs261) hs250) rfl (perm_front 0 rfl)
                · rintro f M ⟨k0, -⟩ ⟨i0, -⟩
                  have hs15 : f 15 = .slice p7 (xl.length) (c8) := i0
                  have hs250 : f 250 = .bool true := k0
                  refine ob_start (L' := M) (by rfl) (up_cons (up_cons rfl hs15) hs250) ?_
                  refine g_val (v := .slice p7 (xl.length) (c8)) rfl rfl rfl rfl rfl (e_move) ?_
                  refine l_nil ?_
                  exact f_owes_d (up_cons (up_cons rfl hs15) hs250) rfl (List.Perm.refl _)
                · rintro f M ⟨k0, -⟩ ⟨i0, -⟩
                  have hs30 : f 30 = Nx (k) := i0
                  have hs250 : f 250 = .bool true := k0
                  refine ob_start (L' := M) (by rfl) (up_cons (up_cons rfl hs30) hs250) ?_
                  refine g_val (v := Nx (k)) rfl rfl rfl rfl rfl (e_move) ?_
                  refine l_nil ?_
                  exact f_owes_d (up_cons (up_cons rfl hs30) hs250) rfl (List.Perm.refl _)
                · rintro f M ⟨k0, -⟩ ⟨i0, -⟩
                  have hs30 : f 30 = Nx (k) := i0
                  have hs250 : f 250 = .bool true := k0
                  refine ob_start (L' := M) (by rfl) (up_cons (up_cons rfl hs30) hs250) ?_
                  refine g_val (v := Nx (k)) rfl rfl rfl rfl rfl (e_move) ?_
                  refine l_nil ?_
                  exact f_owes_d (up_cons (up_cons rfl hs30) hs250) rfl (List.Perm.refl _)
                · rintro f M ⟨k0, k1, -⟩ -
                  have hs265 : f 265 = Nx (k) := k0
                  have hs250 : f 250 = .bool true := k1
                  refine ob_start (L' := M) (by rfl) (up_cons (up_cons rfl hs265) hs250) ?_
                  refine g_val (v := Nx (k + 1)) rfl rfl rfl rfl rfl (e_add (a := ((k : Nat) : Int)) (b := (1 : Int)) rfl rfl (i64n (by omega) (by omega))) ?_
                  refine l_nil ?_
                  exact f_owes_d (up_cons (up_cons rfl hs265) hs250) rfl (List.Perm.refl _)
                · rintro f M ⟨k0, k1, k2, k3, -⟩ -
                  have hs263 : f 263 = .slice p7 (xl.length) (c8) := k0
                  have hs264 : f 264 = Nx (k) := k1
                  have hs266 : f 266 = Nx (k + 1) := k2
                  have hs250 : f 250 = .bool true := k3
                  refine ob_start (L' := M) (by rfl) (up_cons (up_cons (up_cons (up_cons rfl hs263) hs264) hs266) hs250) ?_
                  refine g_val (v := .slice (adv p7 c8 k 1) (zs119.length) ((c8 - k))) rfl rfl rfl rfl rfl (ev_eq (by rw [show zs119.length = (k + 1) - k by omega]) (e_slice_lh (a := p7) (len := xl.length) (cap := c8) (l := k) (h := k + 1) tf21 rfl rfl rfl (by omega) (by omega))) ?_
                  refine l_nil ?_
                  exact f_owes_d (up_cons (up_cons (up_cons (up_cons rfl hs263) hs264) hs266) hs250) rfl (List.Perm.refl _)
                · rintro f M ⟨k0, k1, k2, -⟩ -
                  have hs262 : f 262 = .slice (some ⟨(blk (f 262)), 0, none⟩) 1 1 := k0
                  have hs267 : f 267 = .slice (adv p7 c8 k 1) (zs119.length) ((c8 - k)) := k1
                  have hs250 : f 250 = .bool true := k2
                  refine ob_start (L' := pt (blk (f 262)) (.cells #[.slice a134 (x126.length) (c135)] 41) :: M) (by rfl) (up_cons (up_cons (up_cons rfl hs262) hs267) hs250) ?_
                  refine g_call rfl rfl rfl rfl rfl (cl_value (fst := []) (cap := []) (vs := [.slice (some ⟨(blk (f 262)), 0, none⟩) 1 1, .slice (adv p7 c8 k 1) (zs119.length) ((c8 - k))]) (all := [.slice (some ⟨(blk (f 262)), 0, none⟩) 1 1, .slice (adv p7 c8 k 1) (zs119.length) ((c8 - k))]) tf77 rfl rfl rfl) ?_
                  intro w hw
                  obtain ⟨β1, sb, kn, hw1, back⟩ := St.frame_all hw
                  refine (sameL_ok β1 w hw1 _ _ [x126] zs119 (kn _ (k_lists (m := 1) (xss := [x126]) 0 rfl rfl rfl (Nat.le_of_ble_eq_true rfl) (.cons (Knows.of_base (Sl.mono _ _ _) (⟨⟨_, _, rfl, by omega, by omega, he138⟩⟩ : Sl IntF.R _ _ x126)) .nil))) (Sl.mono _ _ _ _ _ sb (⟨⟨_, _, rfl, by omega, by omega, ze122⟩⟩ : Sl IntF.R.slice _ _ zs119))).mono ?_
                  rintro e w' ⟨rfl, hw'⟩
                  refine ⟨_, rfl, _, back _ _ hw', ?_⟩
                  clear hw hw1 hw' back kn sb
                  refine l_nil ?_
                  exact f_owes_d (up_cons (up_cons (up_cons rfl hs262) hs267) hs250) (congrArg Value.bool (decide_eq_true (by rw [hz120, one_at hx85, Option.some.inj (hx127.symm.trans hkm125m)]))) (perm_front 0 rfl)
                · rintro f M ⟨k0, k1, -⟩ -
                  have hs268 : f 268 = .bool true := k0
                  have hs250 : f 250 = .bool true := k1
                  refine ob_start (L' := M) (by rfl) (up_cons (up_cons rfl hs268) hs250) ?_
                  refine g_val (v := .bool false) rfl rfl rfl rfl rfl (e_not (a := true) rfl) ?_
                  refine l_nil ?_
                  exact f_owes_d (up_cons (up_cons rfl hs268) hs250) rfl (List.Perm.refl _)
                · rintro f M ⟨k0, k1, -⟩ -
                  have hs250 : f 250 = .bool true := k0
                  have hs269 : f 269 = .bool false := k1
                  refine ob_start (L' := M) (by rfl) (up_cons (up_cons rfl hs250) hs269) ?_
                  refine l_val (v := .bool false) rfl rfl rfl (e_pick_t rfl) ?_
                  refine l_nil ?_
                  exact f_owes_d (up_cons (up_cons rfl hs250) hs269) rfl (List.Perm.refl _)
                rintro fa141 ⟨-, -, -, -, -, -, -, -, -, -, -, -, -, -, -, -, -, -, -, -, -, -, -, -, -, -, -, -, -, -, -, -, -, -, k34, -⟩ ⟨j0, j1, j2, j3, j4, j5, j6, -⟩
                refine f_re (L' := [pt (blk (fa27 17)) (.cells (bC x11) 39), pt (blk (fa27 18)) (.cells (bC x17) 39), pt (blk (fa123 227)) (.cells #[.slice a112 (x104.length) (c113)] 41), pt (blk (fa141 262)) (.cells #[.slice a134 (x126.length) (c135)] 41)]) (by rfl) ?_
                refine f_rebase (d := 15) (v := .slice p7 (xl.length) (c8)) j0 ?_
                refine f_rebase (d := 17) (v := .pointer (some ⟨(blk (fa27 17)), 0, none⟩)) j1 ?_
                refine f_rebase (d := 18) (v := .pointer (some ⟨(blk (fa27 18)), 0, none⟩)) j2 ?_
                refine f_rebase (d := 24) (v := .slice p54 (ml.length) (c55)) j3 ?_
                refine f_rebase (d := 27) (v := .slice p73 (ol.length) (c74)) j4 ?_
                refine f_rebase (d := 205) (v := Nx (xl.length)) j5 ?_
                refine f_rebase (d := 206) (v := Nx (k)) j6 ?_
                refine f_rebase (d := 270) (v := .bool false) k34 ?_
                refine f_then ?_
                refine c_no rfl ?_
                refine c_skip ?_
                refine f_block ?_
                refine f_then ?_
                refine c_region ?_
                refine l_val (v := Nx (k + 1)) rfl rfl rfl (e_add (a := ((k : Nat) : Int)) (b := (1 : Int)) rfl rfl (i64n (by omega) (by omega))) ?_
                refine l_val (v := Nx (k + 1)) rfl rfl rfl (e_move) ?_
                refine l_nil ?_
                refine f_mask (L' := [pt (blk (fa27 17)) (.cells (bC x11) 39), pt (blk (fa27 18)) (.cells (bC x17) 39)]) [true, true, false, false] rfl ?_
                exact f_cut ⟨k + 1, ⟨⟨rfl, rfl, rfl, rfl, rfl, rfl, rfl⟩, rfl, by omega⟩, (show xl.length - (k + 1) < xl.length - k from by omega)⟩
              ·
                refine c_any [⟨[], [], [0], [236], fun f => f 236 = Nx (k)⟩, ⟨[], [], [1], [237], fun f => f 237 = .slice p7 (xl.length) (c8)⟩, ⟨[], [], [2], [238], fun f => f 238 = .pointer (some ⟨(blk (fa27 17)), 0, none⟩)⟩, ⟨[2], [2], [], [239], fun f => f 239 = Ix (x11.id)⟩, ⟨[1, 2, 3], [1, 3], [], [240], fun f => f 240 = Ix (placeI xl x11.id)⟩, ⟨[0, 1, 2, 3, 4], [0, 4], [], [241], fun f => f 241 = .bool true⟩, ⟨[0, 1, 2, 3, 4, 5], [5], [], [242], fun f => f 242 = .bool true⟩, ⟨[0, 1, 2, 3, 4, 5, 6], [6], [0], [243], fun f => f 243 = Nx (k)⟩, ⟨[0, 1, 2, 3, 4, 5, 6], [6], [1], [244], fun f => f 244 = .slice p7 (xl.length) (c8)⟩, ⟨[0, 1, 2, 3, 4, 5, 6], [6], [3], [245], fun f => f 245 = .pointer (some ⟨(blk (fa27 18)), 0, none⟩)⟩, ⟨[0, 1, 2, 3, 4, 5, 6, 9], [9, 6], [], [246], fun f => f 246 = Ix (x17.id)⟩, ⟨[0, 1, 2, 3, 4, 5, 6, 8, 9, 10], [8, 10, 6], [], [247], fun f => f 247 = Ix (placeI xl x17.id)⟩, ⟨[0, 1, 2, 3, 4, 5, 6, 7, 8, 9, 10, 11], [7, 11, 6], [], [248], fun f => f 248 = .bool false⟩, ⟨[0, 1, 2, 3, 4, 5, 6, 7, 8, 9, 10, 11, 12], [6, 12], [], [249], fun f => f 249 = .bool false⟩, ⟨[0, 1, 2, 3, 4, 5, 6, 7, 8, 9, 10, 11, 12, 13], [13], [], [250], fun f => f 250 = .bool false⟩, ⟨[0, 1, 2, 3, 4, 5, 6, 7, 8, 9, 10, 11, 12, 13, 14], [14], [4], [251], fun f => f 251 = undef⟩, ⟨[0, 1, 2, 3, 4, 5, 6, 7, 8, 9, 10, 11, 12, 13, 14], [14], [4], [252], fun f => f 252 = undef⟩, ⟨[0, 1, 2, 3, 4, 5, 6, 7, 8, 9, 10, 11, 12, 13, 14], [14], [1], [253], fun f => f 253 = undef⟩, ⟨[0, 1, 2, 3, 4, 5, 6, 7, 8, 9, 10, 11, 12, 13, 14], [14], [0], [254], fun f => f 254 = undef⟩, ⟨[0, 1, 2, 3, 4, 5, 6, 7, 8, 9, 10, 11, 12, 13, 14, 17, 18], [17, 18, 14], [], [255], fun f => f 255 = undef⟩, ⟨[0, 1, 2, 3, 4, 5, 6, 7, 8, 9, 10, 11, 12, 13, 14, 17, 18, 19], [19, 14], [], [256], fun f => f 256 = undef⟩, ⟨[0, 1, 2, 3, 4, 5, 6, 7, 8, 9, 10, 11, 12, 13, 14, 17, 18, 19, 20], [20, 14], [], [257], fun f => f 257 = undef⟩, ⟨[0, 1, 2, 3, 4, 5, 6, 7, 8, 9, 10, 11, 12, 13, 14, 17, 18, 19, 20, 21], [21, 14], [], [258], fun f => f 258 = undef⟩, ⟨[0, 1, 2, 3, 4, 5, 6, 7, 8, 9, 10, 11, 12, 13, 14, 16, 17, 18, 19, 20, 21, 22], [16, 22, 14], [], [259], fun f => f 259 = undef⟩, ⟨[0, 1, 2, 3, 4, 5, 6, 7, 8, 9, 10, 11, 12, 13, 14, 15, 16, 17, 18, 19, 20, 21, 22, 23], [15, 23, 14], [], [260], fun f => f 260 = undef⟩, ⟨[0, 1, 2, 3, 4, 5, 6, 7, 8, 9, 10, 11, 12, 13, 14, 15, 16, 17, 18, 19, 20, 21, 22, 23, 24], [24, 14], [], [261], fun f => f 261 = undef⟩, ⟨[0, 1, 2, 3, 4, 5, 6, 7, 8, 9, 10, 11, 12, 13, 14, 15, 16, 17, 18, 19, 20, 21, 22, 23, 24, 25], [25, 14], [], [262], fun f => f 262 = undef⟩, ⟨[0, 1, 2, 3, 4, 5, 6, 7, 8, 9, 10, 11, 12, 13, 14], [14], [1], [263], fun f => f 263 = undef⟩, ⟨[0, 1, 2, 3, 4, 5, 6, 7, 8, 9, 10, 11, 12, 13, 14], [14], [0], [264], fun f => f 264 = undef⟩, ⟨[0, 1, 2, 3, 4, 5, 6, 7, 8, 9, 10, 11, 12, 13, 14], [14], [0], [265], fun f => f 265 = undef⟩, ⟨[0, 1, 2, 3, 4, 5, 6, 7, 8, 9, 10, 11, 12, 13, 14, 29], [29, 14], [], [266], fun f => f 266 = undef⟩, ⟨[0, 1, 2, 3, 4, 5, 6, 7, 8, 9, 10, 11, 12, 13, 14, 27, 28, 29, 30], [27, 28, 30, 14], [], [267], fun f => f 267 = undef⟩, ⟨[0, 1, 2, 3, 4, 5, 6, 7, 8, 9, 10, 11, 12, 13, 14, 15, 16, 17, 18, 19, 20, 21, 22, 23, 24, 25, 26, 27, 28, 29, 30, 31], [26, 31, 14], [], [268], fun f => f 268 = undef⟩, ⟨[0, 1, 2, 3, 4, 5, 6, 7, 8, 9, 10, 11, 12, 13, 14, 15, 16, 17, 18, 19, 20, 21, 22, 23, 24, 25, 26, 27, 28, 29, 30, 31, 32], [32, 14], [], [269], fun f => f 269 = undef⟩, ⟨[0, 1, 2, 3, 4, 5, 6, 7, 8, 9, 10, 11, 12, 13, 14, 15, 16, 17, 18, 19, 20, 21, 22, 23, 24, 25, 26, 27, 28, 29, 30, 31, 32, 33], [14, 33], [], [270], fun f => f 270 = .bool false⟩] [⟨none, none, [3], [], fun _ => pt (blk (fa27 17)) (.cells (bC x11) 39)⟩, ⟨none, none, [10], [], fun _ => pt (blk (fa27 18)) (.cells (bC x17) 39)⟩, ⟨none, none, [], [], fun _ => pt (blk (fa123 227)) (.cells #[.slice a112 (x104.length) (c113)] 41)⟩] [(30, Nx (k)), (15, .slice p7 (xl.length) (c8)), (17, .pointer (some ⟨(blk (fa27 17)), 0, none⟩)), (18, .pointer (some ⟨(blk (fa27 18)), 0, none⟩)), (27, .slice p73 (ol.length) (c74)), (24, .slice p54 (ml.length) (c55)), (205, Nx (xl.length)), (206, Nx (k))] [1, 2, 3, 5, 4, 6, 7] [] (by kernel_rfl) (by kernel_rfl) (by kernel_rfl) (by kernel_rfl) rfl ⟨rfl, rfl, rfl, rfl, rfl, rfl, rfl, rfl, trivial⟩ ⟨?_, ?_, ?_, ?_, ?_, ?_, ?_, ?_, ?_, ?_, ?_, ?_, ?_, ?_, ?_, ?_, ?_, ?_, ?_, ?_, ?_, ?_, ?_, ?_, ?_, ?_, ?_, ?_, ?_, ?_, ?_, ?_, ?_, ?_, ?_, trivial⟩ ?_
                · rintro f M - ⟨i0, -⟩
                  have hs30 : f 30 = Nx (k) := i0
                  refine ob_start (L' := M) (by rfl) (up_cons rfl hs30) ?_
                  refine l_val (v := Nx (k)) rfl rfl rfl (e_move) ?_
                  refine l_nil ?_
                  exact f_owes_d (up_cons rfl hs30) rfl (List.Perm.refl _)
                · rintro f M - ⟨i0, -⟩
                  have hs15 : f 15 = .slice p7 (xl.length) (c8) := i0
                  refine ob_start (L' := M) (by rfl) (up_cons rfl hs15) ?_
                  refine l_val (v := .slice p7 (xl.length) (c8)) rfl rfl rfl (e_move) ?_
                  refine l_nil ?_
                  exact f_owes_d (up_cons rfl hs15) rfl (List.Perm.refl _)
                · rintro f M - ⟨i0, -⟩
                  have hs17 : f 17 = .pointer (some ⟨(blk (fa27 17)), 0, none⟩) := i0
                  refine ob_start (L' := M) (by rfl) (up_cons rfl hs17) ?_
                  refine l_val (v := .pointer (some ⟨(blk (fa27 17)), 0, none⟩)) rfl rfl rfl (e_fieldPt (b := (blk (fa27 17))) (o := 0) rfl tf27) ?_
                  refine l_nil ?_
                  exact f_owes_d (up_cons rfl hs17) rfl (List.Perm.refl _)
                · rintro f M ⟨k0, -⟩ -
                  have hs238 : f 238 = .pointer (some ⟨(blk (fa27 17)), 0, none⟩) := k0
                  refine ob_start (L' := pt (blk (fa27 17)) (.cells (bC x11) 39) :: M) (by rfl) (up_cons rfl hs238) ?_
                  refine l_val (v := Ix (x11.id)) rfl rfl rfl (e_load1 tf11 (v := Ix (x11.id)) rfl (k_pt 0 (cs := (bC x11)) (vs := [Ix (x11.id)]) rfl rfl)) ?_
                  refine l_nil ?_
                  exact f_owes_d (up_cons rfl hs238) rfl (perm_front 0 rfl)
                · rintro f M ⟨k0, k1, -⟩ -
                  have hs237 : f 237 = .slice p7 (xl.length) (c8) := k0
                  have hs239 : f 239 = Ix (x11.id) := k1
                  refine ob_start (L' := M) (by rfl) (up_cons (up_cons rfl hs237) hs239) ?_
                  refine l_call rfl rfl rfl (cl_value (fst := []) (cap := []) (vs := [.slice p7 (xl.length) (c8), Ix (x11.id)]) (all := [.slice p7 (xl.length) (c8), Ix (x11.id)]) tf87 rfl rfl rfl) ?_
                  intro w hw
                  obtain ⟨β1, sb, kn, hw1, back⟩ := St.frame_all hw
                  refine (place_ok β1 w hw1 _ xl (Sl.mono _ _ _ _ _ sb hslX) x11.id).mono ?_
                  rintro e w' ⟨rfl, hw'⟩
                  refine ⟨_, rfl, _, back _ _ hw', ?_⟩
                  clear hw hw1 hw' back kn sb
                  refine l_nil ?_
                  exact f_owes_d (up_cons (up_cons rfl hs237) hs239) rfl (List.Perm.refl _)
                · rintro f M ⟨k0, k1, -⟩ -
                  have hs236 : f 236 = Nx (k) := k0
                  have hs240 : f 240 = Ix (placeI xl x11.id) := k1
                  refine ob_start (L' := M) (by rfl) (up_cons (up_cons rfl hs236) hs240) ?_
                  refine l_val (v := .bool true) rfl rfl rfl ((ev_t hg83 (e_neq (a := ((k : Nat) : Int)) (b := (placeI xl x11.id)) rfl rfl))) ?_
                  refine l_nil ?_
                  exact f_owes_d (up_cons (up_cons rfl hs236) hs240) rfl (List.Perm.refl _)
                · rintro f M ⟨k0, -⟩ -
                  have hs241 : f 241 = .bool true := k0
                  refine ob_start (L' := M) (by rfl) (up_cons rfl hs241) ?_
                  refine l_val (v := .bool true) rfl rfl rfl (e_move) ?_
                  refine l_nil ?_
                  exact f_owes_d (up_cons rfl hs241) rfl (List.Perm.refl _)
                · rintro f M ⟨k0, -⟩ ⟨i0, -⟩
                  have hs30 : f 30 = Nx (k) := i0
                  have hs242 : f 242 = .bool true := k0
                  refine ob_start (L' := M) (by rfl) (up_cons (up_cons rfl hs30) hs242) ?_
                  refine g_val (v := Nx (k)) rfl rfl rfl rfl rfl (e_move) ?_
                  refine l_nil ?_
                  exact f_owes_d (up_cons (up_cons rfl hs30) hs242) rfl (List.Perm.refl _)
                · rintro f M ⟨k0, -⟩ ⟨i0, -⟩
                  have hs15 : f 15 = .slice p7 (xl.length) (c8) := i0
                  have hs242 : f 242 = .bool true := k0
                  refine ob_start (L' := M) (by rfl) (up_cons (up_cons rfl hs15) hs242) ?_
                  refine g_val (v := .slice p7 (xl.length) (c8)) rfl rfl rfl rfl rfl (e_move) ?_
                  refine l_nil ?_
                  exact f_owes_d (up_cons (up_cons rfl hs15) hs242) rfl (List.Perm.refl _)
                · rintro f M ⟨k0, -⟩ ⟨i0, -⟩
                  have hs18 : f 18 = .pointer (some ⟨(blk (fa27 18)), 0, none⟩) := i0
                  have hs242 : f 242 = .bool true := k0
                  refine ob_start (L' := M) (by rfl) (up_cons (up_cons rfl hs18) hs242) ?_
                  refine g_val (v := .pointer (some ⟨(blk (fa27 18)), 0, none⟩)) rfl rfl rfl rfl rfl (e_fieldPt (b := (blk (fa27 18))) (o := 0) rfl tf27) ?_
                  refine l_nil ?_
                  exact f_owes_d (up_cons (up_cons rfl hs18) hs242) rfl (List.Perm.refl _)
                · rintro f M ⟨k0, k1, -⟩ -
                  have hs245 : f 245 = .pointer (some ⟨(blk (fa27 18)), 0, none⟩) := k0
                  have hs242 : f 242 = .bool true := k1
                  refine ob_start (L' := pt (blk (fa27 18)) (.cells (bC x17) 39) :: M) (by rfl) (up_cons (up_cons rfl hs245) hs242) ?_
                  refine g_val (v := Ix (x17.id)) rfl rfl rfl rfl rfl (e_load1 tf11 (v := Ix (x17.id)) rfl (k_pt 0 (cs := (bC x17)) (vs := [Ix (x17.id)]) rfl rfl)) ?_
                  refine l_nil ?_
                  exact f_owes_d (up_cons (up_cons rfl hs245) hs242) rfl (perm_front 0 rfl)
                · rintro f M ⟨k0, k1, k2, -⟩ -
                  have hs244 : f 244 = .slice p7 (xl.length) (c8) := k0
                  have hs246 : f 246 = Ix (x17.id) := k1
                  have hs242 : f 242 = .bool true := k2
                  refine ob_start (L' := M) (by rfl) (up_cons (up_cons (up_cons rfl hs244) hs246) hs242) ?_
                  refine g_call rfl rfl rfl rfl rfl (cl_value (fst := []) (cap := []) (vs := [.slice p7 (xl.length) (c8), Ix (x17.id)]) (all := [.slice p7 (xl.length) (c8), Ix (x17.id)]) tf87 rfl rfl rfl) ?_
                  intro w hw
                  obtain ⟨β1, sb, kn, hw1, back⟩ := St.frame_all hw
                  refine (place_ok β1 w hw1 _ xl (Sl.mono _ _ _ _ _ sb hslX) x17.id).mono ?_
                  rintro e w' ⟨rfl, hw'⟩
                  refine ⟨_, rfl, _, back _ _ hw', ?_⟩
                  clear hw hw1 hw' back kn sb
                  refine l_nil ?_
                  exact f_owes_d (up_cons (up_cons (up_cons rfl hs244) hs246) hs242) rfl (List.Perm.refl _)
                · rintro f M ⟨k0, k1, k2, -⟩ -
                  have hs243 : f 243 = Nx (k) := k0
                  have hs247 : f 247 = Ix (placeI xl x17.id) := k1
                  have hs242 : f 242 = .bool true := k2
                  refine ob_start (L' := M) (by rfl) (up_cons (up_cons (up_cons rfl hs243) hs247) hs242) ?_
                  refine g_val (v := .bool false) rfl rfl rfl rfl rfl ((ev_f hg124 (e_neq (a := ((k : Nat) : Int)) (b := (placeI xl x17.id)) rfl rfl))) ?_
                  refine l_nil ?_
                  exact f_owes_d (up_cons (up_cons (up_cons rfl hs243) hs247) hs242) rfl (List.Perm.refl _)
                · rintro f M ⟨k0, k1, -⟩ -
                  have hs242 : f 242 = .bool true := k0
                  have hs248 : f 248 = .bool false := k1
                  refine ob_start (L' := M) (by rfl) (up_cons (up_cons rfl hs242) hs248) ?_
                  refine l_val (v := .bool false) rfl rfl rfl (e_pick_t rfl) ?_
                  refine l_nil ?_
                  exact f_owes_d (up_cons (up_cons rfl hs242) hs248) rfl (List.Perm.refl _)
                · rintro f M ⟨k0, -⟩ -
                  have hs249 : f 249 = .bool false := k0
                  refine ob_start (L' := M) (by rfl) (up_cons rfl hs249) ?_
                  refine l_val (v := .bool false) rfl rfl rfl (e_move) ?_
                  refine l_nil ?_
                  exact f_owes_d (up_cons rfl hs249) rfl (List.Perm.refl _)
                · rintro f M ⟨k0, -⟩ ⟨i0, -⟩
                  have hs27 : f 27 = .slice p73 (ol.length) (c74) := i0
                  have hs250 : f 250 = .bool false := k0
                  refine ob_start (L' := M) (by rfl) (up_cons (up_cons rfl hs27) hs250) ?_
                  refine l_skip rfl rfl rfl rfl rfl rfl ?_
                  refine l_nil ?_
                  exact f_owes_d (up_cons (up_cons rfl hs27) hs250) rfl (List.Perm.refl _)
                · rintro f M ⟨k0, -⟩ ⟨i0, -⟩
                  have hs27 : f 27 = .slice p73 (ol.length) (c74) := i0
                  have hs250 : f 250 = .bool false := k0
                  refine ob_start (L' := M) (by rfl) (up_cons (up_cons rfl hs27) hs250) ?_
                  refine l_skip rfl rfl rfl rfl rfl rfl ?_
                  refine l_nil ?_
                  exact f_owes_d (up_cons (up_cons rfl hs27) hs250) rfl (List.Perm.refl _)
                · rintro f M ⟨k0, -⟩ ⟨i0, -⟩
                  have hs15 : f 15 = .slice p7 (xl.length) (c8) := i0
                  have hs250 : f 250 = .bool false := k0
                  refine ob_start (L' := M) (by rfl) (up_cons (up_cons rfl hs15) hs250) ?_
                  refine l_skip rfl rfl rfl rfl rfl rfl ?_
                  refine l_nil ?_
                  exact f_owes_d (up_cons (up_cons rfl hs15) hs250) rfl (List.Perm.refl _)
                · rintro f M ⟨k0, -⟩ ⟨i0, -⟩
                  have hs30 : f 30 = Nx (k) := i0
                  have hs250 : f 250 = .bool false := k0
                  refine ob_start (L' := M) (by rfl) (up_cons (up_cons rfl hs30) hs250) ?_
                  refine l_skip rfl rfl rfl rfl rfl rfl ?_
                  refine l_nil ?_
                  exact f_owes_d (up_cons (up_cons rfl hs30) hs250) rfl (List.Perm.refl _)
                · rintro f M ⟨k0, k1, k2, -⟩ -
                  have hs253 : f 253 = undef := k0
                  have hs254 : f 254 = undef := k1
                  have hs250 : f 250 = .bool false := k2
                  refine ob_start (L' := M) (by rfl) (up_cons (up_cons (up_cons rfl hs253) hs254) hs250) ?_
                  refine l_skip rfl rfl rfl rfl rfl rfl ?_
                  refine l_nil ?_
                  exact f_owes_d (up_cons (up_cons (up_cons rfl hs253) hs254) hs250) rfl (List.Perm.refl _)
                · rintro f M ⟨k0, k1, -⟩ -
                  have hs255 : f 255 = undef := k0
                  have hs250 : f 250 = .bool false := k1
                  refine ob_start (L' := M) (by rfl) (up_cons (up_cons rfl hs255) hs250) ?_
                  refine l_skip rfl rfl rfl rfl rfl rfl ?_
                  refine l_nil ?_
                  exact f_owes_d (up_cons (up_cons rfl hs255) hs250) rfl (List.Perm.refl _)
                · rintro f M ⟨k0, k1, -⟩ -
                  have hs256 : f 256 = undef := k0
                  have hs250 : f 250 = .bool false := k1
                  refine ob_start (L' := M) (by rfl) (up_cons (up_cons rfl hs256) hs250) ?_
                  refine l_skip rfl rfl rfl rfl rfl rfl ?_
                  refine l_nil ?_
                  exact f_owes_d (up_cons (up_cons rfl hs256) hs250) rfl (List.Perm.refl _)
                · rintro f M ⟨k0, k1, -⟩ -
                  have hs257 : f 257 = undef := k0
                  have hs250 : f 250 = .bool false := k1
                  refine ob_start (L' := M) (by rfl) (up_cons (up_cons rfl hs257) hs250) ?_
                  refine l_skip rfl rfl rfl rfl rfl rfl ?_
                  refine l_nil ?_
                  exact f_owes_d (up_cons (up_cons rfl hs257) hs250) rfl (List.Perm.refl _)
                · rintro f M ⟨k0, k1, k2, -⟩ -
                  have hs252 : f 252 = undef := k0
                  have hs258 : f 258 = undef := k1
                  have hs250 : f 250 = .bool false := k2
                  refine ob_start (L' := M) (by rfl) (up_cons (up_cons (up_cons rfl hs252) hs258) hs250) ?_
                  refine l_skip rfl rfl rfl rfl rfl rfl ?_
                  refine l_nil ?_
                  exact f_owes_d (up_cons (up_cons (up_cons rfl hs252) hs258) hs250) rfl (List.Perm.refl _)
                · rintro f M ⟨k0, k1, k2, -⟩ -
                  have hs251 : f 251 = undef := k0
                  have hs259 : f 259 = undef := k1
                  have hs250 : f 250 = .bool false := k2
                  refine ob_start (L' := M) (by rfl) (up_cons (up_cons (up_cons rfl hs251) hs259) hs250) ?_
                  refine l_skip rfl rfl rfl rfl rfl rfl ?_
                  refine l_nil ?_
                  exact f_owes_d (up_cons (up_cons (up_cons rfl hs251) hs259) hs250) rfl (List.Perm.refl _)
                · rintro f M ⟨k0, k1, -⟩ -
                  have hs260 : f 260 = undef := k0
                  have hs250 : f 250 = .bool false := k1
                  refine ob_start (L' := M) (by rfl) (up_cons (up_cons rfl hs260) hs250) ?_
                  refine l_skip rfl rfl rfl rfl rfl rfl ?_
                  refine l_nil ?_
                  exact f_owes_d (up_cons (up_cons rfl hs260) hs250) rfl (List.Perm.refl _)
                · rintro f M ⟨k0, k1, -⟩ -
                  have hs261 : f 261 = undef := k0
                  have hs250 : f 250 = .bool false := k1
                  refine ob_start (L' := M) (by rfl) (up_cons (up_cons rfl hs261) hs250) ?_
                  refine l_skip rfl rfl rfl rfl rfl rfl ?_
                  refine l_nil ?_
                  exact f_owes_d (up_cons (up_cons rfl hs261) hs250) rfl (List.Perm.refl _)
                · rintro f M ⟨k0, -⟩ ⟨i0, -⟩
                  have hs15 : f 15 = .slice p7 (xl.length) (c8) := i0
                  have hs250 : f 250 = .bool false := k0
                  refine ob_start (L' := M) (by rfl) (up_cons (up_cons rfl hs15) hs250) ?_
                  refine l_skip rfl rfl rfl rfl rfl rfl ?_
                  refine l_nil ?_
                  exact f_owes_d (up_cons (up_cons rfl hs15) hs250) rfl (List.Perm.refl _)
                · rintro f M ⟨k0, -⟩ ⟨i0, -⟩
                  have hs30 : f 30 = Nx (k) := i0
                  have hs250 : f 250 = .bool false := k0
                  refine ob_start (L' := M) (by rfl) (up_cons (up_cons rfl hs30) hs250) ?_
                  refine l_skip rfl rfl rfl rfl rfl rfl ?_
                  refine l_nil ?_
                  exact f_owes_d (up_cons (up_cons rfl hs30) hs250) rfl (List.Perm.refl _)
                · rintro f M ⟨k0, -⟩ ⟨i0, -⟩
                  have hs30 : f 30 = Nx (k) := i0
                  have hs250 : f 250 = .bool false := k0
                  refine ob_start (L' := M) (by rfl) (up_cons (up_cons rfl hs30) hs250) ?_
                  refine l_skip rfl rfl rfl rfl rfl rfl ?_
                  refine l_nil ?_
                  exact f_owes_d (up_cons (up_cons rfl hs30) hs250) rfl (List.Perm.refl _)
                · rintro f M ⟨k0, k1, -⟩ -
                  have hs265 : f 265 = undef := k0
                  have hs250 : f 250 = .bool false := k1
                  refine ob_start (L' := M) (by rfl) (up_cons (up_cons rfl hs265) hs250) ?_
                  refine l_skip rfl rfl rfl rfl rfl rfl ?_
                  refine l_nil ?_
                  exact f_owes_d (up_cons (up_cons rfl hs265) hs250) rfl (List.Perm.refl _)
                · rintro f M ⟨k0, k1, k2, k3, -⟩ -
                  have hs263 : f 263 = undef := k0
                  have hs264 : f 264 = undef := k1
                  have hs266 : f 266 = undef := k2
                  have hs250 : f 250 = .bool false := k3
                  refine ob_start (L' := M) (by rfl) (up_cons (up_cons (up_cons (up_cons rfl hs263) hs264) hs266) hs250) ?_
                  refine l_skip rfl rfl rfl rfl rfl rfl ?_
                  refine l_nil ?_
                  exact f_owes_d (up_cons (up_cons (up_cons (up_cons rfl hs263) hs264) hs266) hs250) rfl (List.Perm.refl _)
                · rintro f M ⟨k0, k1, k2, -⟩ -
                  have hs262 : f 262 = undef := k0
                  have hs267 : f 267 = undef := k1
                  have hs250 : f 250 = .bool false := k2
                  refine ob_start (L' := M) (by rfl) (up_cons (up_cons (up_cons rfl hs262) hs267) hs250) ?_
                  refine l_skip rfl rfl rfl rfl rfl rfl ?_
                  refine l_nil ?_
                  exact f_owes_d (up_cons (up_cons (up_cons rfl hs262) hs267) hs250) rfl (List.Perm.refl _)
                · rintro f M ⟨k0, k1, -⟩ -
                  have hs268 : f 268 = undef := k0
                  have hs250 : f 250 = .bool false := k1
                  refine ob_start (L' := M) (by rfl) (up_cons (up_cons rfl hs268) hs250) ?_
                  refine l_skip rfl rfl rfl rfl rfl rfl ?_
                  refine l_nil ?_
                  exact f_owes_d (up_cons (up_cons rfl hs268) hs250) rfl (List.Perm.refl _)
                · rintro f M ⟨k0, k1, -⟩ -
                  have hs250 : f 250 = .bool false := k0
                  have hs269 : f 269 = undef := k1
                  refine ob_start (L' := M) (by rfl) (up_cons (up_cons rfl hs250) hs269) ?_
                  refine l_val (v := .bool false) rfl rfl rfl (e_pick_f rfl) ?_
                  refine l_nil ?_
                  exact f_owes_d (up_cons (up_cons rfl hs250) hs269) rfl (List.Perm.refl _)
                rintro fa142 ⟨-, -, -, -, -, -, -, -, -, -, -, -, -, -, -, -, -, -, -, -, -, -, -, -, -, -, -, -, -, -, -, -, -, -, k34, -⟩ ⟨j0, j1, j2, j3, j4, j5, j6, -⟩
                refine f_re (L' := [pt (blk (fa27 17)) (.cells (bC x11) 39), pt (blk (fa27 18)) (.cells (bC x17) 39), pt (blk (fa123 227)) (.cells #[.slice a112 (x104.length) (c113)] 41)]) (by rfl) ?_
                refine f_rebase (d := 15) (v := .slice p7 (xl.length) (c8)) j0 ?_
                refine f_rebase (d := 17) (v := .pointer (some ⟨(blk (fa27 17)), 0, none⟩)) j1 ?_
                refine f_rebase (d := 18) (v := .pointer (some ⟨(blk (fa27 18)), 0, none⟩)) j2 ?_
                refine f_rebase (d := 24) (v := .slice p54 (ml.length) (c55)) j3 ?_
                refine f_rebase (d := 27) (v := .slice p73 (ol.length) (c74)) j4 ?_
                refine f_rebase (d := 205) (v := Nx (xl.length)) j5 ?_
                refine f_rebase (d := 206) (v := Nx (k)) j6 ?_
                refine f_rebase (d := 270) (v := .bool false) k34 ?_
                refine f_then ?_
                refine c_no rfl ?_
                refine c_skip ?_
                refine f_block ?_
                refine f_then ?_
                refine c_region ?_
                refine l_val (v := Nx (k + 1)) rfl rfl rfl (e_add (a := ((k : Nat) : Int)) (b := (1 : Int)) rfl rfl (i64n (by omega) (by omega))) ?_
                refine l_val (v := Nx (k + 1)) rfl rfl rfl (e_move) ?_
                refine l_nil ?_
                refine f_mask (L' := [pt (blk (fa27 17)) (.cells (bC x11) 39), pt (blk (fa27 18)) (.cells (bC x17) 39)]) [true, true, false] rfl ?_
                exact f_cut ⟨k + 1, ⟨⟨rfl, rfl, rfl, rfl, rfl, rfl, rfl⟩, rfl, by omega⟩, (show xl.length - (k + 1) < xl.length - k from by omega)⟩
            ·
              refine c_any [⟨[], [], [0], [209], fun f => f 209 = Nx (k)⟩, ⟨[], [], [1], [210], fun f => f 210 = .slice p7 (xl.length) (c8)⟩, ⟨[], [], [2], [211], fun f => f 211 = .pointer (some ⟨(blk (fa27 17)), 0, none⟩)⟩, ⟨[2], [2], [], [212], fun f => f 212 = Ix (x11.id)⟩, ⟨[1, 2, 3], [1, 3], [], [213], fun f => f 213 = Ix (placeI xl x11.id)⟩, ⟨[0, 1, 2, 3, 4], [0, 4], [], [214], fun f => f 214 = .bool false⟩, ⟨[0, 1, 2, 3, 4, 5], [5], [], [215], fun f => f 215 = .bool false⟩, ⟨[0, 1, 2, 3, 4, 5, 6], [6], [3], [216], fun f => f 216 = undef⟩, ⟨[0, 1, 2, 3, 4, 5, 6], [6], [3], [217], fun f => f 217 = undef⟩, ⟨[0, 1, 2, 3, 4, 5, 6], [6], [1], [218], fun f => f 218 = undef⟩, ⟨[0, 1, 2, 3, 4, 5, 6], [6], [0], [219], fun f => f 219 = undef⟩, ⟨[0, 1, 2, 3, 4, 5, 6, 9, 10], [9, 10, 6], [], [220], fun f => f 220 = undef⟩, ⟨[0, 1, 2, 3, 4, 5, 6, 9, 10, 11], [11, 6], [], [221], fun f => f 221 = undef⟩, ⟨[0, 1, 2, 3, 4, 5, 6, 9, 10, 11, 12], [12, 6], [], [222], fun f => f 222 = undef⟩, ⟨[0, 1, 2, 3, 4, 5, 6, 9, 10, 11, 12, 13], [13, 6], [], [223], fun f => f 223 = undef⟩, ⟨[0, 1, 2, 3, 4, 5, 6, 8, 9, 10, 11, 12, 13, 14], [8, 14, 6], [], [224], fun f => f 224 = undef⟩, ⟨[0, 1, 2, 3, 4, 5, 6, 7, 8, 9, 10, 11, 12, 13, 14, 15], [7, 15, 6], [], [225], fun f => f 225 = undef⟩, ⟨[0, 1, 2, 3, 4, 5, 6, 7, 8, 9, 10, 11, 12, 13, 14, 15, 16], [16, 6], [], [226], fun f => f 226 = undef⟩, ⟨[0, 1, 2, 3, 4, 5, 6, 7, 8, 9, 10, 11, 12, 13, 14, 15, 16, 17], [17, 6], [], [227], fun f => f 227 = undef⟩, ⟨[0, 1, 2, 3, 4, 5, 6], [6], [1], [228], fun f => f 228 = undef⟩, ⟨[0, 1, 2, 3, 4, 5, 6], [6], [0], [229], fun f => f 229 = undef⟩, ⟨[0, 1, 2, 3, 4, 5, 6], [6], [0], [230], fun f => f 230 = undef⟩, ⟨[0, 1, 2, 3, 4, 5, 6, 21], [21, 6], [], [231], fun f => f 231 = undef⟩, ⟨[0, 1, 2, 3, 4, 5, 6, 19, 20, 21, 22], [19, 20, 22, 6], [], [232], fun f => f 232 = undef⟩, ⟨[0, 1, 2, 3, 4, 5, 6, 7, 8, 9, 10, 11, 12, 13, 14, 15, 16, 17, 18, 19, 20, 21, 22, 23], [18, 23, 6], [], [233], fun f => f 233 = undef⟩, ⟨[0, 1, 2, 3, 4, 5, 6, 7, 8, 9, 10, 11, 12, 13, 14, 15, 16, 17, 18, 19, 20, 21, 22, 23, 24], [24, 6], [], [234], fun f => f 234 = undef⟩, ⟨[0, 1, 2, 3, 4, 5, 6, 7, 8, 9, 10, 11, 12, 13, 14, 15, 16, 17, 18, 19, 20, 21, 22, 23, 24, 25], [6, 25], [], [235], fun f => f 235 = .bool false⟩] [⟨none, none, [3], [], fun _ => pt (blk (fa27 17)) (.cells (bC x11) 39)⟩, ⟨none, none, [], [], fun _ => pt (blk (fa27 18)) (.cells (bC x17) 39)⟩] [(30, Nx (k)), (15, .slice p7 (xl.length) (c8)), (17, .pointer (some ⟨(blk (fa27 17)), 0, none⟩)), (24, .slice p54 (ml.length) (c55)), (18, .pointer (some ⟨(blk (fa27 18)), 0, none⟩)), (27, .slice p73 (ol.length) (c74)), (205, Nx (xl.length)), (206, Nx (k))] [1, 2, 4, 3, 5, 0, 6, 7] [] (by kernel_rfl) (by kernel_rfl) (by kernel_rfl) (by kernel_rfl) rfl ⟨rfl, rfl, rfl, rfl, rfl, rfl, rfl, rfl, trivial⟩ ⟨?_, ?_, ?_, ?_, ?_, ?_, ?_, ?_, ?_, ?_, ?_, ?_, ?_, ?_, ?_, ?_, ?_, ?_, ?_, ?_, ?_, ?_, ?_, ?_, ?_, ?_, ?_, trivial⟩ ?_
              · rintro f M - ⟨i0, -⟩
                have hs30 : f 30 = Nx (k) := i0
                refine ob_start (L' := M) (by rfl) (up_cons rfl hs30) ?_
                refine l_val (v := Nx (k)) rfl rfl rfl (e_move) ?_
                refine l_nil ?_
                exact f_owes_d (up_cons rfl hs30) rfl (List.Perm.refl _)
              · rintro f M - ⟨i0, -⟩
                have hs15 : f 15 = .slice p7 (xl.length) (c8) := i0
                refine ob_start (L' := M) (by rfl) (up_cons rfl hs15) ?_
                refine l_val (v := .slice p7 (xl.length) (c8)) rfl rfl rfl (e_move) ?_
                refine l_nil ?_
                exact f_owes_d (up_cons rfl hs15) rfl (List.Perm.refl _)
              · rintro f M - ⟨i0, -⟩
                have hs17 : f 17 = .pointer (some ⟨(blk (fa27 17)), 0, none⟩) := i0
                refine ob_start (L' := M) (by rfl) (up_cons rfl hs17) ?_
                refine l_val (v := .pointer (some ⟨(blk (fa27 17)), 0, none⟩)) rfl rfl rfl (e_fieldPt (b := (blk (fa27 17))) (o := 0) rfl tf27) ?_
                refine l_nil ?_
                exact f_owes_d (up_cons rfl hs17) rfl (List.Perm.refl _)
              · rintro f M ⟨k0, -⟩ -
                have hs211 : f 211 = .pointer (some ⟨(blk (fa27 17)), 0, none⟩) := k0
                refine ob_start (L' := pt (blk (fa27 17)) (.cells (bC x11) 39) :: M) (by rfl) (up_cons rfl hs211) ?_
                refine l_val (v := Ix (x11.id)) rfl rfl rfl (e_load1 tf11 (v := Ix (x11.id)) rfl (k_pt 0 (cs := (bC x11)) (vs := [Ix (x11.id)]) rfl rfl)) ?_
                refine l_nil ?_
                exact f_owes_d (up_cons rfl hs211) rfl (perm_front 0 rfl)
              · rintro f M ⟨k0, k1, -⟩ -
                have hs210 : f 210 = .slice p7 (xl.length) (c8) := k0
                have hs212 : f 212 = Ix (x11.id) := k1
                refine ob_start (L' := M) (by rfl) (up_cons (up_cons rfl hs210) hs212) ?_
                refine l_call rfl rfl rfl (cl_value (fst := []) (cap := []) (vs := [.slice p7 (xl.length) (c8), Ix (x11.id)]) (all := [.slice p7 (xl.length) (c8), Ix (x11.id)]) tf87 rfl rfl rfl) ?_
                intro w hw
                obtain ⟨β1, sb, kn, hw1, back⟩ := St.frame_all hw
                refine (place_ok β1 w hw1 _ xl (Sl.mono _ _ _ _ _ sb hslX) x11.id).mono ?_
                rintro e w' ⟨rfl, hw'⟩
                refine ⟨_, rfl, _, back _ _ hw', ?_⟩
                clear hw hw1 hw' back kn sb
                refine l_nil ?_
                exact f_owes_d (up_cons (up_cons rfl hs210) hs212) rfl (List.Perm.refl _)
              · rintro f M ⟨k0, k1, -⟩ -
                have hs209 : f 209 = Nx (k) := k0
                have hs213 : f 213 = Ix (placeI xl x11.id) := k1
                refine ob_start (L' := M) (by rfl) (up_cons (up_cons rfl hs209) hs213) ?_
                refine l_val (v := .bool false) rfl rfl rfl ((ev_f hg83 (e_neq (a := ((k : Nat) : Int)) (b := (placeI xl x11.id)) rfl rfl))) ?_
                refine l_nil ?_
                exact f_owes_d (up_cons (up_cons rfl hs209) hs213) rfl (List.Perm.refl _)
              · rintro f M ⟨k0, -⟩ -
                have hs214 : f 214 = .bool false := k0
                refine ob_start (L' := M) (by rfl) (up_cons rfl hs214) ?_
                refine l_val (v := .bool false) rfl rfl rfl (e_move) ?_
                refine l_nil ?_
                exact f_owes_d (up_cons rfl hs214) rfl (List.Perm.refl _)
              · rintro f M ⟨k0, -⟩ ⟨i0, -⟩
                have hs24 : f 24 = .slice p54 (ml.length) (c55) := i0
                have hs215 : f 215 = .bool false := k0
                refine ob_start (L' := M) (by rfl) (up_cons (up_cons rfl hs24) hs215) ?_
                refine l_skip rfl rfl rfl rfl rfl rfl ?_
                refine l_nil ?_
                exact f_owes_d (up_cons (up_cons rfl hs24) hs215) rfl (List.Perm.refl _)
              · rintro f M ⟨k0, -⟩ ⟨i0, -⟩
                have hs24 : f 24 = .slice p54 (ml.length) (c55) := i0
                have hs215 : f 215 = .bool false := k0
                refine ob_start (L' := M) (by rfl) (up_cons (up_cons rfl hs24) hs215) ?_
                refine l_skip rfl rfl rfl rfl rfl rfl ?_
                refine l_nil ?_
                exact f_owes_d (up_cons (up_cons rfl hs24) hs215) rfl (List.Perm.refl _)
              · rintro f M ⟨k0, -⟩ ⟨i0, -⟩
                have hs15 : f 15 = .slice p7 (xl.length) (c8) := i0
                have hs215 : f 215 = .bool false := k0
                refine ob_start (L' := M) (by rfl) (up_cons (up_cons rfl hs15) hs215) ?_
                refine l_skip rfl rfl rfl rfl rfl rfl ?_
                refine l_nil ?_
                exact f_owes_d (up_cons (up_cons rfl hs15) hs215) rfl (List.Perm.refl _)
              · rintro f M ⟨k0, -⟩ ⟨i0, -⟩
                have hs30 : f 30 = Nx (k) := i0
                have hs215 : f 215 = .bool false := k0
                refine ob_start (L' := M) (by rfl) (up_cons (up_cons rfl hs30) hs215) ?_
                refine l_skip rfl rfl rfl rfl rfl rfl ?_
                refine l_nil ?_
                exact f_owes_d (up_cons (up_cons rfl hs30) hs215) rfl (List.Perm.refl _)
              · rintro f M ⟨k0, k1, k2, -⟩ -
                have hs218 : f 218 = undef := k0
                have hs219 : f 219 = undef := k1
                have hs215 : f 215 = .bool false := k2
                refine ob_start (L' := M) (by rfl) (up_cons (up_cons (up_cons rfl hs218) hs219) hs215) ?_
                refine l_skip rfl rfl rfl rfl rfl rfl ?_
                refine l_nil ?_
                exact f_owes_d (up_cons (up_cons (up_cons rfl hs218) hs219) hs215) rfl (List.Perm.refl _)
              · rintro f M ⟨k0, k1, -⟩ -
                have hs220 : f 220 = undef := k0
                have hs215 : f 215 = .bool false := k1
                refine ob_start (L' := M) (by rfl) (up_cons (up_cons rfl hs220) hs215) ?_
                refine l_skip rfl rfl rfl rfl rfl rfl ?_
                refine l_nil ?_
                exact f_owes_d (up_cons (up_cons rfl hs220) hs215) rfl (List.Perm.refl _)
              · rintro f M ⟨k0, k1, -⟩ -
                have hs221 : f 221 = undef := k0
                have hs215 : f 215 = .bool false := k1
                refine ob_start (L' := M) (by rfl) (up_cons (up_cons rfl hs221) hs215) ?_
                refine l_skip rfl rfl rfl rfl rfl rfl ?_
                refine l_nil ?_
                exact f_owes_d (up_cons (up_cons rfl hs221) hs215) rfl (List.Perm.refl _)
              · rintro f M ⟨k0, k1, -⟩ -
                have hs222 : f 222 = undef := k0
                have hs215 : f 215 = .bool false := k1
                refine ob_start (L' := M) (by rfl) (up_cons (up_cons rfl hs222) hs215) ?_
                refine l_skip rfl rfl rfl rfl rfl rfl ?_
                refine l_nil ?_
                exact f_owes_d (up_cons (up_cons rfl hs222) hs215) rfl (List.Perm.refl _)
              · rintro f M ⟨k0, k1, k2, -⟩ -
                have hs217 : f 217 = undef := k0
                have hs223 : f 223 = undef := k1
                have hs215 : f 215 = .bool false := k2
                refine ob_start (L' := M) (by rfl) (up_cons (up_cons (up_cons rfl hs217) hs223) hs215) ?_
                refine l_skip rfl rfl rfl rfl rfl rfl ?_
                refine l_nil ?_
                exact f_owes_d (up_cons (up_cons (up_cons rfl hs217) hs223) hs215) rfl (List.Perm.refl _)
              · rintro f M ⟨k0, k1, k2, -⟩ -
                have hs216 : f 216 = undef := k0
                have hs224 : f 224 = undef := k1
                have hs215 : f 215 = .bool false := k2
                refine ob_start (L' := M) (by rfl) (up_cons (up_cons (up_cons rfl hs216) hs224) hs215) ?_
                refine l_skip rfl rfl rfl rfl rfl rfl ?_
                refine l_nil ?_
                exact f_owes_d (up_cons (up_cons (up_cons rfl hs216) hs224) hs215) rfl (List.Perm.refl _)
              · rintro f M ⟨k0, k1, -⟩ -
                have hs225 : f 225 = undef := k0
                have hs215 : f 215 = .bool false := k1
                refine ob_start (L' := M) (by rfl) (up_cons (up_cons rfl hs225) hs215) ?_
                refine l_skip rfl rfl rfl rfl rfl rfl ?_
                refine l_nil ?_
                exact f_owes_d (up_cons (up_cons rfl hs225) hs215) rfl (List.Perm.refl _)
              · rintro f M ⟨k0, k1, -⟩ -
                have hs226 : f 226 = undef := k0
                have hs215 : f 215 = .bool false := k1
                refine ob_start (L' := M) (by rfl) (up_cons (up_cons rfl hs226) hs215) ?_
                refine l_skip rfl rfl rfl rfl rfl rfl ?_
                refine l_nil ?_
                exact f_owes_d (up_cons (up_cons rfl hs226) hs215) rfl (List.Perm.refl _)
              · rintro f M ⟨k0, -⟩ ⟨i0, -⟩
                have hs15 : f 15 = .slice p7 (xl.length) (c8) := i0
                have hs215 : f 215 = .bool false := k0
                refine ob_start (L' := M) (by rfl) (up_cons (up_cons rfl hs15) hs215) ?_
                refine l_skip rfl rfl rfl rfl rfl rfl ?_
                refine l_nil ?_
                exact f_owes_d (up_cons (up_cons rfl hs15) hs215) rfl (List.Perm.refl _)
              · rintro f M ⟨k0, -⟩ ⟨i0, -⟩
                have hs30 : f 30 = Nx (k) := i0
                have hs215 : f 215 = .bool false := k0
                refine ob_start (L' := M) (by rfl) (up_cons (up_cons rfl hs30) hs215) ?_
                refine l_skip rfl rfl rfl rfl rfl rfl ?_
                refine l_nil ?_
                exact f_owes_d (up_cons (up_cons rfl hs30) hs215) rfl (List.Perm.refl _)
              · rintro f M ⟨k0, -⟩ ⟨i0, -⟩
                have hs30 : f 30 = Nx (k) := i0
                have hs215 : f 215 = .bool false := k0
                refine ob_start (L' := M) (by rfl) (up_cons (up_cons rfl hs30) hs215) ?_
                refine l_skip rfl rfl rfl rfl rfl rfl ?_
                refine l_nil ?_
                exact f_owes_d (up_cons (up_cons rfl hs30) hs215) rfl (List.Perm.refl _)
              · rintro f M ⟨k0, k1, -⟩ -
                have hs230 : f 230 = undef := k0
                have hs215 : f 215 = .bool false := k1
                refine ob_start (L' := M) (by rfl) (up_cons (up_cons rfl hs230) hs215) ?_
                refine l_skip rfl rfl rfl rfl rfl rfl ?_
                refine l_nil ?_
                exact f_owes_d (up_cons (up_cons rfl hs230) hs215) rfl (List.Perm.refl _)
              · rintro f M ⟨k0, k1, k2, k3, -⟩ -
                have hs228 : f 228 = undef := k0
                have hs229 : f 229 = undef := k1
                have hs231 : f 231 = undef := k2
                have hs215 : f 215 = .bool false := k3
                refine ob_start (L' := M) (by rfl) (up_cons (up_cons (up_cons (up_cons rfl hs228) hs229) hs231) hs215) ?_
                refine l_skip rfl rfl rfl rfl rfl rfl ?_
                refine l_nil ?_
                exact f_owes_d (up_cons (up_cons (up_cons (up_cons rfl hs228) hs229) hs231) hs215) rfl (List.Perm.refl _)
              · rintro f M ⟨k0, k1, k2, -⟩ -
                have hs227 : f 227 = undef := k0
                have hs232 : f 232 = undef := k1
                have hs215 : f 215 = .bool false := k2
                refine ob_start (L' := M) (by rfl) (up_cons (up_cons (up_cons rfl hs227) hs232) hs215) ?_
                refine l_skip rfl rfl rfl rfl rfl rfl ?_
                refine l_nil ?_
                exact f_owes_d (up_cons (up_cons (up_cons rfl hs227) hs232) hs215) rfl (List.Perm.refl _)
              · rintro f M ⟨k0, k1, -⟩ -
                have hs233 : f 233 = undef := k0
                have hs215 : f 215 = .bool false := k1
                refine ob_start (L' := M) (by rfl) (up_cons (up_cons rfl hs233) hs215) ?_
                refine l_skip rfl rfl rfl rfl rfl rfl ?_
                refine l_nil ?_
                exact f_owes_d (up_cons (up_cons rfl hs233) hs215) rfl (List.Perm.refl _)
              · rintro f M ⟨k0, k1, -⟩ -
                have hs215 : f 215 = .bool false := k0
                have hs234 : f 234 = undef := k1
                refine ob_start (L' := M) (by rfl) (up_cons (up_cons rfl hs215) hs234) ?_
                refine l_val (v := .bool false) rfl rfl rfl (e_pick_f rfl) ?_
                refine l_nil ?_
                exact f_owes_d (up_cons (up_cons rfl hs215) hs234) rfl (List.Perm.refl _)
              rintro fa143 ⟨-, -, -, -, -, -, -, -, -, -, -, -, -, -, -, -, -, -, -, -, -, -, -, -, -, -, k26, -⟩ ⟨j0, j1, j2, j3, j4, j5, j6, j7, -⟩
              refine f_re (L' := [pt (blk (fa27 17)) (.cells (bC x11) 39), pt (blk (fa27 18)) (.cells (bC x17) 39)]) (by rfl) ?_
              refine f_rebase (d := 15) (v := .slice p7 (xl.length) (c8)) j0 ?_
              refine f_rebase (d := 17) (v := .pointer (some ⟨(blk (fa27 17)), 0, none⟩)) j1 ?_
              refine f_rebase (d := 18) (v := .pointer (some ⟨(blk (fa27 18)), 0, none⟩)) j2 ?_
              refine f_rebase (d := 24) (v := .slice p54 (ml.length) (c55)) j3 ?_
              refine f_rebase (d := 27) (v := .slice p73 (ol.length) (c74)) j4 ?_
              refine f_rebase (d := 30) (v := Nx (k)) j5 ?_
              refine f_rebase (d := 205) (v := Nx (xl.length)) j6 ?_
              refine f_rebase (d := 206) (v := Nx (k)) j7 ?_
              refine f_rebase (d := 235) (v := .bool false) k26 ?_
              refine f_then ?_
              refine c_no rfl ?_
              refine c_skip ?_
              refine f_then ?_
              refine c_seq ?_
              refine c_any [⟨[], [], [0], [236], fun f => f 236 = Nx (k)⟩, ⟨[], [], [1], [237], fun f => f 237 = .slice p7 (xl.length) (c8)⟩, ⟨[], [], [2], [238], fun f => f 238 = .pointer (some ⟨(blk (fa27 17)), 0, none⟩)⟩, ⟨[2], [2], [], [239], fun f => f 239 = Ix (x11.id)⟩, ⟨[1, 2, 3], [1, 3], [], [240], fun f => f 240 = Ix (placeI xl x11.id)⟩, ⟨[0, 1, 2, 3, 4], [0, 4], [], [241], fun f => f 241 = .bool false⟩, ⟨[0, 1, 2, 3, 4, 5], [5], [], [242], fun f => f 242 = .bool false⟩, ⟨[0, 1, 2, 3, 4, 5, 6], [6], [0], [243], fun f => f 243 = undef⟩, ⟨[0, 1, 2, 3, 4, 5, 6], [6], [1], [244], fun f => f 244 = undef⟩, ⟨[0, 1, 2, 3, 4, 5, 6], [6], [3], [245], fun f => f 245 = undef⟩, ⟨[0, 1, 2, 3, 4, 5, 6, 9], [9, 6], [], [246], fun f => f 246 = undef⟩, ⟨[0, 1, 2, 3, 4, 5, 6, 8, 9, 10], [8, 10, 6], [], [247], fun f => f 247 = undef⟩, ⟨[0, 1, 2, 3, 4, 5, 6, 7, 8, 9, 10, 11], [7, 11, 6], [], [248], fun f => f 248 = undef⟩, ⟨[0, 1, 2, 3, 4, 5, 6, 7, 8, 9, 10, 11, 12], [6, 12], [], [249], fun f => f 249 = .bool false⟩, ⟨[0, 1, 2, 3, 4, 5, 6, 7, 8, 9, 10, 11, 12, 13], [13], [], [250], fun f => f 250 = .bool false⟩, ⟨[0, 1, 2, 3, 4, 5, 6, 7, 8, 9, 10, 11, 12, 13, 14], [14], [4], [251], fun f => f 251 = undef⟩, ⟨[0, 1, 2, 3, 4, 5, 6, 7, 8, 9, 10, 11, 12, 13, 14], [14], [4], [252], fun f => f 252 = undef⟩, ⟨[0, 1, 2, 3, 4, 5, 6, 7, 8, 9, 10, 11, 12, 13, 14], [14], [1], [253], fun f => f 253 = undef⟩, ⟨[0, 1, 2, 3, 4, 5, 6, 7, 8, 9, 10, 11, 12, 13, 14], [14], [0], [254], fun f => f 254 = undef⟩, ⟨[0, 1, 2, 3, 4, 5, 6, 7, 8, 9, 10, 11, 12, 13, 14, 17, 18], [17, 18, 14], [], [255], fun f => f 255 = undef⟩, ⟨[0, 1, 2, 3, 4, 5, 6, 7, 8, 9, 10, 11, 12, 13, 14, 17, 18, 19], [19, 14], [], [256], fun f => f 256 = undef⟩, ⟨[0, 1, 2, 3, 4, 5, 6, 7, 8, 9, 10, 11, 12, 13, 14, 17, 18, 19, 20], [20, 14], [], [257], fun f => f 257 = undef⟩, ⟨[0, 1, 2, 3, 4, 5, 6, 7, 8, 9, 10, 11, 12, 13, 14, 17, 18, 19, 20, 21], [21, 14], [], [258], fun f => f 258 = undef⟩, ⟨[0, 1, 2, 3, 4, 5, 6, 7, 8, 9, 10, 11, 12, 13, 14, 16, 17, 18, 19, 20, 21, 22], [16, 22, 14], [], [259], fun f => f 259 = undef⟩, ⟨[0, 1, 2, 3, 4, 5, 6, 7, 8, 9, 10, 11, 12, 13, 14, 15, 16, 17, 18, 19, 20, 21, 22, 23], [15, 23, 14], [], [260], fun f => f 260 = undef⟩, ⟨[0, 1, 2, 3, 4, 5, 6, 7, 8, 9, 10, 11, 12, 13, 14, 15, 16, 17, 18, 19, 20, 21, 22, 23, 24], [24, 14], [], [261], fun f => f 261 = undef⟩, ⟨[0, 1, 2, 3, 4, 5, 6, 7, 8, 9, 10, 11, 12, 13, 14, 15, 16, 17, 18, 19, 20, 21, 22, 23, 24, 25], [25, 14], [], [262], fun f => f 262 = undef⟩, ⟨[0, 1, 2, 3, 4, 5, 6, 7, 8, 9, 10, 11, 12, 13, 14], [14], [1], [263], fun f => f 263 = undef⟩, ⟨[0, 1, 2, 3, 4, 5, 6, 7, 8, 9, 10, 11, 12, 13, 14], [14], [0], [264], fun f => f 264 = undef⟩, ⟨[0, 1, 2, 3, 4, 5, 6, 7, 8, 9, 10, 11, 12, 13, 14], [14], [0], [265], fun f => f 265 = undef⟩, ⟨[0, 1, 2, 3, 4, 5, 6, 7, 8, 9, 10, 11, 12, 13, 14, 29], [29, 14], [], [266], fun f => f 266 = undef⟩, ⟨[0, 1, 2, 3, 4, 5, 6, 7, 8, 9, 10, 11, 12, 13, 14, 27, 28, 29, 30], [27, 28, 30, 14], [], [267], fun f => f 267 = undef⟩, ⟨[0, 1, 2, 3, 4, 5, 6, 7, 8, 9, 10, 11, 12, 13, 14, 15, 16, 17, 18, 19, 20, 21, 22, 23, 24, 25, 26, 27, 28, 29, 30, 31], [26, 31, 14], [], [268], fun f => f 268 = undef⟩, ⟨[0, 1, 2, 3, 4, 5, 6, 7, 8, 9, 10, 11, 12, 13, 14, 15, 16, 17, 18, 19, 20, 21, 22, 23, 24, 25, 26, 27, 28, 29, 30, 31, 32], [32, 14], [], [269], fun f => f 269 = undef⟩, ⟨[0, 1, 2, 3, 4, 5, 6, 7, 8, 9, 10, 11, 12, 13, 14, 15, 16, 17, 18, 19, 20, 21, 22, 23, 24, 25, 26, 27, 28, 29, 30, 31, 32, 33], [14, 33], [], [270], fun f => f 270 = .bool false⟩] [⟨none, none, [3], [], fun _ => pt (blk (fa27 17)) (.cells (bC x11) 39)⟩, ⟨none, none, [], [], fun _ => pt (blk (fa27 18)) (.cells (bC x17) 39)⟩] [(30, Nx (k)), (15, .slice p7 (xl.length) (c8)), (17, .pointer (some ⟨(blk (fa27 17)), 0, none⟩)), (18, .pointer (some ⟨(blk (fa27 18)), 0, none⟩)), (27, .slice p73 (ol.length) (c74)), (24, .slice p54 (ml.length) (c55)), (205, Nx (xl.length)), (206, Nx (k))] [1, 2, 3, 5, 4, 6, 7] [] (by kernel_rfl) (by kernel_rfl) (by kernel_rfl) (by kernel_rfl) rfl ⟨rfl, rfl, rfl, rfl, rfl, rfl, rfl, rfl, trivial⟩ ⟨?_, ?_, ?_, ?_, ?_, ?_, ?_, ?_, ?_, ?_, ?_, ?_, ?_, ?_, ?_, ?_, ?_, ?_, ?_, ?_, ?_, ?_, ?_, ?_, ?_, ?_, ?_, ?_, ?_, ?_, ?_, ?_, ?_, ?_, ?_, trivial⟩ ?_
              · rintro f M - ⟨i0, -⟩
                have hs30 : f 30 = Nx (k) := i0
                refine ob_start (L' := M) (by rfl) (up_cons rfl hs30) ?_
                refine l_val (v := Nx (k)) rfl rfl rfl (e_move) ?_
                refine l_nil ?_
                exact f_owes_d (up_cons rfl hs30) rfl (List.Perm.refl _)
              · rintro f M - ⟨i0, -⟩
                have hs15 : f 15 = .slice p7 (xl.length) (c8) := i0
                refine ob_start (L' := M) (by rfl) (up_cons rfl hs15) ?_
                refine l_val (v := .slice p7 (xl.length) (c8)) rfl rfl rfl (e_move) ?_
                refine l_nil ?_
                exact f_owes_d (up_cons rfl hs15) rfl (List.Perm.refl _)
              · rintro f M - ⟨i0, -⟩
                have hs17 : f 17 = .pointer (some ⟨(blk (fa27 17)), 0, none⟩) := i0
                refine ob_start (L' := M) (by rfl) (up_cons rfl hs17) ?_
                refine l_val (v := .pointer (some ⟨(blk (fa27 17)), 0, none⟩)) rfl rfl rfl (e_fieldPt (b := (blk (fa27 17))) (o := 0) rfl tf27) ?_
                refine l_nil ?_
                exact f_owes_d (up_cons rfl hs17) rfl (List.Perm.refl _)
              · rintro f M ⟨k0, -⟩ -
                have hs238 : f 238 = .pointer (some ⟨(blk (fa27 17)), 0, none⟩) := k0
                refine ob_start (L' := pt (blk (fa27 17)) (.cells (bC x11) 39) :: M) (by rfl) (up_cons rfl hs238) ?_
                refine l_val (v := Ix (x11.id)) rfl rfl rfl (e_load1 tf11 (v := Ix (x11.id)) rfl (k_pt 0 (cs := (bC x11)) (vs := [Ix (x11.id)]) rfl rfl)) ?_
                refine l_nil ?_
                exact f_owes_d (up_cons rfl hs238) rfl (perm_front 0 rfl)
              · rintro f M ⟨k0, k1, -⟩ -
                have hs237 : f 237 = .slice p7 (xl.length) (c8) := k0
                have hs239 : f 239 = Ix (x11.id) := k1
                refine ob_start (L' := M) (by rfl) (up_cons (up_cons rfl hs237) hs239) ?_
                refine l_call rfl rfl rfl (cl_value (fst := []) (cap := []) (vs := [.slice p7 (xl.length) (c8), Ix (x11.id)]) (all := [.slice p7 (xl.length) (c8), Ix (x11.id)]) tf87 rfl rfl rfl) ?_
                intro w hw
                obtain ⟨β1, sb, kn, hw1, back⟩ := St.frame_all hw
                refine (place_ok β1 w hw1 _ xl (Sl.mono _ _ _ _ _ sb hslX) x11.id).mono ?_
                rintro e w' ⟨rfl, hw'⟩
                refine ⟨_, rfl, _, back _ _ hw', ?_⟩
                clear hw hw1 hw' back kn sb
                refine l_nil ?_
                exact f_owes_d (up_cons (up_cons rfl hs237) hs239) rfl (List.Perm.refl _)
              · rintro f M ⟨k0, k1, -⟩ -
                have hs236 : f 236 = Nx (k) := k0
                have hs240 : f 240 = Ix (placeI xl x11.id) := k1
                refine ob_start (L' := M) (by rfl) (up_cons (up_cons rfl hs236) hs240) ?_
                refine l_val (v := .bool false) rfl rfl rfl ((ev_f hg83 (e_neq (a := ((k : Nat) : Int)) (b := (placeI xl x11.id)) rfl rfl))) ?_
                refine l_nil ?_
                exact f_owes_d (up_cons (up_cons rfl hs236) hs240) rfl (List.Perm.refl _)
              · rintro f M ⟨k0, -⟩ -
                have hs241 : f 241 = .bool false := k0
                refine ob_start (L' := M) (by rfl) (up_cons rfl hs241) ?_
                refine l_val (v := .bool false) rfl rfl rfl (e_move) ?_
                refine l_nil ?_
                exact f_owes_d (up_cons rfl hs241) rfl (List.Perm.refl _)
              · rintro f M ⟨k0, -⟩ ⟨i0, -⟩
                have hs30 : f 30 = Nx (k) := i0
                have hs242 : f 242 = .bool false := k0
                refine ob_start (L' := M) (by rfl) (up_cons (up_cons rfl hs30) hs242) ?_
                refine l_skip rfl rfl rfl rfl rfl rfl ?_
                refine l_nil ?_
                exact f_owes_d (up_cons (up_cons rfl hs30) hs242) rfl (List.Perm.refl _)
              · rintro f M ⟨k0, -⟩ ⟨i0, -⟩
                have hs15 : f 15 = .slice p7 (xl.length) (c8) := i0
                have hs242 : f 242 = .bool false := k0
                refine ob_start (L' := M) (by rfl) (up_cons (up_cons rfl hs15) hs242) ?_
                refine l_skip rfl rfl rfl rfl rfl rfl ?_
                refine l_nil ?_
                exact f_owes_d (up_cons (up_cons rfl hs15) hs242) rfl (List.Perm.refl _)
              · rintro f M ⟨k0, -⟩ ⟨i0, -⟩
                have hs18 : f 18 = .pointer (some ⟨(blk (fa27 18)), 0, none⟩) := i0
                have hs242 : f 242 = .bool false := k0
                refine ob_start (L' := M) (by rfl) (up_cons (up_cons rfl hs18) hs242) ?_
                refine l_skip rfl rfl rfl rfl rfl rfl ?_
                refine l_nil ?_
                exact f_owes_d (up_cons (up_cons rfl hs18) hs242) rfl (List.Perm.refl _)
              · rintro f M ⟨k0, k1, -⟩ -
                have hs245 : f 245 = undef := k0
                have hs242 : f 242 = .bool false := k1
                refine ob_start (L' := M) (by rfl) (up_cons (up_cons rfl hs245) hs242) ?_
                refine l_skip rfl rfl rfl rfl rfl rfl ?_
                refine l_nil ?_
                exact f_owes_d (up_cons (up_cons rfl hs245) hs242) rfl (List.Perm.refl _)
              · rintro f M ⟨k0, k1, k2, -⟩ -
                have hs244 : f 244 = undef := k0
                have hs246 : f 246 = undef := k1
                have hs242 : f 242 = .bool false := k2
                refine ob_start (L' := M) (by rfl) (up_cons (up_cons (up_cons rfl hs244) hs246) hs242) ?_
                refine l_skip rfl rfl rfl rfl rfl rfl ?_
                refine l_nil ?_
                exact f_owes_d (up_cons (up_cons (up_cons rfl hs244) hs246) hs242) rfl (List.Perm.refl _)
              · rintro f M ⟨k0, k1, k2, -⟩ -
                have hs243 : f 243 = undef := k0
                have hs247 : f 247 = undef := k1
                have hs242 : f 242 = .bool false := k2
                refine ob_start (L' := M) (by rfl) (up_cons (up_cons (up_cons rfl hs243) hs247) hs242) ?_
                refine l_skip rfl rfl rfl rfl rfl rfl ?_
                refine l_nil ?_
                exact f_owes_d (up_cons (up_cons (up_cons rfl hs243) hs247) hs242) rfl (List.Perm.refl _)
              · rintro f M ⟨k0, k1, -⟩ -
                have hs242 : f 242 = .bool false := k0
                have hs248 : f 248 = undef := k1
                refine ob_start (L' := M) (by rfl) (up_cons (up_cons rfl hs242) hs248) ?_
                refine l_val (v := .bool false) rfl rfl rfl (e_pick_f rfl) ?_
                refine l_nil ?_
                exact f_owes_d (up_cons (up_cons rfl hs242) hs248) rfl (List.Perm.refl _)
              · rintro f M ⟨k0, -⟩ -
                have hs249 : f 249 = .bool false := k0
                refine ob_start (L' := M) (by rfl) (up_cons rfl hs249) ?_
                refine l_val (v := .bool false) rfl rfl rfl (e_move) ?_
                refine l_nil ?_
                exact f_owes_d (up_cons rfl hs249) rfl (List.Perm.refl _)
              · rintro f M ⟨k0, -⟩ ⟨i0, -⟩
                have hs27 : f 27 = .slice p73 (ol.length) (c74) := i0
                have hs250 : f 250 = .bool false := k0
                refine ob_start (L' := M) (by rfl) (up_cons (up_cons rfl hs27) hs250) ?_
                refine l_skip rfl rfl rfl rfl rfl rfl ?_
                refine l_nil ?_
                exact f_owes_d (up_cons (up_cons rfl hs27) hs250) rfl (List.Perm.refl _)
              · rintro f M ⟨k0, -⟩ ⟨i0, -⟩
                have hs27 : f 27 = .slice p73 (ol.length) (c74) := i0
                have hs250 : f 250 = .bool false := k0
                refine ob_start (L' := M) (by rfl) (up_cons (up_cons rfl hs27) hs250) ?_
                refine l_skip rfl rfl rfl rfl rfl rfl ?_
                refine l_nil ?_
                exact f_owes_d (up_cons (up_cons rfl hs27) hs250) rfl (List.Perm.refl _)
              · rintro f M ⟨k0, -⟩ ⟨i0, -⟩
                have hs15 : f 15 = .slice p7 (xl.length) (c8) := i0
                have hs250 : f 250 = .bool false := k0
                refine ob_start (L' := M) (by rfl) (up_cons (up_cons rfl hs15) hs250) ?_
                refine l_skip rfl rfl rfl rfl rfl rfl ?_
                refine l_nil ?_
                exact f_owes_d (up_cons (up_cons rfl hs15) hs250) rfl (List.Perm.refl _)
              · rintro f M ⟨k0, -⟩ ⟨i0, -⟩
                have hs30 : f 30 = Nx (k) := i0
                have hs250 : f 250 = .bool false := k0
                refine ob_start (L' := M) (by rfl) (up_cons (up_cons rfl hs30) hs250) ?_
                refine l_skip rfl rfl rfl rfl rfl rfl ?_
                refine l_nil ?_
                exact f_owes_d (up_cons (up_cons rfl hs30) hs250) rfl (List.Perm.refl _)
              · rintro f M ⟨k0, k1, k2, -⟩ -
                have hs253 : f 253 = undef := k0
                have hs254 : f 254 = undef := k1
                have hs250 : f 250 = .bool false := k2
                refine ob_start (L' := M) (by rfl) (up_cons (up_cons (up_cons rfl hs253) hs254) hs250) ?_
                refine l_skip rfl rfl rfl rfl rfl rfl ?_
                refine l_nil ?_
                exact f_owes_d (up_cons (up_cons (up_cons rfl hs253) hs254) hs250) rfl (List.Perm.refl _)
              · rintro f M ⟨k0, k1, -⟩ -
                have hs255 : f 255 = undef := k0
                have hs250 : f 250 = .bool false := k1
                refine ob_start (L' := M) (by rfl) (up_cons (up_cons rfl hs255) hs250) ?_
                refine l_skip rfl rfl rfl rfl rfl rfl ?_
                refine l_nil ?_
                exact f_owes_d (up_cons (up_cons rfl hs255) hs250) rfl (List.Perm.refl _)
              · rintro f M ⟨k0, k1, -⟩ -
                have hs256 : f 256 = undef := k0
                have hs250 : f 250 = .bool false := k1
                refine ob_start (L' := M) (by rfl) (up_cons (up_cons rfl hs256) hs250) ?_
                refine l_skip rfl rfl rfl rfl rfl rfl ?_
                refine l_nil ?_
                exact f_owes_d (up_cons (up_cons rfl hs256) hs250) rfl (List.Perm.refl _)
              · rintro f M ⟨k0, k1, -⟩ -
                have hs257 : f 257 = undef := k0
                have hs250 : f 250 = .bool false := k1
                refine ob_start (L' := M) (by rfl) (up_cons (up_cons rfl hs257) hs250) ?_
                refine l_skip rfl rfl rfl rfl rfl rfl ?_
                refine l_nil ?_
                exact f_owes_d (up_cons (up_cons rfl hs257) hs250) rfl (List.Perm.refl _)
              · rintro f M ⟨k0, k1, k2, -⟩ -
                have hs252 : f 252 = undef := k0
                have hs258 : f 258 = undef := k1
                have hs250 : f 250 = .bool false := k2
                refine ob_start (L' := M) (by rfl) (up_cons (up_cons (up_cons rfl hs252) hs258) hs250) ?_
                refine l_skip rfl rfl rfl rfl rfl rfl ?_
                refine l_nil ?_
                exact f_owes_d (up_cons (up_cons (up_cons rfl hs252) hs258) hs250) rfl (List.Perm.refl _)
              · rintro f M ⟨k0, k1, k2, -⟩ -
                have hs251 : f 251 = undef := k0
                have hs259 : f 259 = undef := k1
                have hs250 : f 250 = .bool false := k2
                refine ob_start (L' := M) (by rfl) (up_cons (up_cons (up_cons rfl hs251) hs259) hs250) ?_
                refine l_skip rfl rfl rfl rfl rfl rfl ?_
                refine l_nil ?_
                exact f_owes_d (up_cons (up_cons (up_cons rfl hs251) hs259) hs250) rfl (List.Perm.refl _)
              · rintro f M ⟨k0, k1, -⟩ -
                have hs260 : f 260 = undef := k0
                have hs250 : f 250 = .bool false := k1
                refine ob_start (L' := M) (by rfl) (up_cons (up_cons rfl hs260) hs250) ?_
                refine l_skip rfl rfl rfl rfl rfl rfl ?_
                refine l_nil ?_
                exact f_owes_d (up_cons (up_cons rfl hs260) hs250) rfl (List.Perm.refl _)
              · rintro f M ⟨k0, k1, -⟩ -
                have hs261 : f 261 = undef := k0
                have hs250 : f 250 = .bool false := k1
                refine ob_start (L' := M) (by rfl) (up_cons (up_cons rfl hs261) hs250) ?_
                refine l_skip rfl rfl rfl rfl rfl rfl ?_
                refine l_nil ?_
                exact f_owes_d (up_cons (up_cons rfl hs261) hs250) rfl (List.Perm.refl _)
              · rintro f M ⟨k0, -⟩ ⟨i0, -⟩
                have hs15 : f 15 = .slice p7 (xl.length) (c8) := i0
                have hs250 : f 250 = .bool false := k0
                refine ob_start (L' := M) (by rfl) (up_cons (up_cons rfl hs15) hs250) ?_
                refine l_skip rfl rfl rfl rfl rfl rfl ?_
                refine l_nil ?_
                exact f_owes_d (up_cons (up_cons rfl hs15) hs250) rfl (List.Perm.refl _)
              · rintro f M ⟨k0, -⟩ ⟨i0, -⟩
                have hs30 : f 30 = Nx (k) := i0
                have hs250 : f 250 = .bool false := k0
                refine ob_start (L' := M) (by rfl) (up_cons (up_cons rfl hs30) hs250) ?_
                refine l_skip rfl rfl rfl rfl rfl rfl ?_
                refine l_nil ?_
                exact f_owes_d (up_cons (up_cons rfl hs30) hs250) rfl (List.Perm.refl _)
              · rintro f M ⟨k0, -⟩ ⟨i0, -⟩
                have hs30 : f 30 = Nx (k) := i0
                have hs250 : f 250 = .bool false := k0
                refine ob_start (L' := M) (by rfl) (up_cons (up_cons rfl hs30) hs250) ?_
                refine l_skip rfl rfl rfl rfl rfl rfl ?_
                refine l_nil ?_
                exact f_owes_d (up_cons (up_cons rfl hs30) hs250) rfl (List.Perm.refl _)
              · rintro f M ⟨k0, k1, -⟩ -
                have hs265 : f 265 = undef := k0
                have hs250 : f 250 = .bool false := k1
                refine ob_start (L' := M) (by rfl) (up_cons (up_cons rfl hs265) hs250) ?_
                refine l_skip rfl rfl rfl rfl rfl rfl ?_
                refine l_nil ?_
                exact f_owes_d (up_cons (up_cons rfl hs265) hs250) rfl (List.Perm.refl _)
              · rintro f M ⟨k0, k1, k2, k3, -⟩ -
                have hs263 : f 263 = undef := k0
                have hs264 : f 264 = undef := k1
                have hs266 : f 266 = undef := k2
                have hs250 : f 250 = .bool false := k3
                refine ob_start (L' := M) (by rfl) (up_cons (up_cons (up_cons (up_cons rfl hs263) hs264) hs266) hs250) ?_
                refine l_skip rfl rfl rfl rfl rfl rfl ?_
                refine l_nil ?_
                exact f_owes_d (up_cons (up_cons (up_cons (up_cons rfl hs263) hs264) hs266) hs250) rfl (List.Perm.refl _)
              · rintro f M ⟨k0, k1, k2, -⟩ -
                have hs262 : f 262 = undef := k0
                have hs267 : f 267 = undef := k1
                have hs250 : f 250 = .bool false := k2
                refine ob_start (L' := M) (by rfl) (up_cons (up_cons (up_cons rfl hs262) hs267) hs250) ?_
                refine l_skip rfl rfl rfl rfl rfl rfl ?_
                refine l_nil ?_
                exact f_owes_d (up_cons (up_cons (up_cons rfl hs262) hs267) hs250) rfl (List.Perm.refl _)
              · rintro f M ⟨k0, k1, -⟩ -
                have hs268 : f 268 = undef := k0
                have hs250 : f 250 = .bool false := k1
                refine ob_start (L' := M) (by rfl) (up_cons (up_cons rfl hs268) hs250) ?_
                refine l_skip rfl rfl rfl rfl rfl rfl ?_
                refine l_nil ?_
                exact f_owes_d (up_cons (up_cons rfl hs268) hs250) rfl (List.Perm.refl _)
              · rintro f M ⟨k0, k1, -⟩ -
                have hs250 : f 250 = .bool false := k0
                have hs269 : f 269 = undef := k1
                refine ob_start (L' := M) (by rfl) (up_cons (up_cons rfl hs250) hs269) ?_
                refine l_val (v := .bool false) rfl rfl rfl (e_pick_f rfl) ?_
                refine l_nil ?_
                exact f_owes_d (up_cons (up_cons rfl hs250) hs269) rfl (List.Perm.refl _)
              rintro fa144 ⟨-, -, -, -, -, -, -, -, -, -, -, -, -, -, -, -, -, -, -, -, -, -, -, -, -, -, -, -, -, -, -, -, -, -, k34, -⟩ ⟨j0, j1, j2, j3, j4, j5, j6, -⟩
              refine f_re (L' := [pt (blk (fa27 17)) (.cells (bC x11) 39), pt (blk (fa27 18)) (.cells (bC x17) 39)]) (by rfl) ?_
              refine f_rebase (d := 15) (v := .slice p7 (xl.length) (c8)) j0 ?_
              refine f_rebase (d := 17) (v := .pointer (some ⟨(blk (fa27 17)), 0, none⟩)) j1 ?_
              refine f_rebase (d := 18) (v := .pointer (some ⟨(blk (fa27 18)), 0, none⟩)) j2 ?_
              refine f_rebase (d := 24) (v := .slice p54 (ml.length) (c55)) j3 ?_
              refine f_rebase (d := 27) (v := .slice p73 (ol.length) (c74)) j4 ?_
              refine f_rebase (d := 205) (v := Nx (xl.length)) j5 ?_
              refine f_rebase (d := 206) (v := Nx (k)) j6 ?_
              refine f_rebase (d := 270) (v := .bool false) k34 ?_
              refine f_then ?_
              refine c_no rfl ?_
              refine c_skip ?_
              refine f_block ?_
              refine f_then ?_
              refine c_region ?_
              refine l_val (v := Nx (k + 1)) rfl rfl rfl (e_add (a := ((k : Nat) : Int)) (b := (1 : Int)) rfl rfl (i64n (by omega) (by omega))) ?_
              refine l_val (v := Nx (k + 1)) rfl rfl rfl (e_move) ?_
              refine l_nil ?_
              exact f_cut ⟨k + 1, ⟨⟨rfl, rfl, rfl, rfl, rfl, rfl, rfl⟩, rfl, by omega⟩, (show xl.length - (k + 1) < xl.length - k from by omega)⟩
          ·
            refine c_exit ?_
            refine f_then_exit ?_
            refine f_then_exit ?_
            refine f_exit ?_
            refine f_then ?_
            refine c_seq ?_
            refine c_region ?_
            refine l_val (v := .bool true) rfl rfl rfl (e_assign) ?_
            refine l_nil ?_
            refine f_then ?_
            refine c_ret ?_
            refine ret1 Try.results7 (v := .bool true) rfl ?_
            intro w hw
            exact ⟨rfl, (st_mask [false, false] rfl (bk1 _ _ (st_mask [false] rfl (bkX _ _ (st_mask [false] rfl (bkM _ _ (st_mask [false] rfl (bkO _ _ (st_mask [false, false] rfl hw)))))))))⟩
end Go.Proofs
