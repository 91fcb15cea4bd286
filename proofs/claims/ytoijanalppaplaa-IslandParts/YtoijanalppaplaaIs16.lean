/-
  IslandParts: walked. Printed by a program of my own.
-/
import Derived.Test.YtoijanalppaplaaIs14
import Derived.Test.YtoijanalppaplaaIsLaw7
namespace Go.Isl
open Go.Sl Go.Brd Go.Stp Go.Proofs
theorem body_eq {x y : KB} : bodyE x = bodyE y ↔ x = y := by
  constructor
  · intro h; cases x; cases y; simp at h; simp [h]
  · rintro rfl; rfl
theorem flat_one (r : List Int) : [r].flatten = r := by simp
theorem IsS.heads_len {fb : List KB} {rs : List KR} {gx gy : Int} {xl : List (List Int)} (h : IsS fb rs gx gy xl) : xl.length ≤ fb.length := by
  rw [h.eq]; unfold listsC classes firsts
  rw [List.length_map, List.length_map]
  exact Nat.le_trans (List.length_filter_le _ _) (by rw [List.length_range]; exact Nat.le_refl _)
theorem k_hd {β : Base} {L : List Res} {p : Option Addr} {c : Nat} {hz : List HI} (i : Nat) (h1 : L[i]? = some (rowF HdIF 41 p c hz)) (hb : ∀ h ∈ hz, Sl IntF.R β.heap (.slice h.p h.xs.length h.c) h.xs) : Knows β L (fun h => Sl IntF.R.slice h (.slice p hz.length c) (hz.map (·.xs))) := fun h hs hr => by
  obtain ⟨a, ha, hra⟩ := hr _ (List.mem_of_getElem? h1)
  obtain ⟨p', c', e, h1, h2, h3⟩ := (rowF_sl hra).get
  injection e with e1 _ e3
  subst e1; subst e3
  refine ⟨p, c, by rw [List.length_map], by rw [List.length_map]; exact h1, h2, fun j x hx => ?_⟩
  rw [List.getElem?_map] at hx
  cases hj : hz[j]? with
  | none => rw [hj] at hx; cases hx
  | some y =>
    rw [hj] at hx
    injection hx with hx
    subst hx
    obtain ⟨q1, cs, q2, q3⟩ := h3 j y hj
    exact ⟨q1, cs, Cs.mono _ _ _ _ ha q2, .slice y.p y.xs.length y.c, q3, Sl.mono _ _ _ _ _ hs (hb y (List.mem_of_getElem? hj))⟩
end Go.Isl
namespace Go.Proofs
open Go Go.Sl Go.Brd Go.Stp Go.Isl
theorem partO_ok (β : Base) (w : World) (hw : St β [] w) (v u l : Value) (gx gy : Int) (bs : List KB) (rs : List KR) (ids : List Int) (hs_ : Sl KBR β.heap v bs) (hr_ : Sl KRR β.heap u rs) (hi_ : Sl IntF.R β.heap l ids) (hgx : -9223372036854775808 ≤ gx ∧ gx ≤ 9223372036854775807) (hgy : -9223372036854775808 ≤ gy ∧ gy ≤ 9223372036854775807) (hok : okS bs rs gx gy) (hf : ∀ x ∈ ids, freeAt bs x) : Calls Try.prog 19 #[.agg #[v, u, Ix gx, Ix gy], l] w fun r w' => ∃ p c q d, r = .returned (.tuple #[.agg #[.slice p (partB ids bs).length c, .slice q (partR (partB ids bs) rs).length d, Ix gx, Ix gy], Ix 0]) ∧ St β [rowF BodyF 39 p c (partB ids bs), rowF RopeF 49 q d (partR (partB ids bs) rs)] w' :=
  (part_ok β w hw v u l gx gy bs rs ids hs_ hr_ hi_ hgx hgy).mono fun r w' ⟨p, c, q, d, h1, h2⟩ => by
    have he := errPt_ok hok hf
    obtain ⟨e1, e2, e3⟩ := pt_good he
    rw [e1, e2, e3, e3, he] at h1
    rw [e1, e2] at h2
    exact ⟨p, c, q, d, h1, h2⟩
theorem islO_ok (β : Base) (w : World) (hw : St β [] w) (v u : Value) (gx gy : Int) (bs : List KB) (rs : List KR) (hs_ : Sl KBR β.heap v bs) (hr_ : Sl KRR β.heap u rs) (hgx : -9223372036854775808 ≤ gx ∧ gx ≤ 9223372036854775807) (hgy : -9223372036854775808 ≤ gy ∧ gy ≤ 9223372036854775807) (hok : okS bs rs gx gy) : Calls Try.prog 11 #[.agg #[v, u, Ix gx, Ix gy]] w fun r w' => ∃ p c hs, hs.map (·.xs) = islR bs rs gx gy ∧ r = .returned (.tuple #[.slice p hs.length c, Ix 0]) ∧ St β [Sat (llL p c hs)] w' :=
  (islandsM_ok β w hw v u gx gy bs rs hs_ hr_ hgx hgy).mono fun r w' ⟨p, c, hs, h1, h2, h3⟩ => by
    rw [show errI bs rs gx gy = 0 from if_pos hok] at h2
    exact ⟨p, c, hs, h1, h2, h3⟩
theorem tf94 : lay Try.prog 10000 30 = some [.int .i64, .int .i64] := by kernel_rfl
theorem tf95 : isAggT Try.prog 30 = true := by kernel_rfl
theorem tf96 : Try.prog.eqGuardType Try.prog.depth 30 = false := by kernel_rfl
theorem tf97 : lay Try.prog 10000 39 = some [.int .i64, .int .i64, .int .i64, .int .i64, .int .i64, .int .i64, .int .i64, .bool, .bool] := by kernel_rfl
theorem tf98 : isAggT Try.prog 39 = true := by kernel_rfl
theorem tf99 : Try.prog.eqGuardType Try.prog.depth 39 = false := by kernel_rfl
set_option maxHeartbeats 4000000 in
theorem parts_ok (β : Base) (w : World) (hw : St β [] w) (v u : Value) (fs : List KF) (us : List UInt8) (hs : Sl FormR β.heap v fs) (hu : Sl U8R β.heap u us) (gx gy : Int) (hgx8 : -128 ≤ gx ∧ gx ≤ 127) (hgy8 : -128 ≤ gy ∧ gy ≤ 127) (bits : Nat) (hbits : bits < 65536) : Calls Try.prog 5 #[v, u, .int .i8 gx, .int .i8 gy, .int .u16 ((bits : Nat) : Int)] w fun r w' => r = .returned (.bool true) ∧ St β [] w' := by
  refine enter (n := 165) Try.func5 rfl Try.ntmps5 rfl ?_ hw
  refine c_seq ?_
  refine c_region ?_
  refine l_val (v := .bool false) rfl rfl rfl (e_assign) ?_
  refine l_nil ?_
  refine f_then ?_
  refine c_seq ?_
  refine c_seq ?_
  refine c_region ?_
  refine l_call rfl rfl rfl (cl_value (fst := []) (cap := []) (vs := []) (all := []) tf81 rfl rfl rfl) ?_
  intro w hw
  obtain ⟨β1, sb, kn, hw1, back⟩ := St.frame_all hw
  refine (awake_ok β1 w hw1).mono ?_
  rintro e w' ⟨rfl, hw'⟩
  refine ⟨_, rfl, _, back _ _ hw', ?_⟩
  clear hw hw1 hw' back kn sb
  refine l_val (v := .bool false) rfl rfl rfl (e_not (a := true) rfl) ?_
  refine l_nil ?_
  refine f_then ?_
  refine c_no rfl ?_
  refine c_skip ?_
  refine f_then ?_
  refine c_seq ?_
  refine c_region ?_
  refine l_val (v := v) rfl rfl rfl (e_move) ?_
  refine l_val (v := u) rfl rfl rfl (e_move) ?_
  refine l_val (v := .int .i8 (gx)) rfl rfl rfl (e_move) ?_
  refine l_val (v := .int .i8 (gy)) rfl rfl rfl (e_move) ?_
  refine l_call rfl rfl rfl (cl_value (fst := []) (cap := []) (vs := [v, u, .int .i8 (gx), .int .i8 (gy)]) (all := [v, u, .int .i8 (gx), .int .i8 (gy)]) tf82 rfl rfl rfl) ?_
  intro w hw
  obtain ⟨β1, sb, kn, hw1, back⟩ := St.frame_all hw
  refine (made7_ok β1 w hw1 _ _ fs us (Sl.mono _ _ _ _ _ sb hs) (Sl.mono _ _ _ _ _ sb hu) gx gy hgx8 hgy8).mono ?_
  rintro e w' ⟨bs, R, p1, c2, q3, d4, rfl, hmP, hbl, hrl, hw'⟩
  refine ⟨_, rfl, _, back _ _ hw', ?_⟩
  clear hw hw1 hw' back kn sb
  refine l_mv rfl rfl rfl (m_alloc tf67) ?_
  rintro _ _ ⟨b5, rfl, rfl⟩
  refine l_mu rfl rfl (m_store 0 tf31 (b := b5) (o := 0) (T := 32) (cs := #[.slice none 0 0, .slice none 0 0, .int .i64 (0), .int .i64 (0)]) (cs' := #[.slice p1 (bs.length) c2, .slice q3 (R.length) d4, Ix ((Int.tmod gx 32)), Ix ((Int.tmod gy 32))]) (v := .agg #[.slice p1 (bs.length) c2, .slice q3 (R.length) d4, Ix ((Int.tmod gx 32)), Ix ((Int.tmod gy 32))]) rfl rfl rfl rfl rfl rfl rfl) ?_
  refine l_nil ?_
  refine f_then ?_
  refine c_seq ?_
  have hgX := tmod_bd gx
  have hgY := tmod_bd gy
  obtain ⟨gX, hgx1⟩ : ∃ z, z = Int.tmod gx 32 := ⟨_, rfl⟩
  obtain ⟨gY, hgy1⟩ : ∃ z, z = Int.tmod gy 32 := ⟨_, rfl⟩
  rw [← hgx1] at hgX hmP
  rw [← hgy1] at hgY hmP
  rw [← hgx1, ← hgy1]
  have hok := hmP.ok
  obtain ⟨hk1, hk2, hk3, hk4, hk5, hk6⟩ := id hok
  have hfew := hmP.few
  refine c_freeze2 (M := [pt b5 (.cells #[.slice p1 (bs.length) c2, .slice q3 (R.length) d4, Ix (gX), Ix (gY)] 32)]) (K := [rowF BodyF 39 p1 c2 bs, rowF RopeF 49 q3 d4 R]) rfl (fun βf ext1 kn1 bk1 => ?_)
  have hslB : Sl KBR βf.heap (.slice p1 bs.length c2) bs := kn1 _ (k_fl 0 (F := BodyF) rfl)
  obtain ⟨-, hcB, hmB, heB⟩ := hslB.parts
  have hslR : Sl KRR βf.heap (.slice q3 R.length d4) R := kn1 _ (k_fl 1 (F := RopeF) rfl)
  obtain ⟨-, hcR, hmR, heR⟩ := hslR.parts
  have hfb := freeB_len bs
  have hb16 := hmP.few
  have hr6 := hmP.ropes
  refine c_region ?_
  refine l_val (v := .agg #[.slice p1 (bs.length) (c2), .slice q3 (R.length) (d4), Ix (gX), Ix (gY)]) rfl rfl rfl (e_load tf31 (cs := [.slice p1 (bs.length) (c2), .slice q3 (R.length) (d4), Ix (gX), Ix (gY)]) rfl (k_pt 0 (cs := #[.slice p1 (bs.length) (c2), .slice q3 (R.length) (d4), Ix (gX), Ix (gY)]) (vs := [.slice p1 (bs.length) (c2), .slice q3 (R.length) (d4), Ix (gX), Ix (gY)]) rfl rfl) rfl) ?_
  refine l_call rfl rfl rfl (cl_value (fst := []) (cap := []) (vs := [.agg #[.slice p1 (bs.length) (c2), .slice q3 (R.length) (d4), Ix (gX), Ix (gY)]]) (all := [.agg #[.slice p1 (bs.length) (c2), .slice q3 (R.length) (d4), Ix (gX), Ix (gY)]]) tf75 rfl rfl rfl) ?_
  intro w hw
  obtain ⟨β1, sb, kn, hw1, back⟩ := St.frame_all hw
  refine (islO_ok β1 w hw1 _ _ gX gY bs R (Sl.mono _ _ _ _ _ sb hslB) (Sl.mono _ _ _ _ _ sb hslR) (by omega) (by omega) hok).mono ?_
  rintro e w' ⟨p6, c7, hs8, hx9, rfl, hw'⟩
  refine ⟨_, rfl, _, back _ _ hw', ?_⟩
  clear hw hw1 hw' back kn sb
  refine l_val (v := .tuple #[.slice p6 (hs8.length) c7, .int .i64 (0)]) rfl rfl rfl (e_move) ?_
  refine l_val (v := .slice p6 (hs8.length) c7) rfl rfl rfl (e_extract (vs := #[.slice p6 (hs8.length) c7, .int .i64 (0)]) rfl rfl) ?_
  refine l_val (v := .int .i64 (0)) rfl rfl rfl (e_extract (vs := #[.slice p6 (hs8.length) c7, .int .i64 (0)]) rfl rfl) ?_
  refine l_val (v := .slice p6 (hs8.length) c7) rfl rfl rfl (e_assign) ?_
  refine l_val (v := .int .i64 (0)) rfl rfl rfl (e_assign) ?_
  refine l_nil ?_
  refine f_then ?_
  refine c_seq ?_
  refine c_seq ?_
  refine c_region ?_
  refine l_val (v := .int .i64 (0)) rfl rfl rfl (e_move) ?_
  refine l_val (v := .bool false) rfl rfl rfl (e_neq (a := (0 : Int)) (b := (0 : Int)) rfl rfl) ?_
  refine l_nil ?_
  refine f_then ?_
  refine c_no rfl ?_
  refine c_skip ?_
  refine f_then ?_
  refine c_seq ?_
  refine c_perm (L' := [pt b5 (.cells #[.slice p1 (bs.length) (c2), .slice q3 (R.length) (d4), Ix (gX), Ix (gY)] 32), Sat (llL p6 c7 hs8)]) (perm_ix [1, 0] 2 rfl (by kernel_rfl) (by kernel_rfl)) ?_
  refine c_freeze2 (M := [pt b5 (.cells #[.slice p1 (bs.length) (c2), .slice q3 (R.length) (d4), Ix (gX), Ix (gY)] 32)]) (K := [Sat (llL p6 c7 hs8)]) rfl (fun βX extX knX bkX => ?_)
  have hslX := knX _ (k_ll 0 rfl)
  obtain ⟨xl, hqX⟩ : ∃ z, z = hs8.map (·.xs) := ⟨_, rfl⟩
  have hln : hs8.length = xl.length := by rw [hqX, List.length_map]
  rw [← hqX, hln] at hslX
  rw [hln]
  have hXX : xl = (islR bs R gX gY) := by rw [hqX, hx9]
  obtain ⟨-, hcX, hmX, heX⟩ := hslX.parts
  have hslB := Sl.mono _ _ _ _ _ extX.sub hslB
  have hslR := Sl.mono _ _ _ _ _ extX.sub hslR
  have heB := Elems.mono _ _ _ _ _ extX.sub heB
  have heR := Elems.mono _ _ _ _ _ extX.sub heR
  have hS : IsS (freeB bs) R gX gY xl := IsS.of hok hXX
  have hXl : xl.length ≤ 16 := by have := hS.heads_len; omega
  refine c_region ?_
  refine l_val (v := .slice none 0 0) rfl rfl rfl (e_assign) ?_
  refine l_nil ?_
  refine f_then ?_
  refine c_seq ?_
  refine c_region ?_
  refine l_val (v := .slice none 0 0) rfl rfl rfl (e_assign) ?_
  refine l_nil ?_
  refine f_then ?_
  refine c_seq ?_
  refine c_seq ?_
  refine c_emp (r := rowF HdIF 41 none 0 []) (row_nil _ _ _) ?_
  refine c_emp (r := rowF IntF 3 none 0 []) (row_nil _ _ _) ?_
  refine c_region ?_
  refine l_val (v := .slice p6 (xl.length) (c7)) rfl rfl rfl (e_move) ?_
  refine l_val (v := Nx (xl.length)) rfl rfl rfl (e_len (a := p6) (n := xl.length) (c := c7) rfl tf64) ?_
  refine l_val (v := .int .i64 (0)) rfl rfl rfl (e_move) ?_
  refine l_nil ?_
  refine f_then ?_
  refine c_block ?_
  refine c_loop (fun (x_ : Nat × List HI × Option Addr × Nat × Option Addr × Nat) (f : Fm) (L : List Res) => match x_ with | (k, hz, sp, sc, ip, ic) => (f 4 = .int .u16 (((bits : Nat)) : Int) ∧ f 11 = .pointer (some ⟨b5, 0, none⟩) ∧ f 12 = .slice p6 (xl.length) (c7) ∧ f 14 = .slice sp (hz.length) sc ∧ f 15 = .slice ip ((pickX bits 0 (xl.take k)).flatten.length) ic ∧ f 43 = Nx (xl.length) ∧ f 44 = Nx (k)) ∧ L = [rowF IntF 3 ip ic ((pickX bits 0 (xl.take k)).flatten), rowF HdIF 41 sp sc hz, pt b5 (.cells #[.slice p1 (bs.length) (c2), .slice q3 (R.length) (d4), Ix (gX), Ix (gY)] 32)] ∧ (k ≤ xl.length ∧ hz.map (·.xs) = (pickX bits 0 (xl.take k)) ∧ ∀ h ∈ hz, Sl IntF.R βX.heap (.slice h.p h.xs.length h.c) h.xs)) (fun (x_ : Nat × List HI × Option Addr × Nat × Option Addr × Nat) => match x_ with | (k, hz, sp, sc, ip, ic) => xl.length - k) (0, [], none, 0, none, 0) ?_ ?_
  · exact ⟨⟨rfl, rfl, rfl, rfl, rfl, rfl, rfl⟩, rfl, ⟨by omega, rfl, fun _ h => absurd h List.not_mem_nil⟩⟩
  rintro ⟨k, hz, sp, sc, ip, ic⟩ f0 L0 ⟨⟨hs4, hs11, hs12, hs14, hs15, hs43, hs44⟩, hL, ⟨hk, hzx, hzs⟩⟩
  subst L0
  refine rebase (d := 4) hs4 ?_
  refine rebase (d := 11) hs11 ?_
  refine rebase (d := 12) hs12 ?_
  refine rebase (d := 14) hs14 ?_
  refine rebase (d := 15) hs15 ?_
  refine rebase (d := 43) hs43 ?_
  refine rebase (d := 44) hs44 ?_
  clear hs4 hs11 hs12 hs14 hs15 hs43 hs44
  have hpk := pick_flat (bits := bits) hS k
  have hzl : hz.length ≤ 16 := by have h1 := congrArg List.length hzx; rw [List.length_map] at h1; have h2 := (pick_sub bits 0 (xl.take k)).length_le; rw [List.length_take] at h2; omega
  refine c_seq ?_
  refine c_region ?_
  refine l_val (v := .bool (decide (((k : Nat) : Int) < ((xl.length : Nat) : Int)))) rfl rfl rfl (e_lss (a := ((k : Nat) : Int)) (b := ((xl.length : Nat) : Int)) rfl rfl) ?_
  refine l_nil ?_
  refine f_then ?_
  refine c_seq ?_
  refine c_if (((k : Nat) : Int) < ((xl.length : Nat) : Int)) rfl (fun hc10 => ?_) (fun hc10 => ?_)
  ·
    refine c_skip ?_
    refine f_then ?_
    refine c_seq ?_
    refine c_block ?_
    refine c_seq ?_
    refine c_region ?_
    refine l_val (v := Nx (k)) rfl rfl rfl (e_move) ?_
    refine l_val (v := Nx (k)) rfl rfl rfl (e_assign) ?_
    refine l_nil ?_
    refine f_then ?_
    refine c_seq ?_
    obtain ⟨x11, hx12⟩ : ∃ x_, (xl)[k]? = some x_ := ⟨_, List.getElem?_eq_getElem (by omega)⟩
    obtain ⟨ha13, cs14, hc15, hr16⟩ := heX _ _ hx12
    obtain ⟨v17, rfl, hv18⟩ := hr16
    obtain ⟨a19, c20, rfl, hl21, hm22, he23⟩ := (hv18).get
    have hposx11 := hS.first hx12
    have hrlx11 := row_len hS hx12
    have hplp24 := partB_len x11 bs
    have hpmp24 := partR_len (partB x11 bs) R
    have hplp28 := partB_len x11 bs
    have hpmp28 := partR_len (partB x11 bs) R
    refine c_any [⟨[], [], [0], [48], fun f => f 48 = .agg #[.slice p1 (bs.length) (c2), .slice q3 (R.length) (d4), Ix (gX), Ix (gY)]⟩, ⟨[], [], [1], [49], fun f => f 49 = .slice p6 (xl.length) (c7)⟩, ⟨[], [], [2], [50], fun f => f 50 = Nx (k)⟩, ⟨[1, 2], [1, 2], [], [51], fun f => f 51 = .pointer (some ((ba p6).add (k * 1)))⟩, ⟨[1, 2, 3], [3], [], [52], fun f => f 52 = .slice a19 (x11.length) (c20)⟩, ⟨[0, 1, 2, 3, 4], [0, 4], [], [53], fun f => f 53 = .tuple #[.agg #[.slice (sla (prt 0 (prt 0 (f 53)))) ((partB x11 bs).length) (slc (prt 0 (prt 0 (f 53)))), .slice (sla (prt 1 (prt 0 (f 53)))) ((partR (partB x11 bs) R).length) (slc (prt 1 (prt 0 (f 53)))), Ix (gX), Ix (gY)], .int .i64 (0)]⟩, ⟨[0, 1, 2, 3, 4, 5], [5], [], [47, 53], fun f => f 47 = .tuple #[.agg #[.slice (sla (prt 0 (prt 0 (f 53)))) ((partB x11 bs).length) (slc (prt 0 (prt 0 (f 53)))), .slice (sla (prt 1 (prt 0 (f 53)))) ((partR (partB x11 bs) R).length) (slc (prt 1 (prt 0 (f 53)))), Ix (gX), Ix (gY)], .int .i64 (0)]⟩, ⟨[0, 1, 2, 3, 4, 5, 6], [6], [], [53, 54], fun f => f 54 = .agg #[.slice (sla (prt 0 (prt 0 (f 53)))) ((partB x11 bs).length) (slc (prt 0 (prt 0 (f 53)))), .slice (sla (prt 1 (prt 0 (f 53)))) ((partR (partB x11 bs) R).length) (slc (prt 1 (prt 0 (f 53)))), Ix (gX), Ix (gY)]⟩, ⟨[0, 1, 2, 3, 4, 5, 6], [6], [], [55], fun f => f 55 = .int .i64 (0)⟩, ⟨[], [], [], [17], fun f => f 17 = .pointer (some ⟨(blk (f 17)), 0, none⟩)⟩, ⟨[0, 1, 2, 3, 4, 5, 6, 7, 9], [9, 7], [], [], fun _ => True⟩, ⟨[0, 1, 2, 3, 4, 5, 6, 7, 8, 9, 10], [8], [], [18], fun f => f 18 = .int .i64 (0)⟩] [⟨none, none, [], [], fun _ => rowF IntF 3 ip ic ((pickX bits 0 (xl.take k)).flatten)⟩, ⟨none, none, [], [], fun _ => rowF HdIF 41 sp sc hz⟩, ⟨none, none, [0], [], fun _ => pt b5 (.cells #[.slice p1 (bs.length) (c2), .slice q3 (R.length) (d4), Ix (gX), Ix (gY)] 32)⟩, ⟨(some 5), none, [], [53], fun f => rowF BodyF 39 (sla (prt 0 (prt 0 (f 53)))) (slc (prt 0 (prt 0 (f 53)))) (partB x11 bs)⟩, ⟨(some 5), none, [], [53], fun f => rowF RopeF 49 (sla (prt 1 (prt 0 (f 53)))) (slc (prt 1 (prt 0 (f 53)))) (partR (partB x11 bs) R)⟩, ⟨(some 9), (some 10), [10], [17], fun f => pt (blk (f 17)) (.cells #[.slice none 0 0, .slice none 0 0, .int .i64 (0), .int .i64 (0)] 32)⟩, ⟨(some 10), none, [], [17, 53], fun f => pt (blk (f 17)) (.cells #[.slice (sla (prt 0 (prt 0 (f 53)))) ((partB x11 bs).length) (slc (prt 0 (prt 0 (f 53)))), .slice (sla (prt 1 (prt 0 (f 53)))) ((partR (partB x11 bs) R).length) (slc (prt 1 (prt 0 (f 53)))), Ix (gX), Ix (gY)] 32)⟩] [(11, .pointer (some ⟨b5, 0, none⟩)), (12, .slice p6 (xl.length) (c7)), (16, Nx (k)), (4, .int .u16 (((bits : Nat)) : Int)), (14, .slice sp (hz.length) sc), (15, .slice ip ((pickX bits 0 (xl.take k)).flatten.length) ic), (43, Nx (xl.length)), (44, Nx (k))] [3, 0, 1, 4, 5, 2, 6, 7] [] (by kernel_rfl) (by kernel_rfl) (by kernel_rfl) (by kernel_rfl) rfl ⟨rfl, rfl, rfl, rfl, rfl, rfl, rfl, rfl, trivial⟩ ⟨?_, ?_, ?_, ?_, ?_, ?_, ?_, ?_, ?_, ?_, ?_, ?_, trivial⟩ ?_
    · rintro f M - ⟨i0, -⟩
      have hs11 : f 11 = .pointer (some ⟨b5, 0, none⟩) := i0
      refine ob_start (L' := pt b5 (.cells #[.slice p1 (bs.length) (c2), .slice q3 (R.length) (d4), Ix (gX), Ix (gY)] 32) :: M) (by rfl) (up_cons rfl hs11) ?_
      refine l_val (v := .agg #[.slice p1 (bs.length) (c2), .slice q3 (R.length) (d4), Ix (gX), Ix (gY)]) rfl rfl rfl (e_load tf31 (cs := [.slice p1 (bs.length) (c2), .slice q3 (R.length) (d4), Ix (gX), Ix (gY)]) rfl (k_pt 0 (cs := #[.slice p1 (bs.length) (c2), .slice q3 (R.length) (d4), Ix (gX), Ix (gY)]) (vs := [.slice p1 (bs.length) (c2), .slice q3 (R.length) (d4), Ix (gX), Ix (gY)]) rfl rfl) rfl) ?_
      refine l_nil ?_
      exact f_owes_d (up_cons rfl hs11) rfl (perm_front 0 rfl)
    · rintro f M - ⟨i0, -⟩
      have hs12 : f 12 = .slice p6 (xl.length) (c7) := i0
      refine ob_start (L' := M) (by rfl) (up_cons rfl hs12) ?_
      refine l_val (v := .slice p6 (xl.length) (c7)) rfl rfl rfl (e_move) ?_
      refine l_nil ?_
      exact f_owes_d (up_cons rfl hs12) rfl (List.Perm.refl _)
    · rintro f M - ⟨i0, -⟩
      have hs16 : f 16 = Nx (k) := i0
      refine ob_start (L' := M) (by rfl) (up_cons rfl hs16) ?_
      refine l_val (v := Nx (k)) rfl rfl rfl (e_move) ?_
      refine l_nil ?_
      exact f_owes_d (up_cons rfl hs16) rfl (List.Perm.refl _)
    · rintro f M ⟨k0, k1, -⟩ -
      have hs49 : f 49 = .slice p6 (xl.length) (c7) := k0
      have hs50 : f 50 = Nx (k) := k1
      refine ob_start (L' := M) (by rfl) (up_cons (up_cons rfl hs49) hs50) ?_
      refine l_val (v := .pointer (some ((ba p6).add (k * 1)))) rfl rfl rfl (e_indexAddr (k := k) (len := xl.length) (cap := c7) (a := p6) rfl rfl tf21 (by omega) ha13) ?_
      refine l_nil ?_
      exact f_owes_d (up_cons (up_cons rfl hs49) hs50) rfl (List.Perm.refl _)
    · rintro f M ⟨k0, -⟩ -
      have hs51 : f 51 = .pointer (some ((ba p6).add (k * 1))) := k0
      refine ob_start (L' := M) (by rfl) (up_cons rfl hs51) ?_
      refine l_val (v := .slice a19 (x11.length) (c20)) rfl rfl rfl (e_load1 tf22 (v := .slice a19 (x11.length) (c20)) rfl (Knows.of_base (Cs.mono _ _) hc15)) ?_
      refine l_nil ?_
      exact f_owes_d (up_cons rfl hs51) rfl (List.Perm.refl _)
    · rintro f M ⟨k0, k1, -⟩ -
      have hs48 : f 48 = .agg #[.slice p1 (bs.length) (c2), .slice q3 (R.length) (d4), Ix (gX), Ix (gY)] := k0
      have hs52 : f 52 = .slice a19 (x11.length) (c20) := k1
      refine ob_start (L' := M) (by rfl) (up_cons (up_cons rfl hs48) hs52) ?_
      refine l_call rfl rfl rfl (cl_value (fst := []) (cap := []) (vs := [.agg #[.slice p1 (bs.length) (c2), .slice q3 (R.length) (d4), Ix (gX), Ix (gY)], .slice a19 (x11.length) (c20)]) (all := [.agg #[.slice p1 (bs.length) (c2), .slice q3 (R.length) (d4), Ix (gX), Ix (gY)], .slice a19 (x11.length) (c20)]) tf76 rfl rfl rfl) ?_
      intro w hw
      obtain ⟨β1, sb, kn, hw1, back⟩ := St.frame_all hw
      refine (partO_ok β1 w hw1 _ _ _ gX gY bs R x11 (Sl.mono _ _ _ _ _ sb hslB) (Sl.mono _ _ _ _ _ sb hslR) (Sl.mono _ _ _ _ _ sb (⟨⟨_, _, rfl, by omega, by omega, he23⟩⟩ : Sl IntF.R _ _ x11)) (by omega) (by omega) hok (row_free hS hmP hx12)).mono ?_
      rintro e w' ⟨p28, c29, q30, d31, rfl, hw'⟩
      refine ⟨_, rfl, _, back _ _ hw', ?_⟩
      clear hw hw1 hw' back kn sb
      refine l_nil ?_
      exact f_owes_d (up_cons (up_cons rfl hs48) hs52) rfl ((perm_front 1 rfl).trans (perm_front 1 rfl))
    · rintro f M ⟨k0, -⟩ -
      have hs53 : f 53 = .tuple #[.agg #[.slice (sla (prt 0 (prt 0 (f 53)))) ((partB x11 bs).length) (slc (prt 0 (prt 0 (f 53)))), .slice (sla (prt 1 (prt 0 (f 53)))) ((partR (partB x11 bs) R).length) (slc (prt 1 (prt 0 (f 53)))), Ix (gX), Ix (gY)], .int .i64 (0)] := k0
      refine ob_start (L' := M) (by rfl) (up_cons rfl hs53) ?_
      refine l_val (v := .tuple #[.agg #[.slice (sla (prt 0 (prt 0 (f 53)))) ((partB x11 bs).length) (slc (prt 0 (prt 0 (f 53)))), .slice (sla (prt 1 (prt 0 (f 53)))) ((partR (partB x11 bs) R).length) (slc (prt 1 (prt 0 (f 53)))), Ix (gX), Ix (gY)], .int .i64 (0)]) rfl rfl rfl (e_move) ?_
      refine l_nil ?_
      exact f_owes_d (up_cons rfl hs53) rfl (List.Perm.refl _)
    · rintro f M ⟨k0, -⟩ -
      have hs47 : f 47 = .tuple #[.agg #[.slice (sla (prt 0 (prt 0 (f 53)))) ((partB x11 bs).length) (slc (prt 0 (prt 0 (f 53)))), .slice (sla (prt 1 (prt 0 (f 53)))) ((partR (partB x11 bs) R).length) (slc (prt 1 (prt 0 (f 53)))), Ix (gX), Ix (gY)], .int .i64 (0)] := k0
      refine ob_start (L' := M) (by rfl) (up_cons rfl hs47) ?_
      refine l_val (v := .agg #[.slice (sla (prt 0 (prt 0 (f 53)))) ((partB x11 bs).length) (slc (prt 0 (prt 0 (f 53)))), .slice (sla (prt 1 (prt 0 (f 53)))) ((partR (partB x11 bs) R).length) (slc (prt 1 (prt 0 (f 53)))), Ix (gX), Ix (gY)]) rfl rfl rfl (e_extract (vs := #[.agg #[.slice (sla (prt 0 (prt 0 (f 53)))) ((partB x11 bs).length) (slc (prt 0 (prt 0 (f 53)))), .slice (sla (prt 1 (prt 0 (f 53)))) ((partR (partB x11 bs) R).length) (slc (prt 1 (prt 0 (f 53)))), Ix (gX), Ix (gY)], .int .i64 (0)]) rfl rfl) ?_
      refine l_nil ?_
      exact f_owes_d (up_cons rfl hs47) rfl (List.Perm.refl _)
    · rintro f M ⟨k0, -⟩ -
      have hs47 : f 47 = .tuple #[.agg #[.slice (sla (prt 0 (prt 0 (f 53)))) ((partB x11 bs).length) (slc (prt 0 (prt 0 (f 53)))), .slice (sla (prt 1 (prt 0 (f 53)))) ((partR (partB x11 bs) R).length) (slc (prt 1 (prt 0 (f 53)))), Ix (gX), Ix (gY)], .int .i64 (0)] := k0
      refine ob_start (L' := M) (by rfl) (up_cons rfl hs47) ?_
      refine l_val (v := .int .i64 (0)) rfl rfl rfl (e_extract (vs := #[.agg #[.slice (sla (prt 0 (prt 0 (f 53)))) ((partB x11 bs).length) (slc (prt 0 (prt 0 (f 53)))), .slice (sla (prt 1 (prt 0 (f 53)))) ((partR (partB x11 bs) R).length) (slc (prt 1 (prt 0 (f 53)))), Ix (gX), Ix (gY)], .int .i64 (0)]) rfl rfl) ?_
      refine l_nil ?_
      exact f_owes_d (up_cons rfl hs47) rfl (List.Perm.refl _)
    · rintro f M - -
      refine ob_start (L' := M) (by rfl) rfl ?_
      refine l_mv rfl rfl rfl (m_alloc tf67) ?_
      rintro _ _ ⟨b33, rfl, rfl⟩
      refine l_nil ?_
      exact f_owes_d rfl rfl (perm_front 0 rfl)
    · rintro f M ⟨k0, k1, -⟩ -
      have hs17 : f 17 = .pointer (some ⟨(blk (f 17)), 0, none⟩) := k0
      have hs54 : f 54 = .agg #[.slice (sla (prt 0 (prt 0 (f 53)))) ((partB x11 bs).length) (slc (prt 0 (prt 0 (f 53)))), .slice (sla (prt 1 (prt 0 (f 53)))) ((partR (partB x11 bs) R).length) (slc (prt 1 (prt 0 (f 53)))), Ix (gX), Ix (gY)] := k1
      refine ob_start (L' := pt (blk (f 17)) (.cells #[.slice none 0 0, .slice none 0 0, .int .i64 (0), .int .i64 (0)] 32) :: M) (by rfl) (up_cons (up_cons rfl hs17) hs54) ?_
      refine l_mu rfl rfl (m_store 0 tf31 (b := (blk (f 17))) (o := 0) (T := 32) (cs := #[.slice none 0 0, .slice none 0 0, .int .i64 (0), .int .i64 (0)]) (cs' := #[.slice (sla (prt 0 (prt 0 (f 53)))) ((partB x11 bs).length) (slc (prt 0 (prt 0 (f 53)))), .slice (sla (prt 1 (prt 0 (f 53)))) ((partR (partB x11 bs) R).length) (slc (prt 1 (prt 0 (f 53)))), Ix (gX), Ix (gY)]) (v := .agg #[.slice (sla (prt 0 (prt 0 (f 53)))) ((partB x11 bs).length) (slc (prt 0 (prt 0 (f 53)))), .slice (sla (prt 1 (prt 0 (f 53)))) ((partR (partB x11 bs) R).length) (slc (prt 1 (prt 0 (f 53)))), Ix (gX), Ix (gY)]) rfl rfl rfl rfl rfl rfl rfl) ?_
      refine l_nil ?_
      exact f_owes_n (up_cons (up_cons rfl hs17) hs54) trivial (perm_front 0 rfl)
    · rintro f M ⟨k0, -⟩ -
      have hs55 : f 55 = .int .i64 (0) := k0
      refine ob_start (L' := M) (by rfl) (up_cons rfl hs55) ?_
      refine l_val (v := .int .i64 (0)) rfl rfl rfl (e_assign) ?_
      refine l_nil ?_
      exact f_owes_d (up_cons rfl hs55) rfl (List.Perm.refl _)
    rintro fa34 ⟨-, -, -, -, -, -, -, -, -, k9, -, k11, -⟩ ⟨j0, j1, j2, j3, j4, j5, j6, j7, -⟩
    refine f_re (L' := [rowF IntF 3 ip ic ((pickX bits 0 (xl.take k)).flatten), rowF HdIF 41 sp sc hz, pt b5 (.cells #[.slice p1 (bs.length) (c2), .slice q3 (R.length) (d4), Ix (gX), Ix (gY)] 32), rowF BodyF 39 (sla (prt 0 (prt 0 (fa34 53)))) (slc (prt 0 (prt 0 (fa34 53)))) (partB x11 bs), rowF RopeF 49 (sla (prt 1 (prt 0 (fa34 53)))) (slc (prt 1 (prt 0 (fa34 53)))) (partR (partB x11 bs) R), pt (blk (fa34 17)) (.cells #[.slice (sla (prt 0 (prt 0 (fa34 53)))) ((partB x11 bs).length) (slc (prt 0 (prt 0 (fa34 53)))), .slice (sla (prt 1 (prt 0 (fa34 53)))) ((partR (partB x11 bs) R).length) (slc (prt 1 (prt 0 (fa34 53)))), Ix (gX), Ix (gY)] 32)]) (by rfl) ?_
    refine f_rebase (d := 4) (v := .int .u16 (((bits : Nat)) : Int)) j0 ?_
    refine f_rebase (d := 11) (v := .pointer (some ⟨b5, 0, none⟩)) j1 ?_
    refine f_rebase (d := 12) (v := .slice p6 (xl.length) (c7)) j2 ?_
    refine f_rebase (d := 14) (v := .slice sp (hz.length) sc) j3 ?_
    refine f_rebase (d := 15) (v := .slice ip ((pickX bits 0 (xl.take k)).flatten.length) ic) j4 ?_
    refine f_rebase (d := 16) (v := Nx (k)) j5 ?_
    refine f_rebase (d := 17) (v := .pointer (some ⟨(blk (fa34 17)), 0, none⟩)) k9 ?_
    refine f_rebase (d := 18) (v := .int .i64 (0)) k11 ?_
    refine f_rebase (d := 43) (v := Nx (xl.length)) j6 ?_
    refine f_rebase (d := 44) (v := Nx (k)) j7 ?_
    refine f_then ?_
    refine c_seq ?_
    refine c_region ?_
    refine l_val (v := .agg #[.slice (sla (prt 0 (prt 0 (fa34 53)))) ((partB x11 bs).length) (slc (prt 0 (prt 0 (fa34 53)))), .slice (sla (prt 1 (prt 0 (fa34 53)))) ((partR (partB x11 bs) R).length) (slc (prt 1 (prt 0 (fa34 53)))), Ix (gX), Ix (gY)]) rfl rfl rfl (e_load tf31 (cs := [.slice (sla (prt 0 (prt 0 (fa34 53)))) ((partB x11 bs).length) (slc (prt 0 (prt 0 (fa34 53)))), .slice (sla (prt 1 (prt 0 (fa34 53)))) ((partR (partB x11 bs) R).length) (slc (prt 1 (prt 0 (fa34 53)))), Ix (gX), Ix (gY)]) rfl (k_pt 5 (cs := #[.slice (sla (prt 0 (prt 0 (fa34 53)))) ((partB x11 bs).length) (slc (prt 0 (prt 0 (fa34 53)))), .slice (sla (prt 1 (prt 0 (fa34 53)))) ((partR (partB x11 bs) R).length) (slc (prt 1 (prt 0 (fa34 53)))), Ix (gX), Ix (gY)]) (vs := [.slice (sla (prt 0 (prt 0 (fa34 53)))) ((partB x11 bs).length) (slc (prt 0 (prt 0 (fa34 53)))), .slice (sla (prt 1 (prt 0 (fa34 53)))) ((partR (partB x11 bs) R).length) (slc (prt 1 (prt 0 (fa34 53)))), Ix (gX), Ix (gY)]) rfl rfl) rfl) ?_
    refine l_call rfl rfl rfl (cl_value (fst := []) (cap := []) (vs := [.agg #[.slice (sla (prt 0 (prt 0 (fa34 53)))) ((partB x11 bs).length) (slc (prt 0 (prt 0 (fa34 53)))), .slice (sla (prt 1 (prt 0 (fa34 53)))) ((partR (partB x11 bs) R).length) (slc (prt 1 (prt 0 (fa34 53)))), Ix (gX), Ix (gY)]]) (all := [.agg #[.slice (sla (prt 0 (prt 0 (fa34 53)))) ((partB x11 bs).length) (slc (prt 0 (prt 0 (fa34 53)))), .slice (sla (prt 1 (prt 0 (fa34 53)))) ((partR (partB x11 bs) R).length) (slc (prt 1 (prt 0 (fa34 53)))), Ix (gX), Ix (gY)]]) tf75 rfl rfl rfl) ?_
    intro w hw
    obtain ⟨β1, sb, kn, hw1, back⟩ := St.frame_all hw
    refine (islO_ok β1 w hw1 _ _ gX gY (partB x11 bs) (partR (partB x11 bs) R) (kn _ (k_flN 3 (F := BodyF) (m := (partB x11 bs).length) rfl rfl)) (kn _ (k_flN 4 (F := RopeF) (m := (partR (partB x11 bs) R).length) rfl rfl)) (by omega) (by omega) (part_okS hok x11)).mono ?_
    rintro e w' ⟨p35, c36, hs37, hx38, rfl, hw'⟩
    refine ⟨_, rfl, _, back _ _ hw', ?_⟩
    clear hw hw1 hw' back kn sb
    refine l_val (v := .tuple #[.slice p35 (hs37.length) c36, .int .i64 (0)]) rfl rfl rfl (e_move) ?_
    refine l_val (v := .slice p35 (hs37.length) c36) rfl rfl rfl (e_extract (vs := #[.slice p35 (hs37.length) c36, .int .i64 (0)]) rfl rfl) ?_
    refine l_val (v := .int .i64 (0)) rfl rfl rfl (e_extract (vs := #[.slice p35 (hs37.length) c36, .int .i64 (0)]) rfl rfl) ?_
    refine l_val (v := .slice p35 (hs37.length) c36) rfl rfl rfl (e_assign) ?_
    refine l_val (v := .int .i64 (0)) rfl rfl rfl (e_assign) ?_
    refine l_nil ?_
    refine f_then ?_
    refine c_seq ?_
    refine c_seq ?_
    have hone : hs37.map (·.xs) = [x11] := part_one hS hx12 (IsS.of (part_okS hok x11) hx38)
    refine c_region ?_
    refine l_val (v := .int .i64 (0)) rfl rfl rfl (e_move) ?_
    refine l_val (v := .int .i64 (0)) rfl rfl rfl (e_move) ?_
    refine l_val (v := .int .i64 (0)) rfl rfl rfl (e_add (a := (0 : Int)) (b := (0 : Int)) rfl rfl (by decide)) ?_
    refine l_val (v := .bool false) rfl rfl rfl (e_neq (a := (0 : Int)) (b := (0 : Int)) rfl rfl) ?_
    refine l_val (v := .bool false) rfl rfl rfl (e_move) ?_
    refine g_val (v := .slice p35 (hs37.length) c36) rfl rfl rfl rfl rfl (e_move) ?_
    refine g_val (v := .slice p6 (xl.length) (c7)) rfl rfl rfl rfl rfl (e_move) ?_
    refine g_val (v := Nx (k)) rfl rfl rfl rfl rfl (e_move) ?_
    refine g_val (v := Nx (k)) rfl rfl rfl rfl rfl (e_move) ?_
    refine g_val (v := Nx (k + 1)) rfl rfl rfl rfl rfl (e_add (a := ((k : Nat) : Int)) (b := (1 : Int)) rfl rfl (i64n (by omega) (by omega))) ?_
    obtain ⟨zs39, hz40⟩ : ∃ zs, zs = ((xl.take (k + 1)).drop k) := ⟨_, rfl⟩
    have zl41 : zs39.length = min (k + 1) (xl).length - k := by rw [hz40]; simp; try omega
    have ze42 := (Elems.drop (cap := c7) k (by first | omega | (simp; omega)) (Elems.take (k + 1) heX))
    rw [← hz40] at ze42
    refine g_val (v := .slice (adv p6 c7 k 1) (zs39.length) ((c7 - k))) rfl rfl rfl rfl rfl (ev_eq (by rw [show zs39.length = (k + 1) - k by omega]) (e_slice_lh (a := p6) (len := xl.length) (cap := c7) (l := k) (h := k + 1) tf21 rfl rfl rfl (by omega) (by omega))) ?_
    refine g_call rfl rfl rfl rfl rfl (cl_value (fst := []) (cap := []) (vs := [.slice p35 (hs37.length) c36, .slice (adv p6 c7 k 1) (zs39.length) ((c7 - k))]) (all := [.slice p35 (hs37.length) c36, .slice (adv p6 c7 k 1) (zs39.length) ((c7 - k))]) tf77 rfl rfl rfl) ?_
    intro w hw
    obtain ⟨β1, sb, kn, hw1, back⟩ := St.frame_all hw
    refine (sameL_ok β1 w hw1 _ _ (hs37.map (·.xs)) zs39 (kn _ (k_ll 0 rfl)) (Sl.mono _ _ _ _ _ sb (⟨⟨_, _, rfl, by omega, by omega, ze42⟩⟩ : Sl IntF.R.slice _ _ zs39))).mono ?_
    rintro e w' ⟨rfl, hw'⟩
    refine ⟨_, rfl, _, back _ _ hw', ?_⟩
    clear hw hw1 hw' back kn sb
    refine g_val (v := .bool (decide (¬ ((hs37.map (·.xs)) = zs39)))) rfl rfl rfl rfl rfl (e_not_p (p := (hs37.map (·.xs)) = zs39) rfl) ?_
    refine l_val (v := .bool (decide (¬ ((hs37.map (·.xs)) = zs39)))) rfl rfl rfl (e_pick_f rfl) ?_
    refine l_nil ?_
    refine f_then ?_
    refine c_if (¬ ((hs37.map (·.xs)) = zs39)) rfl (fun hc43 => ?_) (fun hc43 => ?_)
    ·
      exact absurd hc43 (fun q => q (hone.trans (by rw [hz40]; exact (one_at hx12).symm)))
    ·
      refine c_skip ?_
      refine f_then ?_
      refine c_seq ?_
      refine c_region ?_
      refine l_val (v := .int .u16 (((bits : Nat)) : Int)) rfl rfl rfl (e_move) ?_
      refine l_val (v := Nx (k)) rfl rfl rfl (e_move) ?_
      refine l_val (v := .int .u16 (((bits / 2 ^ min k 16 : Nat)) : Int)) rfl rfl rfl (e_shr (a := ((bits : Nat) : Int)) (b := ((k : Nat) : Int)) rfl rfl (by omega) (u16_shr _ _)) ?_
      refine l_val (v := .int .u16 ((((bits / 2 ^ min k 16) % 2 : Nat)) : Int)) rfl rfl rfl (e_and (a := ((bits / 2 ^ min k 16 : Nat) : Int)) (b := (1 : Int)) rfl rfl (u16_one (by exact u16_le hbits _))) ?_
      refine l_val (v := .bool (decide ((((bits / 2 ^ min k 16) % 2 : Nat) : Int) = (1 : Int)))) rfl rfl rfl (e_eql (a := (((bits / 2 ^ min k 16) % 2 : Nat) : Int)) (b := (1 : Int)) rfl rfl) ?_
      refine l_nil ?_
      refine f_then ?_
      refine c_if ((((bits / 2 ^ min k 16) % 2 : Nat) : Int) = (1 : Int)) rfl (fun hc44 => ?_) (fun hc44 => ?_)
      ·
        refine c_any [⟨[], [], [0], [80], fun f => f 80 = .slice sp (hz.length) sc⟩, ⟨[], [], [1], [81], fun f => f 81 = .slice p6 (xl.length) (c7)⟩, ⟨[], [], [2], [82], fun f => f 82 = Nx (k)⟩, ⟨[1, 2], [1, 2], [], [83], fun f => f 83 = .pointer (some ((ba p6).add (k * 1)))⟩, ⟨[1, 2, 3], [3], [], [84], fun f => f 84 = .slice a19 (x11.length) (c20)⟩, ⟨[1, 2, 3, 4], [4], [], [85], fun f => f 85 = .slice (some ⟨(blk (f 85)), 0, none⟩) 1 1⟩, ⟨[0, 1, 2, 3, 4, 5], [0, 5], [], [86], fun f => f 86 = .slice (sla (f 86)) ((hz ++ [(⟨a19, c20, x11⟩ : HI)]).length) (slc (f 86))⟩, ⟨[], [], [3], [87], fun f => f 87 = .slice ip ((pickX bits 0 (xl.take k)).flatten.length) ic⟩, ⟨[], [], [1], [88], fun f => f 88 = .slice p6 (xl.length) (c7)⟩, ⟨[], [], [2], [89], fun f => f 89 = Nx (k)⟩, ⟨[8, 9], [8, 9], [], [90], fun f => f 90 = .pointer (some ((ba p6).add (k * 1)))⟩, ⟨[8, 9, 10], [10], [], [91], fun f => f 91 = .slice a19 (x11.length) (c20)⟩, ⟨[0, 1, 2, 3, 4, 5, 6, 7, 8, 9, 10, 11], [7, 11], [], [92], fun f => f 92 = .slice (sla (f 92)) (((pickX bits 0 (xl.take k)).flatten ++ x11).length) (slc (f 92))⟩, ⟨[0, 1, 2, 3, 4, 5, 6, 7, 8, 9, 10, 11, 12], [6], [], [14, 86], fun f => f 14 = .slice (sla (f 86)) ((hz ++ [(⟨a19, c20, x11⟩ : HI)]).length) (slc (f 86))⟩, ⟨[0, 1, 2, 3, 4, 5, 6, 7, 8, 9, 10, 11, 12, 13], [12], [], [15, 92], fun f => f 15 = .slice (sla (f 92)) (((pickX bits 0 (xl.take k)).flatten ++ x11).length) (slc (f 92))⟩] [⟨none, none, [], [], fun _ => Sat (llL p35 c36 hs37)⟩, ⟨none, (some 12), [12], [], fun _ => rowF IntF 3 ip ic ((pickX bits 0 (xl.take k)).flatten)⟩, ⟨none, (some 6), [6], [], fun _ => rowF HdIF 41 sp sc hz⟩, ⟨none, none, [], [], fun _ => pt b5 (.cells #[.slice p1 (bs.length) (c2), .slice q3 (R.length) (d4), Ix (gX), Ix (gY)] 32)⟩, ⟨none, none, [], [], fun _ => rowF BodyF 39 (sla (prt 0 (prt 0 (fa34 53)))) (slc (prt 0 (prt 0 (fa34 53)))) (partB x11 bs)⟩, ⟨none, none, [], [], fun _ => rowF RopeF 49 (sla (prt 1 (prt 0 (fa34 53)))) (slc (prt 1 (prt 0 (fa34 53)))) (partR (partB x11 bs) R)⟩, ⟨none, none, [], [], fun _ => pt (blk (fa34 17)) (.cells #[.slice (sla (prt 0 (prt 0 (fa34 53)))) ((partB x11 bs).length) (slc (prt 0 (prt 0 (fa34 53)))), .slice (sla (prt 1 (prt 0 (fa34 53)))) ((partR (partB x11 bs) R).length) (slc (prt 1 (prt 0 (fa34 53)))), Ix (gX), Ix (gY)] 32)⟩, ⟨(some 5), none, [6], [85], fun f => pt (blk (f 85)) (.cells #[.slice a19 (x11.length) (c20)] 41)⟩, ⟨(some 6), none, [], [86], fun f => rowF HdIF 41 (sla (f 86)) (slc (f 86)) (hz ++ [(⟨a19, c20, x11⟩ : HI)])⟩, ⟨(some 12), none, [], [92], fun f => rowF IntF 3 (sla (f 92)) (slc (f 92)) ((pickX bits 0 (xl.take k)).flatten ++ x11)⟩] [(14, .slice sp (hz.length) sc), (12, .slice p6 (xl.length) (c7)), (16, Nx (k)), (15, .slice ip ((pickX bits 0 (xl.take k)).flatten.length) ic), (4, .int .u16 (((bits : Nat)) : Int)), (11, .pointer (some ⟨b5, 0, none⟩)), (43, Nx (xl.length)), (44, Nx (k))] [4, 5, 1, 6, 7] [] (by kernel_rfl) (by kernel_rfl) (by kernel_rfl) (by kernel_rfl) rfl ⟨rfl, rfl, rfl, rfl, rfl, rfl, rfl, rfl, trivial⟩ ⟨?_, ?_, ?_, ?_, ?_, ?_, ?_, ?_, ?_, ?_, ?_, ?_, ?_, ?_, ?_, trivial⟩ ?_
        · rintro f M - ⟨i0, -⟩
          have hs14 : f 14 = .slice sp (hz.length) sc := i0
          refine ob_start (L' := M) (by rfl) (up_cons rfl hs14) ?_
          refine l_val (v := .slice sp (hz.length) sc) rfl rfl rfl (e_move) ?_
          refine l_nil ?_
          exact f_owes_d (up_cons rfl hs14) rfl (List.Perm.refl _)
        · rintro f M - ⟨i0, -⟩
          have hs12 : f 12 = .slice p6 (xl.length) (c7) := i0
          refine ob_start (L' := M) (by rfl) (up_cons rfl hs12) ?_
          refine l_val (v := .slice p6 (xl.length) (c7)) rfl rfl rfl (e_move) ?_
          refine l_nil ?_
          exact f_owes_d (up_cons rfl hs12) rfl (List.Perm.refl _)
        · rintro f M - ⟨i0, -⟩
          have hs16 : f 16 = Nx (k) := i0
          refine ob_start (L' := M) (by rfl) (up_cons rfl hs16) ?_
          refine l_val (v := Nx (k)) rfl rfl rfl (e_move) ?_
          refine l_nil ?_
          exact f_owes_d (up_cons rfl hs16) rfl (List.Perm.refl _)
        · rintro f M ⟨k0, k1, -⟩ -
          have hs81 : f 81 = .slice p6 (xl.length) (c7) := k0
          have hs82 : f 82 = Nx (k) := k1
          refine ob_start (L' := M) (by rfl) (up_cons (up_cons rfl hs81) hs82) ?_
          refine l_val (v := .pointer (some ((ba p6).add (k * 1)))) rfl rfl rfl (e_indexAddr (k := k) (len := xl.length) (cap := c7) (a := p6) rfl rfl tf21 (by omega) ha13) ?_
          refine l_nil ?_
          exact f_owes_d (up_cons (up_cons rfl hs81) hs82) rfl (List.Perm.refl _)
        · rintro f M ⟨k0, -⟩ -
          have hs83 : f 83 = .pointer (some ((ba p6).add (k * 1))) := k0
          refine ob_start (L' := M) (by rfl) (up_cons rfl hs83) ?_
          refine l_val (v := .slice a19 (x11.length) (c20)) rfl rfl rfl (e_load1 tf22 (v := .slice a19 (x11.length) (c20)) rfl (Knows.of_base (Cs.mono _ _) hc15)) ?_
          refine l_nil ?_
          exact f_owes_d (up_cons rfl hs83) rfl (List.Perm.refl _)
        · rintro f M ⟨k0, -⟩ -
          have hs84 : f 84 = .slice a19 (x11.length) (c20) := k0
          refine ob_start (L' := M) (by rfl) (up_cons rfl hs84) ?_
          refine l_mv rfl rfl rfl (m_slices tf21 tf38 (vs := [(0, .slice a19 (x11.length) (c20))]) (cells := #[.slice a19 (x11.length) (c20)]) rfl rfl rfl rfl) ?_
          rintro _ _ ⟨b46, rfl, rfl⟩
          refine l_nil ?_
          exact f_owes_d (up_cons rfl hs84) rfl (perm_front 0 rfl)
        · rintro f M ⟨k0, k1, -⟩ -
          have hs80 : f 80 = .slice sp (hz.length) sc := k0
          have hs85 : f 85 = .slice (some ⟨(blk (f 85)), 0, none⟩) 1 1 := k1
          refine ob_start (L' := rowF HdIF 41 sp sc hz :: pt (blk (f 85)) (.cells #[.slice a19 (x11.length) (c20)] 41) :: M) (by rfl) (up_cons (up_cons rfl hs80) hs85) ?_
          refine l_mv rfl rfl rfl (m_appendFlN (F := HdIF) 0 tf21 tf37 (p := sp) (m := hz.length) (xs := hz) (ys := [(⟨a19, c20, x11⟩ : HI)]) (ao := (some ⟨(blk (f 85)), 0, none⟩)) (k := 1) (c := 1) rfl rfl rfl rfl rfl (k_ptFl (z := (⟨a19, c20, x11⟩ : HI)) 1 rfl rfl) (by first | omega | simp only [List.length_nil, List.length_cons, List.length_append, List.length_set]; omega) (by first | omega | simp only [List.length_nil, List.length_cons, List.length_append, List.length_set]; omega)) ?_
          rintro _ _ ⟨rp49, rc50, rfl, rfl⟩
          refine l_nil ?_
          exact f_owes_d (up_cons (up_cons rfl hs80) hs85) rfl ((perm_front 0 rfl).trans (perm_front 1 rfl))
        · rintro f M - ⟨i0, -⟩
          have hs15 : f 15 = .slice ip ((pickX bits 0 (xl.take k)).flatten.length) ic := i0
          refine ob_start (L' := M) (by rfl) (up_cons rfl hs15) ?_
          refine l_val (v := .slice ip ((pickX bits 0 (xl.take k)).flatten.length) ic) rfl rfl rfl (e_move) ?_
          refine l_nil ?_
          exact f_owes_d (up_cons rfl hs15) rfl (List.Perm.refl _)
        · rintro f M - ⟨i0, -⟩
          have hs12 : f 12 = .slice p6 (xl.length) (c7) := i0
          refine ob_start (L' := M) (by rfl) (up_cons rfl hs12) ?_
          refine l_val (v := .slice p6 (xl.length) (c7)) rfl rfl rfl (e_move) ?_
          refine l_nil ?_
          exact f_owes_d (up_cons rfl hs12) rfl (List.Perm.refl _)
        · rintro f M - ⟨i0, -⟩
          have hs16 : f 16 = Nx (k) := i0
          refine ob_start (L' := M) (by rfl) (up_cons rfl hs16) ?_
          refine l_val (v := Nx (k)) rfl rfl rfl (e_move) ?_
          refine l_nil ?_
          exact f_owes_d (up_cons rfl hs16) rfl (List.Perm.refl _)
        · rintro f M ⟨k0, k1, -⟩ -
          have hs88 : f 88 = .slice p6 (xl.length) (c7) := k0
          have hs89 : f 89 = Nx (k) := k1
          refine ob_start (L' := M) (by rfl) (up_cons (up_cons rfl hs88) hs89) ?_
          refine l_val (v := .pointer (some ((ba p6).add (k * 1)))) rfl rfl rfl (e_indexAddr (k := k) (len := xl.length) (cap := c7) (a := p6) rfl rfl tf21 (by omega) ha13) ?_
          refine l_nil ?_
          exact f_owes_d (up_cons (up_cons rfl hs88) hs89) rfl (List.Perm.refl _)
        · rintro f M ⟨k0, -⟩ -
          have hs90 : f 90 = .pointer (some ((ba p6).add (k * 1))) := k0
          refine ob_start (L' := M) (by rfl) (up_cons rfl hs90) ?_
          refine l_val (v := .slice a19 (x11.length) (c20)) rfl rfl rfl (e_load1 tf22 (v := .slice a19 (x11.length) (c20)) rfl (Knows.of_base (Cs.mono _ _) hc15)) ?_
          refine l_nil ?_
          exact f_owes_d (up_cons rfl hs90) rfl (List.Perm.refl _)
        · rintro f M ⟨k0, k1, -⟩ -
          have hs87 : f 87 = .slice ip ((pickX bits 0 (xl.take k)).flatten.length) ic := k0
          have hs91 : f 91 = .slice a19 (x11.length) (c20) := k1
          refine ob_start (L' := rowF IntF 3 ip ic ((pickX bits 0 (xl.take k)).flatten) :: M) (by rfl) (up_cons (up_cons rfl hs87) hs91) ?_
          refine l_mv rfl rfl rfl (m_appendFlN (F := IntF) 0 tf23 tf25 (p := ip) (m := (pickX bits 0 (xl.take k)).flatten.length) (xs := (pickX bits 0 (xl.take k)).flatten) (ys := x11) (ao := a19) (k := x11.length) (c := c20) rfl rfl rfl rfl rfl (Knows.of_base (Elems.mono _ _ _) he23) (by first | omega | simp only [List.length_nil, List.length_cons, List.length_append, List.length_set]; omega) (by first | omega | simp only [List.length_nil, List.length_cons, List.length_append, List.length_set]; omega)) ?_
          rintro _ _ ⟨rp53, rc54, rfl, rfl⟩
          refine l_nil ?_
          exact f_owes_d (up_cons (up_cons rfl hs87) hs91) rfl (perm_front 0 rfl)
        · rintro f M ⟨k0, -⟩ -
          have hs86 : f 86 = .slice (sla (f 86)) ((hz ++ [(⟨a19, c20, x11⟩ : HI)]).length) (slc (f 86)) := k0
          refine ob_start (L' := M) (by rfl) (up_cons rfl hs86) ?_
          refine l_val (v := .slice (sla (f 86)) ((hz ++ [(⟨a19, c20, x11⟩ : HI)]).length) (slc (f 86))) rfl rfl rfl (e_assign) ?_
          refine l_nil ?_
          exact f_owes_d (up_cons rfl hs86) rfl (List.Perm.refl _)
        · rintro f M ⟨k0, -⟩ -
          have hs92 : f 92 = .slice (sla (f 92)) (((pickX bits 0 (xl.take k)).flatten ++ x11).length) (slc (f 92)) := k0
          refine ob_start (L' := M) (by rfl) (up_cons rfl hs92) ?_
          refine l_val (v := .slice (sla (f 92)) (((pickX bits 0 (xl.take k)).flatten ++ x11).length) (slc (f 92))) rfl rfl rfl (e_assign) ?_
          refine l_nil ?_
          exact f_owes_d (up_cons rfl hs92) rfl (List.Perm.refl _)
        rintro fa55 ⟨-, -, -, -, -, -, -, -, -, -, -, -, -, k13, k14, -⟩ ⟨j0, j1, j2, j3, j4, -⟩
        refine f_re (L' := [Sat (llL p35 c36 hs37), pt b5 (.cells #[.slice p1 (bs.length) (c2), .slice q3 (R.length) (d4), Ix (gX), Ix (gY)] 32), rowF BodyF 39 (sla (prt 0 (prt 0 (fa34 53)))) (slc (prt 0 (prt 0 (fa34 53)))) (partB x11 bs), rowF RopeF 49 (sla (prt 1 (prt 0 (fa34 53)))) (slc (prt 1 (prt 0 (fa34 53)))) (partR (partB x11 bs) R), pt (blk (fa34 17)) (.cells #[.slice (sla (prt 0 (prt 0 (fa34 53)))) ((partB x11 bs).length) (slc (prt 0 (prt 0 (fa34 53)))), .slice (sla (prt 1 (prt 0 (fa34 53)))) ((partR (partB x11 bs) R).length) (slc (prt 1 (prt 0 (fa34 53)))), Ix (gX), Ix (gY)] 32), pt (blk (fa55 85)) (.cells #[.slice a19 (x11.length) (c20)] 41), rowF HdIF 41 (sla (fa55 86)) (slc (fa55 86)) (hz ++ [(⟨a19, c20, x11⟩ : HI)]), rowF IntF 3 (sla (fa55 92)) (slc (fa55 92)) ((pickX bits 0 (xl.take k)).flatten ++ x11)]) (by rfl) ?_
        refine f_rebase (d := 4) (v := .int .u16 (((bits : Nat)) : Int)) j0 ?_
        refine f_rebase (d := 11) (v := .pointer (some ⟨b5, 0, none⟩)) j1 ?_
        refine f_rebase (d := 12) (v := .slice p6 (xl.length) (c7)) j2 ?_
        refine f_rebase (d := 14) (v := .slice (sla (fa55 86)) ((hz ++ [(⟨a19, c20, x11⟩ : HI)]).length) (slc (fa55 86))) k13 ?_
        refine f_rebase (d := 15) (v := .slice (sla (fa55 92)) (((pickX bits 0 (xl.take k)).flatten ++ x11).length) (slc (fa55 92))) k14 ?_
        refine f_rebase (d := 43) (v := Nx (xl.length)) j3 ?_
        refine f_rebase (d := 44) (v := Nx (k)) j4 ?_
        refine f_block ?_
        refine f_then ?_
        refine c_region ?_
        refine l_val (v := Nx (k + 1)) rfl rfl rfl (e_add (a := ((k : Nat) : Int)) (b := (1 : Int)) rfl rfl (i64n (by omega) (by omega))) ?_
        refine l_val (v := Nx (k + 1)) rfl rfl rfl (e_move) ?_
        refine l_nil ?_
        refine f_perm (L' := [rowF IntF 3 (sla (fa55 92)) (slc (fa55 92)) ((pickX bits 0 (xl.take k)).flatten ++ x11), rowF HdIF 41 (sla (fa55 86)) (slc (fa55 86)) (hz ++ [(⟨a19, c20, x11⟩ : HI)]), pt b5 (.cells #[.slice p1 (bs.length) (c2), .slice q3 (R.length) (d4), Ix (gX), Ix (gY)] 32), Sat (llL p35 c36 hs37), rowF BodyF 39 (sla (prt 0 (prt 0 (fa34 53)))) (slc (prt 0 (prt 0 (fa34 53)))) (partB x11 bs), rowF RopeF 49 (sla (prt 1 (prt 0 (fa34 53)))) (slc (prt 1 (prt 0 (fa34 53)))) (partR (partB x11 bs) R), pt (blk (fa34 17)) (.cells #[.slice (sla (prt 0 (prt 0 (fa34 53)))) ((partB x11 bs).length) (slc (prt 0 (prt 0 (fa34 53)))), .slice (sla (prt 1 (prt 0 (fa34 53)))) ((partR (partB x11 bs) R).length) (slc (prt 1 (prt 0 (fa34 53)))), Ix (gX), Ix (gY)] 32), pt (blk (fa55 85)) (.cells #[.slice a19 (x11.length) (c20)] 41)]) (perm_ix [7, 6, 1, 0, 2, 3, 4, 5] 8 rfl (by kernel_rfl) (by kernel_rfl)) ?_
        refine f_mask (L' := [rowF IntF 3 (sla (fa55 92)) (slc (fa55 92)) ((pickX bits 0 (xl.take k)).flatten ++ x11), rowF HdIF 41 (sla (fa55 86)) (slc (fa55 86)) (hz ++ [(⟨a19, c20, x11⟩ : HI)]), pt b5 (.cells #[.slice p1 (bs.length) (c2), .slice q3 (R.length) (d4), Ix (gX), Ix (gY)] 32)]) [true, true, true, false, false, false, false, false] rfl ?_
        exact f_cut ⟨(k + 1, (hz ++ [(⟨a19, c20, x11⟩ : HI)]), (sla (fa55 86)), (slc (fa55 86)), (sla (fa55 92)), (slc (fa55 92))), ⟨⟨rfl, rfl, rfl, rfl, (by show Value.slice _ _ _ = Value.slice _ _ _; rw [pick_yes hx12 (show bitAt bits k from Int.ofNat.inj hc44), List.flatten_append, flat_one]), rfl, rfl⟩, by rw [pick_yes hx12 (show bitAt bits k from Int.ofNat.inj hc44), List.flatten_append, flat_one], ⟨by omega, by rw [pick_yes hx12 (show bitAt bits k from Int.ofNat.inj hc44), List.map_append, hzx]; rfl, fun h hh => (List.mem_append.1 hh).elim (hzs h) fun hh => by rw [List.mem_singleton.1 hh]; exact hv18⟩⟩, (show xl.length - (k + 1) < xl.length - k from by omega)⟩
      ·
        refine c_skip ?_
        refine f_block ?_
        refine f_then ?_
        refine c_region ?_
        refine l_val (v := Nx (k + 1)) rfl rfl rfl (e_add (a := ((k : Nat) : Int)) (b := (1 : Int)) rfl rfl (i64n (by omega) (by omega))) ?_
        refine l_val (v := Nx (k + 1)) rfl rfl rfl (e_move) ?_
        refine l_nil ?_
        refine f_mask (L' := [rowF IntF 3 ip ic ((pickX bits 0 (xl.take k)).flatten), rowF HdIF 41 sp sc hz, pt b5 (.cells #[.slice p1 (bs.length) (c2), .slice q3 (R.length) (d4), Ix (gX), Ix (gY)] 32)]) [false, true, true, true, false, false, false] rfl ?_
        exact f_cut ⟨(k + 1, hz, sp, sc, ip, ic), ⟨⟨rfl, rfl, rfl, rfl, (by show Value.slice _ _ _ = Value.slice _ _ _; rw [pick_no hx12 (show ¬ bitAt bits k from fun z => hc44 (congrArg Int.ofNat z))]), rfl, rfl⟩, by rw [pick_no hx12 (show ¬ bitAt bits k from fun z => hc44 (congrArg Int.ofNat z))], ⟨by omega, by rw [pick_no hx12 (show ¬ bitAt bits k from fun z => hc44 (congrArg Int.ofNat z))]; exact hzx, hzs⟩⟩, (show xl.length - (k + 1) < xl.length - k from by omega)⟩
  ·
    refine c_exit ?_
    refine f_then_exit ?_
    refine f_then_exit ?_
    refine f_exit ?_
    refine f_then ?_
    refine c_seq ?_
    have hxt : xl.take k = xl := List.take_of_length_le (by omega)
    rw [hxt] at hzx
    rw [hxt]
    have hpk := pick_flat (bits := bits) hS k
    rw [hxt] at hpk
    have hpf := pick_free (bits := bits) (k := k) hS hmP
    rw [hxt] at hpf
    refine c_perm (L' := [rowF IntF 3 ip ic ((pickX bits 0 xl).flatten), pt b5 (.cells #[.slice p1 (bs.length) (c2), .slice q3 (R.length) (d4), Ix (gX), Ix (gY)] 32), rowF HdIF 41 sp sc hz]) (perm_ix [0, 2, 1] 3 rfl (by kernel_rfl) (by kernel_rfl)) ?_
    refine c_freeze2 (M := [rowF IntF 3 ip ic ((pickX bits 0 xl).flatten), pt b5 (.cells #[.slice p1 (bs.length) (c2), .slice q3 (R.length) (d4), Ix (gX), Ix (gY)] 32)]) (K := [rowF HdIF 41 sp sc hz]) rfl (fun βS extS knS bkS => ?_)
    have hslS := knS _ (k_hd 0 rfl hzs)
    obtain ⟨sm, hqS⟩ : ∃ z, z = hz.map (·.xs) := ⟨_, rfl⟩
    have hln : hz.length = sm.length := by rw [hqS, List.length_map]
    rw [← hqS, hln] at hslS
    rw [hln]
    have hsm : pickX bits 0 xl = sm := by rw [hqS, hzx]
    rw [hsm] at hpk hpf
    rw [hsm]
    obtain ⟨-, hcS, hmS, heS⟩ := hslS.parts
    have hsub : sm.Sublist xl := by rw [← hsm]; exact pick_sub _ _ _
    have hslB := Sl.mono _ _ _ _ _ extS.sub hslB
    have hslR := Sl.mono _ _ _ _ _ extS.sub hslR
    have heB := Elems.mono _ _ _ _ _ extS.sub heB
    have heR := Elems.mono _ _ _ _ _ extS.sub heR
    have hslX := Sl.mono _ _ _ _ _ extS.sub hslX
    have heX := Elems.mono _ _ _ _ _ extS.sub heX
    refine c_region ?_
    refine l_val (v := .agg #[.slice p1 (bs.length) (c2), .slice q3 (R.length) (d4), Ix (gX), Ix (gY)]) rfl rfl rfl (e_load tf31 (cs := [.slice p1 (bs.length) (c2), .slice q3 (R.length) (d4), Ix (gX), Ix (gY)]) rfl (k_pt 1 (cs := #[.slice p1 (bs.length) (c2), .slice q3 (R.length) (d4), Ix (gX), Ix (gY)]) (vs := [.slice p1 (bs.length) (c2), .slice q3 (R.length) (d4), Ix (gX), Ix (gY)]) rfl rfl) rfl) ?_
    refine l_val (v := .slice ip (sm.flatten.length) ic) rfl rfl rfl (e_move) ?_
    have hplp56 := partB_len sm.flatten bs
    have hpmp56 := partR_len (partB sm.flatten bs) R
    refine l_call rfl rfl rfl (cl_value (fst := []) (cap := []) (vs := [.agg #[.slice p1 (bs.length) (c2), .slice q3 (R.length) (d4), Ix (gX), Ix (gY)], .slice ip (sm.flatten.length) ic]) (all := [.agg #[.slice p1 (bs.length) (c2), .slice q3 (R.length) (d4), Ix (gX), Ix (gY)], .slice ip (sm.flatten.length) ic]) tf76 rfl rfl rfl) ?_
    intro w hw
    obtain ⟨β1, sb, kn, hw1, back⟩ := St.frame_all hw
    refine (partO_ok β1 w hw1 _ _ _ gX gY bs R sm.flatten (Sl.mono _ _ _ _ _ sb hslB) (Sl.mono _ _ _ _ _ sb hslR) (kn _ (k_flN 0 (F := IntF) (m := sm.flatten.length) rfl rfl)) (by omega) (by omega) hok hpf).mono ?_
    rintro e w' ⟨p56, c57, q58, d59, rfl, hw'⟩
    refine ⟨_, rfl, _, back _ _ hw', ?_⟩
    clear hw hw1 hw' back kn sb
    refine l_val (v := .tuple #[.agg #[.slice p56 ((partB sm.flatten bs).length) c57, .slice q58 ((partR (partB sm.flatten bs) R).length) d59, Ix (gX), Ix (gY)], .int .i64 (0)]) rfl rfl rfl (e_move) ?_
    refine l_val (v := .agg #[.slice p56 ((partB sm.flatten bs).length) c57, .slice q58 ((partR (partB sm.flatten bs) R).length) d59, Ix (gX), Ix (gY)]) rfl rfl rfl (e_extract (vs := #[.agg #[.slice p56 ((partB sm.flatten bs).length) c57, .slice q58 ((partR (partB sm.flatten bs) R).length) d59, Ix (gX), Ix (gY)], .int .i64 (0)]) rfl rfl) ?_
    refine l_val (v := .int .i64 (0)) rfl rfl rfl (e_extract (vs := #[.agg #[.slice p56 ((partB sm.flatten bs).length) c57, .slice q58 ((partR (partB sm.flatten bs) R).length) d59, Ix (gX), Ix (gY)], .int .i64 (0)]) rfl rfl) ?_
    refine l_mv rfl rfl rfl (m_alloc tf67) ?_
    rintro _ _ ⟨b60, rfl, rfl⟩
    refine l_mu rfl rfl (m_store 0 tf31 (b := b60) (o := 0) (T := 32) (cs := #[.slice none 0 0, .slice none 0 0, .int .i64 (0), .int .i64 (0)]) (cs' := #[.slice p56 ((partB sm.flatten bs).length) c57, .slice q58 ((partR (partB sm.flatten bs) R).length) d59, Ix (gX), Ix (gY)]) (v := .agg #[.slice p56 ((partB sm.flatten bs).length) c57, .slice q58 ((partR (partB sm.flatten bs) R).length) d59, Ix (gX), Ix (gY)]) rfl rfl rfl rfl rfl rfl rfl) ?_
    refine l_val (v := .int .i64 (0)) rfl rfl rfl (e_assign) ?_
    refine l_nil ?_
    refine f_then ?_
    refine c_seq ?_
    refine c_region ?_
    refine l_val (v := .agg #[.slice p56 ((partB sm.flatten bs).length) c57, .slice q58 ((partR (partB sm.flatten bs) R).length) d59, Ix (gX), Ix (gY)]) rfl rfl rfl (e_load tf31 (cs := [.slice p56 ((partB sm.flatten bs).length) c57, .slice q58 ((partR (partB sm.flatten bs) R).length) d59, Ix (gX), Ix (gY)]) rfl (k_pt 0 (cs := #[.slice p56 ((partB sm.flatten bs).length) c57, .slice q58 ((partR (partB sm.flatten bs) R).length) d59, Ix (gX), Ix (gY)]) (vs := [.slice p56 ((partB sm.flatten bs).length) c57, .slice q58 ((partR (partB sm.flatten bs) R).length) d59, Ix (gX), Ix (gY)]) rfl rfl) rfl) ?_
    refine l_call rfl rfl rfl (cl_value (fst := []) (cap := []) (vs := [.agg #[.slice p56 ((partB sm.flatten bs).length) c57, .slice q58 ((partR (partB sm.flatten bs) R).length) d59, Ix (gX), Ix (gY)]]) (all := [.agg #[.slice p56 ((partB sm.flatten bs).length) c57, .slice q58 ((partR (partB sm.flatten bs) R).length) d59, Ix (gX), Ix (gY)]]) tf75 rfl rfl rfl) ?_
    intro w hw
    obtain ⟨β1, sb, kn, hw1, back⟩ := St.frame_all hw
    refine (islO_ok β1 w hw1 _ _ gX gY (partB sm.flatten bs) (partR (partB sm.flatten bs) R) (kn _ (k_flN 1 (F := BodyF) (m := (partB sm.flatten bs).length) rfl rfl)) (kn _ (k_flN 2 (F := RopeF) (m := (partR (partB sm.flatten bs) R).length) rfl rfl)) (by omega) (by omega) (part_okS hok sm.flatten)).mono ?_
    rintro e w' ⟨p61, c62, hs63, hx64, rfl, hw'⟩
    refine ⟨_, rfl, _, back _ _ hw', ?_⟩
    clear hw hw1 hw' back kn sb
    refine l_val (v := .tuple #[.slice p61 (hs63.length) c62, .int .i64 (0)]) rfl rfl rfl (e_move) ?_
    refine l_val (v := .slice p61 (hs63.length) c62) rfl rfl rfl (e_extract (vs := #[.slice p61 (hs63.length) c62, .int .i64 (0)]) rfl rfl) ?_
    refine l_val (v := .int .i64 (0)) rfl rfl rfl (e_extract (vs := #[.slice p61 (hs63.length) c62, .int .i64 (0)]) rfl rfl) ?_
    refine l_val (v := .slice p61 (hs63.length) c62) rfl rfl rfl (e_assign) ?_
    refine l_val (v := .int .i64 (0)) rfl rfl rfl (e_assign) ?_
    refine l_nil ?_
    refine f_then ?_
    refine c_seq ?_
    refine c_seq ?_
    have hall : hs63.map (·.xs) = sm := part_isl hS hsub (IsS.of (part_okS hok sm.flatten) hx64)
    have hokp := part_okS hok sm.flatten
    refine c_region ?_
    refine l_val (v := .int .i64 (0)) rfl rfl rfl (e_move) ?_
    refine l_val (v := .int .i64 (0)) rfl rfl rfl (e_move) ?_
    refine l_val (v := .int .i64 (0)) rfl rfl rfl (e_add (a := (0 : Int)) (b := (0 : Int)) rfl rfl (by decide)) ?_
    refine l_val (v := .bool false) rfl rfl rfl (e_neq (a := (0 : Int)) (b := (0 : Int)) rfl rfl) ?_
    refine l_val (v := .bool false) rfl rfl rfl (e_move) ?_
    refine g_val (v := .slice p61 (hs63.length) c62) rfl rfl rfl rfl rfl (e_move) ?_
    refine g_val (v := .slice sp (sm.length) (sc)) rfl rfl rfl rfl rfl (e_move) ?_
    refine g_call rfl rfl rfl rfl rfl (cl_value (fst := []) (cap := []) (vs := [.slice p61 (hs63.length) c62, .slice sp (sm.length) (sc)]) (all := [.slice p61 (hs63.length) c62, .slice sp (sm.length) (sc)]) tf77 rfl rfl rfl) ?_
    intro w hw
    obtain ⟨β1, sb, kn, hw1, back⟩ := St.frame_all hw
    refine (sameL_ok β1 w hw1 _ _ (hs63.map (·.xs)) sm (kn _ (k_ll 0 rfl)) (Sl.mono _ _ _ _ _ sb hslS)).mono ?_
    rintro e w' ⟨rfl, hw'⟩
    refine ⟨_, rfl, _, back _ _ hw', ?_⟩
    clear hw hw1 hw' back kn sb
    refine g_val (v := .bool (decide (¬ ((hs63.map (·.xs)) = sm)))) rfl rfl rfl rfl rfl (e_not_p (p := (hs63.map (·.xs)) = sm) rfl) ?_
    refine l_val (v := .bool (decide (¬ ((hs63.map (·.xs)) = sm)))) rfl rfl rfl (e_pick_f rfl) ?_
    refine l_val (v := .bool (decide (¬ ((hs63.map (·.xs)) = sm)))) rfl rfl rfl (e_move) ?_
    refine l_split (s := 115) (p := ¬ ((hs63.map (·.xs)) = sm)) rfl (fun h => ?_) (fun h => ?_)
    exact absurd h (fun q => q hall)
    refine g_val (v := .pointer (some ⟨b60, 2, none⟩)) rfl rfl rfl rfl rfl (e_fieldPt (b := b60) (o := 0) rfl tf40) ?_
    refine g_val (v := .agg #[Ix (gX), Ix (gY)]) rfl rfl rfl rfl rfl (e_load tf5 (cs := [Ix (gX), Ix (gY)]) rfl (k_pt 1 (cs := #[.slice p56 ((partB sm.flatten bs).length) c57, .slice q58 ((partR (partB sm.flatten bs) R).length) d59, Ix (gX), Ix (gY)]) (vs := [Ix (gX), Ix (gY)]) rfl rfl) rfl) ?_
    refine g_val (v := .pointer (some ⟨b5, 2, none⟩)) rfl rfl rfl rfl rfl (e_fieldPt (b := b5) (o := 0) rfl tf40) ?_
    refine g_val (v := .agg #[Ix (gX), Ix (gY)]) rfl rfl rfl rfl rfl (e_load tf5 (cs := [Ix (gX), Ix (gY)]) rfl (k_pt 5 (cs := #[.slice p1 (bs.length) (c2), .slice q3 (R.length) (d4), Ix (gX), Ix (gY)]) (vs := [Ix (gX), Ix (gY)]) rfl rfl) rfl) ?_
    refine g_val (v := .bool (decide (¬ ((gX) = (gX) ∧ (gY) = (gY))))) rfl rfl rfl rfl rfl (e_neq_t (xs := [Ix (gX), Ix (gY)]) (ys := [Ix (gX), Ix (gY)]) tf94 tf95 tf96 rfl rfl rfl rfl (not_congr vec_eq)) ?_
    refine l_val (v := .bool (decide (¬ ((gX) = (gX) ∧ (gY) = (gY))))) rfl rfl rfl (e_pick_f rfl) ?_
    refine l_val (v := .bool (decide (¬ ((gX) = (gX) ∧ (gY) = (gY))))) rfl rfl rfl (e_move) ?_
    refine l_split (s := 122) (p := ¬ ((gX) = (gX) ∧ (gY) = (gY))) rfl (fun h => ?_) (fun h => ?_)
    exact absurd h (fun q => q ⟨rfl, rfl⟩)
    refine g_val (v := .agg #[.slice p56 ((partB sm.flatten bs).length) c57, .slice q58 ((partR (partB sm.flatten bs) R).length) d59, Ix (gX), Ix (gY)]) rfl rfl rfl rfl rfl (e_load tf31 (cs := [.slice p56 ((partB sm.flatten bs).length) c57, .slice q58 ((partR (partB sm.flatten bs) R).length) d59, Ix (gX), Ix (gY)]) rfl (k_pt 1 (cs := #[.slice p56 ((partB sm.flatten bs).length) c57, .slice q58 ((partR (partB sm.flatten bs) R).length) d59, Ix (gX), Ix (gY)]) (vs := [.slice p56 ((partB sm.flatten bs).length) c57, .slice q58 ((partR (partB sm.flatten bs) R).length) d59, Ix (gX), Ix (gY)]) rfl rfl) rfl) ?_
    refine g_call rfl rfl rfl rfl rfl (cl_value (fst := []) (cap := []) (vs := [.agg #[.slice p56 ((partB sm.flatten bs).length) c57, .slice q58 ((partR (partB sm.flatten bs) R).length) d59, Ix (gX), Ix (gY)]]) (all := [.agg #[.slice p56 ((partB sm.flatten bs).length) c57, .slice q58 ((partR (partB sm.flatten bs) R).length) d59, Ix (gX), Ix (gY)]]) tf32 rfl rfl rfl) ?_
    intro w hw
    obtain ⟨β1, sb, kn, hw1, back⟩ := St.frame_all hw
    refine (ivalid_ok β1 w hw1 _ _ gX gY (partB sm.flatten bs) (partR (partB sm.flatten bs) R) (kn _ (k_flN 2 (F := BodyF) (m := (partB sm.flatten bs).length) rfl rfl)) (kn _ (k_flN 3 (F := RopeF) (m := (partR (partB sm.flatten bs) R).length) rfl rfl)) (by omega) (by omega)).mono ?_
    rintro e w' ⟨rfl, hw'⟩
    refine ⟨_, rfl, _, back _ _ hw', ?_⟩
    clear hw hw1 hw' back kn sb
    refine g_val (v := .bool (decide (¬ (okS (partB sm.flatten bs) (partR (partB sm.flatten bs) R) gX gY)))) rfl rfl rfl rfl rfl (e_not_p (p := okS (partB sm.flatten bs) (partR (partB sm.flatten bs) R) gX gY) rfl) ?_
    refine l_val (v := .bool (decide (¬ (okS (partB sm.flatten bs) (partR (partB sm.flatten bs) R) gX gY)))) rfl rfl rfl (e_pick_f rfl) ?_
    refine l_nil ?_
    refine f_then ?_
    refine c_if (¬ (okS (partB sm.flatten bs) (partR (partB sm.flatten bs) R) gX gY)) rfl (fun hc65 => ?_) (fun hc65 => ?_)
    ·
      exact absurd hc65 (fun q => q hokp)
    ·
      refine c_skip ?_
      refine f_then ?_
      refine c_seq ?_
      refine c_region ?_
      refine l_val (v := .int .i64 (0)) rfl rfl rfl (e_assign) ?_
      refine l_nil ?_
      refine f_then ?_
      refine c_seq ?_
      refine c_seq ?_
      obtain ⟨ids, hids⟩ : ∃ z, z = sm.flatten := ⟨_, rfl⟩
      rw [← hids]
      refine c_mask [false, true, true, false, false, true] rfl ?_
      have hpbl := partB_len ids bs
      refine c_region ?_
      refine l_val (v := .pointer (some ⟨b5, 0, none⟩)) rfl rfl rfl (e_fieldPt (b := b5) (o := 0) rfl tf33) ?_
      refine l_val (v := .slice p1 (bs.length) (c2)) rfl rfl rfl (e_load1 tf26 (v := .slice p1 (bs.length) (c2)) rfl (k_pt 2 (cs := #[.slice p1 (bs.length) (c2), .slice q3 (R.length) (d4), Ix (gX), Ix (gY)]) (vs := [.slice p1 (bs.length) (c2)]) rfl rfl)) ?_
      refine l_val (v := Nx (bs.length)) rfl rfl rfl (e_len (a := p1) (n := bs.length) (c := c2) rfl tf15) ?_
      refine l_val (v := .int .i64 (0)) rfl rfl rfl (e_move) ?_
      refine l_nil ?_
      refine f_then ?_
      refine c_block ?_
      refine c_loop (fun (k : Nat) (f : Fm) (L : List Res) => (f 14 = .slice sp (sm.length) (sc) ∧ f 21 = .pointer (some ⟨b60, 0, none⟩) ∧ f 25 = Nx ((partB ids (bs.take k)).length) ∧ f 128 = .slice p1 (bs.length) (c2) ∧ f 129 = Nx (bs.length) ∧ f 130 = Nx (k)) ∧ L = [pt b60 (.cells #[.slice p56 ((partB ids bs).length) c57, .slice q58 ((partR (partB ids bs) R).length) d59, Ix (gX), Ix (gY)] 32), rowF BodyF 39 p56 c57 (partB ids bs), pt b5 (.cells #[.slice p1 (bs.length) (c2), .slice q3 (R.length) (d4), Ix (gX), Ix (gY)] 32)] ∧ (k ≤ bs.length)) (fun (k : Nat) => bs.length - k) 0 ?_ ?_
      · exact ⟨⟨rfl, rfl, rfl, rfl, rfl, rfl⟩, rfl, by omega⟩
      rintro k f0 L0 ⟨⟨hs14, hs21, hs25, hs128, hs129, hs130⟩, hL, hk⟩
      subst L0
      refine rebase (d := 14) hs14 ?_
      refine rebase (d := 21) hs21 ?_
      refine rebase (d := 25) hs25 ?_
      refine rebase (d := 128) hs128 ?_
      refine rebase (d := 129) hs129 ?_
      refine rebase (d := 130) hs130 ?_
      clear hs14 hs21 hs25 hs128 hs129 hs130
      have hpbk := partB_len ids (bs.take k)
      rw [List.length_take] at hpbk
      refine c_seq ?_
      refine c_region ?_
      refine l_val (v := .bool (decide (((k : Nat) : Int) < ((bs.length : Nat) : Int)))) rfl rfl rfl (e_lss (a := ((k : Nat) : Int)) (b := ((bs.length : Nat) : Int)) rfl rfl) ?_
      refine l_nil ?_
      refine f_then ?_
      refine c_seq ?_
      refine c_if (((k : Nat) : Int) < ((bs.length : Nat) : Int)) rfl (fun hc66 => ?_) (fun hc66 => ?_)
      ·
        refine c_skip ?_
        refine f_then ?_
        refine c_seq ?_
        refine c_block ?_
        refine c_seq ?_
        refine c_region ?_
        obtain ⟨x67, hx68⟩ : ∃ x_, (bs)[k]? = some x_ := ⟨_, List.getElem?_eq_getElem (by omega)⟩
        obtain ⟨ha69, cs70, hc71, rfl⟩ := heB _ _ hx68
        refine l_val (v := .pointer (some ((ba p1).add (k * 9)))) rfl rfl rfl (e_indexAddr (k := k) (len := bs.length) (cap := c2) (a := p1) rfl rfl tf16 (by omega) ha69) ?_
        refine l_val (v := .agg (bC x67)) rfl rfl rfl (e_load tf1 (cs := (bodyE x67)) rfl (Knows.of_base (Cs.mono _ _) hc71) rfl) ?_
        refine l_mv rfl rfl rfl (m_alloc tf17) ?_
        rintro _ _ ⟨b73, rfl, rfl⟩
        refine l_mu rfl rfl (m_store 0 tf1 (b := b73) (o := 0) (T := 39) (cs := #[.int .i64 (0), .int .i64 (0), .int .i64 (0), .int .i64 (0), .int .i64 (0), .int .i64 (0), .int .i64 (0), .bool false, .bool false]) (cs' := (bC x67)) (v := .agg (bC x67)) rfl rfl rfl rfl rfl rfl rfl) ?_
        refine l_nil ?_
        refine f_then ?_
        refine c_seq ?_
        refine c_region ?_
        refine l_val (v := .pointer (some ⟨b73, 8, none⟩)) rfl rfl rfl (e_fieldPt (b := b73) (o := 0) rfl tf18) ?_
        refine l_val (v := .bool (x67.fixed)) rfl rfl rfl (e_load1 tf19 (v := .bool (x67.fixed)) rfl (k_pt 0 (cs := (bC x67)) (vs := [.bool (x67.fixed)]) rfl rfl)) ?_
        refine l_val (v := .bool (x67.fixed)) rfl rfl rfl (e_move) ?_
        refine l_splitb (s := 136) (b := x67.fixed) rfl (fun hg74 => ?_) (fun hg74 => ?_)
        ·
          refine l_skip rfl rfl rfl rfl rfl rfl ?_
          refine l_skip rfl rfl rfl rfl rfl rfl ?_
          refine l_skip rfl rfl rfl rfl rfl rfl ?_
          refine l_skip rfl rfl rfl rfl rfl rfl ?_
          refine l_skip rfl rfl rfl rfl rfl rfl ?_
          refine l_val (v := .bool true) rfl rfl rfl (e_pick_t rfl) ?_
          refine l_nil ?_
          refine f_then ?_
          refine c_yes rfl ?_
          refine c_seq ?_
          refine c_seq ?_
          have hpat := part_at (ids := ids) hx68 (.inl hg74)
          have hpal := (List.getElem?_eq_some_iff.1 hpat).1
          refine c_quiet (by kernel_rfl) (by kernel_rfl) ?_
          refine q_val (v := Nx ((partB ids (bs.take k)).length)) rfl rfl rfl (e_move) ?_
          refine q_val (v := .pointer (some ⟨b60, 0, none⟩)) rfl rfl rfl (e_fieldPt (b := b60) (o := 0) rfl tf33) ?_
          refine q_val (v := .slice p56 ((partB ids bs).length) c57) rfl rfl rfl (e_load1 tf26 (v := .slice p56 ((partB ids bs).length) c57) rfl (k_pt 1 (cs := #[.slice p56 ((partB ids bs).length) c57, .slice q58 ((partR (partB ids bs) R).length) d59, Ix (gX), Ix (gY)]) (vs := [.slice p56 ((partB ids bs).length) c57]) rfl rfl)) ?_
          refine q_val (v := Nx ((partB ids bs).length)) rfl rfl rfl (e_len (a := p56) (n := (partB ids bs).length) (c := c57) rfl tf15) ?_
          refine q_val (v := .bool (decide ((((partB ids bs).length : Nat) : Int) ≤ (((partB ids (bs.take k)).length : Nat) : Int)))) rfl rfl rfl (e_geq (a := (((partB ids (bs.take k)).length : Nat) : Int)) (b := (((partB ids bs).length : Nat) : Int)) rfl rfl) ?_
          refine q_val (v := .bool (decide ((((partB ids bs).length : Nat) : Int) ≤ (((partB ids (bs.take k)).length : Nat) : Int)))) rfl rfl rfl (e_move) ?_
          refine q_split (s := 148) (p := (((partB ids bs).length : Nat) : Int) ≤ (((partB ids (bs.take k)).length : Nat) : Int)) rfl (fun h => ?_) (fun h => ?_)
          exact absurd h (by omega)
          refine qg_val (v := .pointer (some ⟨b60, 0, none⟩)) rfl rfl rfl rfl rfl (e_fieldPt (b := b60) (o := 0) rfl tf33) ?_
          refine qg_val (v := .slice p56 ((partB ids bs).length) c57) rfl rfl rfl rfl rfl (e_load1 tf26 (v := .slice p56 ((partB ids bs).length) c57) rfl (k_pt 1 (cs := #[.slice p56 ((partB ids bs).length) c57, .slice q58 ((partR (partB ids bs) R).length) d59, Ix (gX), Ix (gY)]) (vs := [.slice p56 ((partB ids bs).length) c57]) rfl rfl)) ?_
          refine qg_val (v := Nx ((partB ids (bs.take k)).length)) rfl rfl rfl rfl rfl (e_move) ?_
          refine qg_val (v := .pointer (some ((ba p56).add (((partB ids (bs.take k)).length) * 9)))) rfl rfl rfl rfl rfl (e_indexFlN 2 (F := BodyF) (j := (partB ids (bs.take k)).length) (m := (partB ids bs).length) (xs := (partB ids bs)) rfl rfl rfl tf16 (by omega) rfl) ?_
          obtain ⟨x75, hx76⟩ : ∃ x_, (partB ids bs)[(partB ids (bs.take k)).length]? = some x_ := ⟨_, List.getElem?_eq_getElem (by omega)⟩
          refine qg_val (v := .agg (bC x75)) rfl rfl rfl rfl rfl (e_load tf1 (cs := (bodyE x75)) rfl (k_flAt 2 (F := BodyF) rfl hx76) rfl) ?_
          refine qg_val (v := .agg (bC x67)) rfl rfl rfl rfl rfl (e_load tf1 (cs := (bodyE x67)) rfl (k_pt 0 (cs := (bC x67)) (vs := (bodyE x67)) rfl rfl) rfl) ?_
          refine qg_val (v := .bool (decide (¬ (x75 = x67)))) rfl rfl rfl rfl rfl (e_neq_t (xs := (bodyE x75)) (ys := (bodyE x67)) tf97 tf98 tf99 rfl rfl rfl rfl (not_congr body_eq)) ?_
          refine q_val (v := .bool (decide (¬ (x75 = x67)))) rfl rfl rfl (e_pick_f rfl) ?_
          refine q_nil ?_
          refine f_then ?_
          refine c_if (¬ (x75 = x67)) rfl (fun hc77 => ?_) (fun hc77 => ?_)
          ·
            exact absurd hc77 (fun q => q (Option.some.inj (hx76.symm.trans hpat)))
          ·
            refine c_skip ?_
            refine f_then ?_
            refine c_region ?_
            refine l_val (v := Nx ((partB ids (bs.take k)).length)) rfl rfl rfl (e_move) ?_
            refine l_val (v := Nx (((partB ids (bs.take k)).length) + 1)) rfl rfl rfl (e_add (a := (((partB ids (bs.take k)).length : Nat) : Int)) (b := (1 : Int)) rfl rfl (i64n (by omega) (by omega))) ?_
            refine l_val (v := Nx (((partB ids (bs.take k)).length) + 1)) rfl rfl rfl (e_assign) ?_
            refine l_nil ?_
            refine f_block ?_
            refine f_then ?_
            refine c_region ?_
            refine l_val (v := Nx (k + 1)) rfl rfl rfl (e_add (a := ((k : Nat) : Int)) (b := (1 : Int)) rfl rfl (i64n (by omega) (by omega))) ?_
            refine l_val (v := Nx (k + 1)) rfl rfl rfl (e_move) ?_
            refine l_nil ?_
            refine f_mask (L' := [pt b60 (.cells #[.slice p56 ((partB ids bs).length) c57, .slice q58 ((partR (partB ids bs) R).length) d59, Ix (gX), Ix (gY)] 32), rowF BodyF 39 p56 c57 (partB ids bs), pt b5 (.cells #[.slice p1 (bs.length) (c2), .slice q3 (R.length) (d4), Ix (gX), Ix (gY)] 32)]) [false, true, true, true] rfl ?_
            exact f_cut ⟨k + 1, ⟨⟨rfl, rfl, congrArg (fun z : Nat => Nx z) (by rw [← partB_yes hx68 (.inl hg74), List.length_append]; rfl), rfl, rfl, rfl⟩, rfl, by omega⟩, (show bs.length - (k + 1) < bs.length - k from by omega)⟩
        ·
          refine g_val (v := .slice sp (sm.length) (sc)) rfl rfl rfl rfl rfl (e_move) ?_
          refine g_val (v := .pointer (some ⟨b73, 0, none⟩)) rfl rfl rfl rfl rfl (e_fieldPt (b := b73) (o := 0) rfl tf27) ?_
          refine g_val (v := Ix (x67.id)) rfl rfl rfl rfl rfl (e_load1 tf11 (v := Ix (x67.id)) rfl (k_pt 0 (cs := (bC x67)) (vs := [Ix (x67.id)]) rfl rfl)) ?_
          refine g_call rfl rfl rfl rfl rfl (cl_value (fst := []) (cap := []) (vs := [.slice sp (sm.length) (sc), Ix (x67.id)]) (all := [.slice sp (sm.length) (sc), Ix (x67.id)]) tf87 rfl rfl rfl) ?_
          intro w hw
          obtain ⟨β1, sb, kn, hw1, back⟩ := St.frame_all hw
          refine (place_ok β1 w hw1 _ sm (Sl.mono _ _ _ _ _ sb hslS) x67.id).mono ?_
          rintro e w' ⟨rfl, hw'⟩
          refine ⟨_, rfl, _, back _ _ hw', ?_⟩
          clear hw hw1 hw' back kn sb
          refine g_val (v := .bool (decide ((0 : Int) ≤ (placeI sm x67.id)))) rfl rfl rfl rfl rfl (e_geq (a := (placeI sm x67.id)) (b := (0 : Int)) rfl rfl) ?_
          refine l_val (v := .bool (decide ((0 : Int) ≤ (placeI sm x67.id)))) rfl rfl rfl (e_pick_f rfl) ?_
          refine l_nil ?_
          refine f_then ?_
          refine c_if ((0 : Int) ≤ (placeI sm x67.id)) rfl (fun hc78 => ?_) (fun hc78 => ?_)
          ·
            refine c_seq ?_
            refine c_seq ?_
            have hpat := part_at (ids := ids) hx68 (.inr (hids ▸ placed_in.1 hc78))
            have hpal := (List.getElem?_eq_some_iff.1 hpat).1
            refine c_quiet (by kernel_rfl) (by kernel_rfl) ?_
            refine q_val (v := Nx ((partB ids (bs.take k)).length)) rfl rfl rfl (e_move) ?_
            refine q_val (v := .pointer (some ⟨b60, 0, none⟩)) rfl rfl rfl (e_fieldPt (b := b60) (o := 0) rfl tf33) ?_
            refine q_val (v := .slice p56 ((partB ids bs).length) c57) rfl rfl rfl (e_load1 tf26 (v := .slice p56 ((partB ids bs).length) c57) rfl (k_pt 1 (cs := #[.slice p56 ((partB ids bs).length) c57, .slice q58 ((partR (partB ids bs) R).length) d59, Ix (gX), Ix (gY)]) (vs := [.slice p56 ((partB ids bs).length) c57]) rfl rfl)) ?_
            refine q_val (v := Nx ((partB ids bs).length)) rfl rfl rfl (e_len (a := p56) (n := (partB ids bs).length) (c := c57) rfl tf15) ?_
            refine q_val (v := .bool (decide ((((partB ids bs).length : Nat) : Int) ≤ (((partB ids (bs.take k)).length : Nat) : Int)))) rfl rfl rfl (e_geq (a := (((partB ids (bs.take k)).length : Nat) : Int)) (b := (((partB ids bs).length : Nat) : Int)) rfl rfl) ?_
            refine q_val (v := .bool (decide ((((partB ids bs).length : Nat) : Int) ≤ (((partB ids (bs.take k)).length : Nat) : Int)))) rfl rfl rfl (e_move) ?_
            refine q_split (s := 148) (p := (((partB ids bs).length : Nat) : Int) ≤ (((partB ids (bs.take k)).length : Nat) : Int)) rfl (fun h => ?_) (fun h => ?_)
            exact absurd h (by omega)
            refine qg_val (v := .pointer (some ⟨b60, 0, none⟩)) rfl rfl rfl rfl rfl (e_fieldPt (b := b60) (o := 0) rfl tf33) ?_
            refine qg_val (v := .slice p56 ((partB ids bs).length) c57) rfl rfl rfl rfl rfl (e_load1 tf26 (v := .slice p56 ((partB ids bs).length) c57) rfl (k_pt 1 (cs := #[.slice p56 ((partB ids bs).length) c57, .slice q58 ((partR (partB ids bs) R).length) d59, Ix (gX), Ix (gY)]) (vs := [.slice p56 ((partB ids bs).length) c57]) rfl rfl)) ?_
            refine qg_val (v := Nx ((partB ids (bs.take k)).length)) rfl rfl rfl rfl rfl (e_move) ?_
            refine qg_val (v := .pointer (some ((ba p56).add (((partB ids (bs.take k)).length) * 9)))) rfl rfl rfl rfl rfl (e_indexFlN 2 (F := BodyF) (j := (partB ids (bs.take k)).length) (m := (partB ids bs).length) (xs := (partB ids bs)) rfl rfl rfl tf16 (by omega) rfl) ?_
            obtain ⟨x79, hx80⟩ : ∃ x_, (partB ids bs)[(partB ids (bs.take k)).length]? = some x_ := ⟨_, List.getElem?_eq_getElem (by omega)⟩
            refine qg_val (v := .agg (bC x79)) rfl rfl rfl rfl rfl (e_load tf1 (cs := (bodyE x79)) rfl (k_flAt 2 (F := BodyF) rfl hx80) rfl) ?_
            refine qg_val (v := .agg (bC x67)) rfl rfl rfl rfl rfl (e_load tf1 (cs := (bodyE x67)) rfl (k_pt 0 (cs := (bC x67)) (vs := (bodyE x67)) rfl rfl) rfl) ?_
            refine qg_val (v := .bool (decide (¬ (x79 = x67)))) rfl rfl rfl rfl rfl (e_neq_t (xs := (bodyE x79)) (ys := (bodyE x67)) tf97 tf98 tf99 rfl rfl rfl rfl (not_congr body_eq)) ?_
            refine q_val (v := .bool (decide (¬ (x79 = x67)))) rfl rfl rfl (e_pick_f rfl) ?_
            refine q_nil ?_
            refine f_then ?_
            refine c_if (¬ (x79 = x67)) rfl (fun hc81 => ?_) (fun hc81 => ?_)
            ·
              exact absurd hc81 (fun q => q (Option.some.inj (hx80.symm.trans hpat)))
            ·
              refine c_skip ?_
              refine f_then ?_
              refine c_region ?_
              refine l_val (v := Nx ((partB ids (bs.take k)).length)) rfl rfl rfl (e_move) ?_
              refine l_val (v := Nx (((partB ids (bs.take k)).length) + 1)) rfl rfl rfl (e_add (a := (((partB ids (bs.take k)).length : Nat) : Int)) (b := (1 : Int)) rfl rfl (i64n (by omega) (by omega))) ?_
              refine l_val (v := Nx (((partB ids (bs.take k)).length) + 1)) rfl rfl rfl (e_assign) ?_
              refine l_nil ?_
              refine f_block ?_
              refine f_then ?_
              refine c_region ?_
              refine l_val (v := Nx (k + 1)) rfl rfl rfl (e_add (a := ((k : Nat) : Int)) (b := (1 : Int)) rfl rfl (i64n (by omega) (by omega))) ?_
              refine l_val (v := Nx (k + 1)) rfl rfl rfl (e_move) ?_
              refine l_nil ?_
              refine f_mask (L' := [pt b60 (.cells #[.slice p56 ((partB ids bs).length) c57, .slice q58 ((partR (partB ids bs) R).length) d59, Ix (gX), Ix (gY)] 32), rowF BodyF 39 p56 c57 (partB ids bs), pt b5 (.cells #[.slice p1 (bs.length) (c2), .slice q3 (R.length) (d4), Ix (gX), Ix (gY)] 32)]) [false, true, true, true] rfl ?_
              exact f_cut ⟨k + 1, ⟨⟨rfl, rfl, congrArg (fun z : Nat => Nx z) (by rw [← partB_yes hx68 (.inr (hids ▸ placed_in.1 hc78)), List.length_append]; rfl), rfl, rfl, rfl⟩, rfl, by omega⟩, (show bs.length - (k + 1) < bs.length - k from by omega)⟩
          ·
            refine c_skip ?_
            refine f_block ?_
            refine f_then ?_
            refine c_region ?_
            refine l_val (v := Nx (k + 1)) rfl rfl rfl (e_add (a := ((k : Nat) : Int)) (b := (1 : Int)) rfl rfl (i64n (by omega) (by omega))) ?_
            refine l_val (v := Nx (k + 1)) rfl rfl rfl (e_move) ?_
            refine l_nil ?_
            refine f_mask (L' := [pt b60 (.cells #[.slice p56 ((partB ids bs).length) c57, .slice q58 ((partR (partB ids bs) R).length) d59, Ix (gX), Ix (gY)] 32), rowF BodyF 39 p56 c57 (partB ids bs), pt b5 (.cells #[.slice p1 (bs.length) (c2), .slice q3 (R.length) (d4), Ix (gX), Ix (gY)] 32)]) [false, true, true, true] rfl ?_
            exact f_cut ⟨k + 1, ⟨⟨rfl, rfl, congrArg (fun z : Nat => Nx z) (by rw [partB_no hx68 (by simpa using hg74) (fun q => hc78 (placed_in.2 (hids ▸ q)))]), rfl, rfl, rfl⟩, rfl, by omega⟩, (show bs.length - (k + 1) < bs.length - k from by omega)⟩
      ·
        refine c_exit ?_
        refine f_then_exit ?_
        refine f_then_exit ?_
        refine f_exit ?_
        refine f_then ?_
        refine c_seq ?_
        refine c_region ?_
        refine l_val (v := Nx ((partB ids (bs.take k)).length)) rfl rfl rfl (e_move) ?_
        refine l_val (v := .pointer (some ⟨b60, 0, none⟩)) rfl rfl rfl (e_fieldPt (b := b60) (o := 0) rfl tf33) ?_
        refine l_val (v := .slice p56 ((partB ids bs).length) c57) rfl rfl rfl (e_load1 tf26 (v := .slice p56 ((partB ids bs).length) c57) rfl (k_pt 0 (cs := #[.slice p56 ((partB ids bs).length) c57, .slice q58 ((partR (partB ids bs) R).length) d59, Ix (gX), Ix (gY)]) (vs := [.slice p56 ((partB ids bs).length) c57]) rfl rfl)) ?_
        refine l_val (v := Nx ((partB ids bs).length)) rfl rfl rfl (e_len (a := p56) (n := (partB ids bs).length) (c := c57) rfl tf15) ?_
        refine l_val (v := .bool (decide ((((partB ids (bs.take k)).length : Nat) : Int) = (((partB ids bs).length : Nat) : Int)))) rfl rfl rfl (e_eql (a := (((partB ids (bs.take k)).length : Nat) : Int)) (b := (((partB ids bs).length : Nat) : Int)) rfl rfl) ?_
        refine l_val (v := .bool (decide ((((partB ids (bs.take k)).length : Nat) : Int) = (((partB ids bs).length : Nat) : Int)))) rfl rfl rfl (e_assign) ?_
        refine l_nil ?_
        refine f_then ?_
        refine c_ret ?_
        refine ret1 Try.results5 (v := .bool (decide ((((partB ids (bs.take k)).length : Nat) : Int) = (((partB ids bs).length : Nat) : Int)))) rfl ?_
        intro w hw
        exact ⟨congrArg (fun b : Bool => Ending.returned (.bool b)) (decide_eq_true (by rw [List.take_of_length_le (by omega)])), (st_mask [false, false] rfl (bk1 _ _ (st_mask [false] rfl (bkX _ _ (st_mask [false] rfl (bkS _ _ (st_mask [false, false, false] rfl hw)))))))⟩
end Go.Proofs
