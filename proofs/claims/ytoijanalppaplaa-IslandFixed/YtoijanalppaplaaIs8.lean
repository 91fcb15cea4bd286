/-
  IslandFixed: walked. Printed by a program of my own.
-/
import Derived.Test.YtoijanalppaplaaIsLaw2
namespace Go.Proofs
open Go Go.Sl Go.Brd Go.Stp Go.Isl
theorem tf81 : cfB Try.prog 9 = true := by kernel_rfl
theorem tf82 : cfB Try.prog 10 = true := by kernel_rfl
theorem tf83 : cfB Try.prog 22 = true := by kernel_rfl
theorem fixc_ok (β : Base) (w : World) (hw : St β [] w) (b : Nat) (v v2 : Value) (gx gy : Int) (bs : List KB) (hs : Sl KBR β.heap v bs) (hc : Cs β.heap ⟨b, 0, none⟩ [v, v2, Ix gx, Ix gy]) (hn : bs.length ≤ 1048576) (a : Nat) (z : KB) (hz : bs[a]? = some z) : Calls Try.prog 22 #[Nx (1 + 2 * a), .pointer (some ⟨b, 0, none⟩)] w fun r w' => r = .returned (.bool z.fixed) ∧ St β [] w' := by
  obtain ⟨va, vc, rfl, vl, vm, ve⟩ := hs.get
  have hal := (List.getElem?_eq_some_iff.1 hz).1
  refine enter (n := 11) Try.func22 rfl Try.ntmps22 rfl ?_ hw
  refine c_seq ?_
  refine c_region ?_
  refine l_val (v := .bool false) rfl rfl rfl (e_assign) ?_
  refine l_nil ?_
  refine f_then ?_
  refine c_seq ?_
  refine c_region ?_
  refine l_val (v := .pointer (some ((⟨b, 0, none⟩ : Addr).add 0))) rfl rfl rfl (e_fieldAddr (a := ⟨b, 0, none⟩) rfl tf33) ?_
  refine l_val (v := .slice va (bs.length) (vc)) rfl rfl rfl (e_load1 tf26 (v := .slice va (bs.length) (vc)) rfl (Knows.imp (Knows.of_base (Cs.mono _ _) hc) (fun _ h => Cs.sub (vs := [.slice va (bs.length) (vc)]) 0 h rfl))) ?_
  refine l_val (v := Nx (1 + 2 * a)) rfl rfl rfl (e_move) ?_
  refine l_val (v := Nx ((1 + 2 * a) / 2)) rfl rfl rfl (e_quo (a := ((1 + 2 * a : Nat) : Int)) (b := (2 : Int)) rfl rfl (by decide) (i64n (nat_tdiv _ 2) (by omega))) ?_
  obtain ⟨x1, hx2⟩ : ∃ x_, (bs)[(1 + 2 * a) / 2]? = some x_ := ⟨_, List.getElem?_eq_getElem (by omega)⟩
  obtain ⟨ha3, cs4, hc5, rfl⟩ := ve _ _ hx2
  refine l_val (v := .pointer (some ((ba va).add (((1 + 2 * a) / 2) * 9)))) rfl rfl rfl (e_indexAddr (k := (1 + 2 * a) / 2) (len := bs.length) (cap := vc) (a := va) rfl rfl tf16 (by omega) ha3) ?_
  refine l_val (v := .pointer (some (((ba va).add (((1 + 2 * a) / 2) * 9) : Addr).add 8))) rfl rfl rfl (e_fieldAddr (a := (ba va).add (((1 + 2 * a) / 2) * 9)) rfl tf18) ?_
  refine l_val (v := .bool (x1.fixed)) rfl rfl rfl (e_load1 tf19 (v := .bool (x1.fixed)) rfl (Knows.imp (Knows.of_base (Cs.mono _ _) hc5) (fun _ h => Cs.sub (vs := [.bool (x1.fixed)]) 8 h rfl))) ?_
  refine l_val (v := .bool (x1.fixed)) rfl rfl rfl (e_assign) ?_
  refine l_nil ?_
  refine f_then ?_
  refine c_ret ?_
  refine ret1 Try.results22 (v := .bool (x1.fixed)) rfl ?_
  intro w hw
  rw [show (1 + 2 * a) / 2 = a by omega, hz] at hx2
  obtain rfl := Option.some.inj hx2
  exact ⟨rfl, st_mask [] rfl hw⟩
theorem fixd_ok (β : Base) (w : World) (hw : St β [] w) (b : Nat) (v v2 : Value) (gx gy : Int) (bs : List KB) (hs : Sl KBR β.heap v bs) (hc : Cs β.heap ⟨b, 0, none⟩ [v, v2, Ix gx, Ix gy]) (hn : bs.length ≤ 1048576) (a : Nat) (z : KB) (hz : bs[a]? = some z) (x : Int) (hx : x = ((1 + 2 * a : Nat) : Int)) : Calls Try.prog 22 #[Ix x, .pointer (some ⟨b, 0, none⟩)] w fun r w' => r = .returned (.bool z.fixed) ∧ St β [] w' := by
  subst hx; exact fixc_ok β w hw b v v2 gx gy bs hs hc hn a z hz
set_option maxHeartbeats 4000000 in
theorem fixed_ok (β : Base) (w : World) (hw : St β [] w) (v u : Value) (fs : List KF) (us : List UInt8) (hs : Sl FormR β.heap v fs) (hu : Sl U8R β.heap u us) (gx gy : Int) (hgx8 : -128 ≤ gx ∧ gx ≤ 127) (hgy8 : -128 ≤ gy ∧ gy ≤ 127) : Calls Try.prog 6 #[v, u, .int .i8 gx, .int .i8 gy] w fun r w' => r = .returned (.bool true) ∧ St β [] w' := by
  refine enter (n := 93) Try.func6 rfl Try.ntmps6 rfl ?_ hw
  refine c_seq ?_
  refine c_region ?_
  refine l_val (v := .bool false) rfl rfl rfl (e_assign) ?_
  refine l_nil ?_
  refine f_then ?_
  refine c_seq ?_
  refine c_seq ?_
  refine c_region ?_
  refine l_call rfl rfl rfl (cl_value (fst := []) (cap := []) (vs := []) (all := []) tf81 rfl rfl rfl) ?_
  intro w hw
  obtain ⟨β1, sb, kn, hw1, back⟩ := St.frame_all hw
  refine (awake_ok β1 w hw1).mono ?_
  rintro e w' ⟨rfl, hw'⟩
  refine ⟨_, rfl, _, back _ _ hw', ?_⟩
  clear hw hw1 hw' back kn sb
  refine l_val (v := .bool false) rfl rfl rfl (e_not (a := true) rfl) ?_
  refine l_nil ?_
  refine f_then ?_
  refine c_no rfl ?_
  refine c_skip ?_
  refine f_then ?_
  refine c_seq ?_
  refine c_region ?_
  refine l_val (v := v) rfl rfl rfl (e_move) ?_
  refine l_val (v := u) rfl rfl rfl (e_move) ?_
  refine l_val (v := .int .i8 (gx)) rfl rfl rfl (e_move) ?_
  refine l_val (v := .int .i8 (gy)) rfl rfl rfl (e_move) ?_
  refine l_call rfl rfl rfl (cl_value (fst := []) (cap := []) (vs := [v, u, .int .i8 (gx), .int .i8 (gy)]) (all := [v, u, .int .i8 (gx), .int .i8 (gy)]) tf82 rfl rfl rfl) ?_
  intro w hw
  obtain ⟨β1, sb, kn, hw1, back⟩ := St.frame_all hw
  refine (made7_ok β1 w hw1 _ _ fs us (Sl.mono _ _ _ _ _ sb hs) (Sl.mono _ _ _ _ _ sb hu) gx gy hgx8 hgy8).mono ?_
  rintro e w' ⟨bs, R, p1, c2, q3, d4, rfl, hmP, hbl, hrl, hw'⟩
  refine ⟨_, rfl, _, back _ _ hw', ?_⟩
  clear hw hw1 hw' back kn sb
  refine l_mv rfl rfl rfl (m_alloc tf67) ?_
  rintro _ _ ⟨b5, rfl, rfl⟩
  refine l_mu rfl rfl (m_store 0 tf31 (b := b5) (o := 0) (T := 32) (cs := #[.slice none 0 0, .slice none 0 0, .int .i64 (0), .int .i64 (0)]) (cs' := #[.slice p1 (bs.length) c2, .slice q3 (R.length) d4, Ix ((Int.tmod gx 32)), Ix ((Int.tmod gy 32))]) (v := .agg #[.slice p1 (bs.length) c2, .slice q3 (R.length) d4, Ix ((Int.tmod gx 32)), Ix ((Int.tmod gy 32))]) rfl rfl rfl rfl rfl rfl rfl) ?_
  refine l_nil ?_
  refine f_then ?_
  refine c_seq ?_
  have hgX := tmod_bd gx
  have hgY := tmod_bd gy
  obtain ⟨gX, hgx1⟩ : ∃ z, z = Int.tmod gx 32 := ⟨_, rfl⟩
  obtain ⟨gY, hgy1⟩ : ∃ z, z = Int.tmod gy 32 := ⟨_, rfl⟩
  rw [← hgx1] at hgX hmP
  rw [← hgy1] at hgY hmP
  rw [← hgx1, ← hgy1]
  have hok := hmP.ok
  obtain ⟨hk1, hk2, hk3, hk4, hk5, hk6⟩ := id hok
  have hfew := hmP.few
  refine c_freeze2 (M := [pt b5 (.cells #[.slice p1 (bs.length) c2, .slice q3 (R.length) d4, Ix (gX), Ix (gY)] 32)]) (K := [rowF BodyF 39 p1 c2 bs, rowF RopeF 49 q3 d4 R]) rfl (fun βf ext1 kn1 bk1 => ?_)
  have hslB : Sl KBR βf.heap (.slice p1 bs.length c2) bs := kn1 _ (k_fl 0 (F := BodyF) rfl)
  obtain ⟨-, hcB, hmB, heB⟩ := hslB.parts
  have hslR : Sl KRR βf.heap (.slice q3 R.length d4) R := kn1 _ (k_fl 1 (F := RopeF) rfl)
  obtain ⟨-, hcR, hmR, heR⟩ := hslR.parts
  refine c_region ?_
  refine l_val (v := .pointer (some ⟨b5, 2, none⟩)) rfl rfl rfl (e_fieldPt (b := b5) (o := 0) rfl tf40) ?_
  refine l_val (v := .agg #[Ix (gX), Ix (gY)]) rfl rfl rfl (e_load tf5 (cs := [Ix (gX), Ix (gY)]) rfl (k_pt 0 (cs := #[.slice p1 (bs.length) (c2), .slice q3 (R.length) (d4), Ix (gX), Ix (gY)]) (vs := [Ix (gX), Ix (gY)]) rfl rfl) rfl) ?_
  refine l_val (v := .agg #[.slice none 0 0, .slice none 0 0, Ix (gX), Ix (gY)]) rfl rfl rfl (e_build tf67 tf69 (vs := [(2, .agg #[Ix (gX), Ix (gY)])]) (cells := #[.slice none 0 0, .slice none 0 0, Ix (gX), Ix (gY)]) rfl rfl) ?_
  refine l_mv rfl rfl rfl (m_alloc tf67) ?_
  rintro _ _ ⟨b6, rfl, rfl⟩
  refine l_mu rfl rfl (m_store 0 tf31 (b := b6) (o := 0) (T := 32) (cs := #[.slice none 0 0, .slice none 0 0, .int .i64 (0), .int .i64 (0)]) (cs' := #[.slice none 0 0, .slice none 0 0, Ix (gX), Ix (gY)]) (v := .agg #[.slice none 0 0, .slice none 0 0, Ix (gX), Ix (gY)]) rfl rfl rfl rfl rfl rfl rfl) ?_
  refine l_nil ?_
  refine f_then ?_
  refine c_seq ?_
  refine c_region ?_
  refine l_val (v := .func (.func 22) #[] #[.pointer (some ⟨b5, 0, none⟩)]) rfl rfl rfl (e_func (u := []) (v := [.pointer (some ⟨b5, 0, none⟩)]) rfl rfl) ?_
  refine l_val (v := .func (.func 22) #[] #[.pointer (some ⟨b5, 0, none⟩)]) rfl rfl rfl (e_assign) ?_
  refine l_nil ?_
  refine f_then ?_
  refine c_seq ?_
  refine c_seq ?_
  refine c_emp (r := rowF BodyF 39 none 0 []) (row_nil _ _ _) ?_
  refine c_region ?_
  refine l_val (v := .pointer (some ⟨b5, 0, none⟩)) rfl rfl rfl (e_fieldPt (b := b5) (o := 0) rfl tf33) ?_
  refine l_val (v := .slice p1 (bs.length) (c2)) rfl rfl rfl (e_load1 tf26 (v := .slice p1 (bs.length) (c2)) rfl (k_pt 2 (cs := #[.slice p1 (bs.length) (c2), .slice q3 (R.length) (d4), Ix (gX), Ix (gY)]) (vs := [.slice p1 (bs.length) (c2)]) rfl rfl)) ?_
  refine l_val (v := Nx (bs.length)) rfl rfl rfl (e_len (a := p1) (n := bs.length) (c := c2) rfl tf15) ?_
  refine l_val (v := .int .i64 (0)) rfl rfl rfl (e_move) ?_
  refine l_nil ?_
  refine f_then ?_
  refine c_block ?_
  refine c_loop (fun (x_ : Nat × Option Addr × Nat) (f : Fm) (L : List Res) => match x_ with | (k, t0, c0) => (f 9 = .pointer (some ⟨b5, 0, none⟩) ∧ f 10 = .pointer (some ⟨b6, 0, none⟩) ∧ f 11 = .func (.func 22) #[] #[.pointer (some ⟨b5, 0, none⟩)] ∧ f 32 = .slice p1 (bs.length) (c2) ∧ f 33 = Nx (bs.length) ∧ f 34 = Nx (k)) ∧ L = [rowF BodyF 39 t0 c0 (freeB (bs.take k)), pt b6 (.cells #[.slice t0 ((freeB (bs.take k)).length) c0, .slice none 0 0, Ix (gX), Ix (gY)] 32), pt b5 (.cells #[.slice p1 (bs.length) (c2), .slice q3 (R.length) (d4), Ix (gX), Ix (gY)] 32)] ∧ (k ≤ bs.length)) (fun (x_ : Nat × Option Addr × Nat) => match x_ with | (k, t0, c0) => bs.length - k) (0, none, 0) ?_ ?_
  · exact ⟨⟨rfl, rfl, rfl, rfl, rfl, rfl⟩, rfl, by omega⟩
  rintro ⟨k, t0, c0⟩ f0 L0 ⟨⟨hs9, hs10, hs11, hs32, hs33, hs34⟩, hL, hk⟩
  subst L0
  refine rebase (d := 9) hs9 ?_
  refine rebase (d := 10) hs10 ?_
  refine rebase (d := 11) hs11 ?_
  refine rebase (d := 32) hs32 ?_
  refine rebase (d := 33) hs33 ?_
  refine rebase (d := 34) hs34 ?_
  clear hs9 hs10 hs11 hs32 hs33 hs34
  have hpl : (freeB (bs.take k)).length ≤ 64 := by have h1 := freeB_len (bs.take k); rw [List.length_take] at h1; omega
  refine c_seq ?_
  refine c_region ?_
  refine l_val (v := .bool (decide (((k : Nat) : Int) < ((bs.length : Nat) : Int)))) rfl rfl rfl (e_lss (a := ((k : Nat) : Int)) (b := ((bs.length : Nat) : Int)) rfl rfl) ?_
  refine l_nil ?_
  refine f_then ?_
  refine c_seq ?_
  refine c_if (((k : Nat) : Int) < ((bs.length : Nat) : Int)) rfl (fun hc7 => ?_) (fun hc7 => ?_)
  ·
    refine c_skip ?_
    refine f_then ?_
    refine c_seq ?_
    refine c_block ?_
    refine c_seq ?_
    refine c_region ?_
    obtain ⟨x8, hx9⟩ : ∃ x_, (bs)[k]? = some x_ := ⟨_, List.getElem?_eq_getElem (by omega)⟩
    obtain ⟨ha10, cs11, hc12, rfl⟩ := heB _ _ hx9
    refine l_val (v := .pointer (some ((ba p1).add (k * 9)))) rfl rfl rfl (e_indexAddr (k := k) (len := bs.length) (cap := c2) (a := p1) rfl rfl tf16 (by omega) ha10) ?_
    refine l_val (v := .agg (bC x8)) rfl rfl rfl (e_load tf1 (cs := (bodyE x8)) rfl (Knows.of_base (Cs.mono _ _) hc12) rfl) ?_
    refine l_mv rfl rfl rfl (m_alloc tf17) ?_
    rintro _ _ ⟨b14, rfl, rfl⟩
    refine l_mu rfl rfl (m_store 0 tf1 (b := b14) (o := 0) (T := 39) (cs := #[.int .i64 (0), .int .i64 (0), .int .i64 (0), .int .i64 (0), .int .i64 (0), .int .i64 (0), .int .i64 (0), .bool false, .bool false]) (cs' := (bC x8)) (v := .agg (bC x8)) rfl rfl rfl rfl rfl rfl rfl) ?_
    refine l_nil ?_
    refine f_then ?_
    refine c_seq ?_
    refine c_region ?_
    refine l_val (v := .pointer (some ⟨b14, 8, none⟩)) rfl rfl rfl (e_fieldPt (b := b14) (o := 0) rfl tf18) ?_
    refine l_val (v := .bool (x8.fixed)) rfl rfl rfl (e_load1 tf19 (v := .bool (x8.fixed)) rfl (k_pt 0 (cs := (bC x8)) (vs := [.bool (x8.fixed)]) rfl rfl)) ?_
    refine l_val (v := .bool (!x8.fixed)) rfl rfl rfl (e_not rfl) ?_
    refine l_nil ?_
    refine f_then ?_
    refine c_ifb (!x8.fixed) rfl (fun hc15 => ?_) (fun hc15 => ?_)
    ·
      refine c_region ?_
      refine l_val (v := .pointer (some ⟨b6, 0, none⟩)) rfl rfl rfl (e_fieldPt (b := b6) (o := 0) rfl tf33) ?_
      refine l_val (v := .slice t0 ((freeB (bs.take k)).length) c0) rfl rfl rfl (e_load1 tf26 (v := .slice t0 ((freeB (bs.take k)).length) c0) rfl (k_pt 2 (cs := #[.slice t0 ((freeB (bs.take k)).length) c0, .slice none 0 0, Ix (gX), Ix (gY)]) (vs := [.slice t0 ((freeB (bs.take k)).length) c0]) rfl rfl)) ?_
      refine l_val (v := .agg (bC x8)) rfl rfl rfl (e_load tf1 (cs := (bodyE x8)) rfl (k_pt 0 (cs := (bC x8)) (vs := (bodyE x8)) rfl rfl) rfl) ?_
      refine l_mv rfl rfl rfl (m_slices tf16 tf17 (vs := [(0, .agg (bC x8))]) (cells := (bC x8)) rfl rfl rfl (by kernel_rfl)) ?_
      rintro _ _ ⟨b16, rfl, rfl⟩
      refine l_mv rfl rfl rfl (m_appendFlN (F := BodyF) 2 tf16 tf70 (p := t0) (m := (freeB (bs.take k)).length) (xs := (freeB (bs.take k))) (ys := [x8]) (ao := (some ⟨b16, 0, none⟩)) (k := 1) (c := 1) rfl rfl rfl rfl rfl (k_ptFl (z := x8) 0 rfl rfl) (by first | omega | simp only [List.length_nil, List.length_cons, List.length_append, List.length_set]; omega) (by first | omega | simp only [List.length_nil, List.length_cons, List.length_append, List.length_set]; omega)) ?_
      rintro _ _ ⟨rp17, rc18, rfl, rfl⟩
      refine l_val (v := .pointer (some ⟨b6, 0, none⟩)) rfl rfl rfl (e_fieldPt (b := b6) (o := 0) rfl tf33) ?_
      refine l_mu rfl rfl (m_store 3 tf26 (b := b6) (o := 0) (T := 32) (cs := #[.slice t0 ((freeB (bs.take k)).length) c0, .slice none 0 0, Ix (gX), Ix (gY)]) (cs' := #[.slice rp17 (((freeB (bs.take k)) ++ [x8]).length) rc18, .slice none 0 0, Ix (gX), Ix (gY)]) (v := .slice rp17 (((freeB (bs.take k)) ++ [x8]).length) rc18) rfl rfl rfl rfl rfl rfl rfl) ?_
      refine l_nil ?_
      refine f_block ?_
      refine f_then ?_
      refine c_region ?_
      refine l_val (v := Nx (k + 1)) rfl rfl rfl (e_add (a := ((k : Nat) : Int)) (b := (1 : Int)) rfl rfl (i64n (by omega) (by omega))) ?_
      refine l_val (v := Nx (k + 1)) rfl rfl rfl (e_move) ?_
      refine l_nil ?_
      refine f_mask (L' := [rowF BodyF 39 rp17 rc18 ((freeB (bs.take k)) ++ [x8]), pt b6 (.cells #[.slice rp17 (((freeB (bs.take k)) ++ [x8]).length) rc18, .slice none 0 0, Ix (gX), Ix (gY)] 32), pt b5 (.cells #[.slice p1 (bs.length) (c2), .slice q3 (R.length) (d4), Ix (gX), Ix (gY)] 32)]) [false, false, true, true, true] rfl ?_
      exact f_cut ⟨(k + 1, rp17, rc18), ⟨⟨rfl, rfl, rfl, rfl, rfl, rfl⟩, by rw [freeB_yes hx9 (by simpa using hc15)], by omega⟩, (show bs.length - (k + 1) < bs.length - k from by omega)⟩
    ·
      refine c_skip ?_
      refine f_block ?_
      refine f_then ?_
      refine c_region ?_
      refine l_val (v := Nx (k + 1)) rfl rfl rfl (e_add (a := ((k : Nat) : Int)) (b := (1 : Int)) rfl rfl (i64n (by omega) (by omega))) ?_
      refine l_val (v := Nx (k + 1)) rfl rfl rfl (e_move) ?_
      refine l_nil ?_
      refine f_mask (L' := [rowF BodyF 39 t0 c0 (freeB (bs.take k)), pt b6 (.cells #[.slice t0 ((freeB (bs.take k)).length) c0, .slice none 0 0, Ix (gX), Ix (gY)] 32), pt b5 (.cells #[.slice p1 (bs.length) (c2), .slice q3 (R.length) (d4), Ix (gX), Ix (gY)] 32)]) [false, true, true, true] rfl ?_
      exact f_cut ⟨(k + 1, t0, c0), ⟨⟨rfl, rfl, rfl, rfl, rfl, rfl⟩, by rw [freeB_no hx9 (by simpa using hc15)], by omega⟩, (show bs.length - (k + 1) < bs.length - k from by omega)⟩
  ·
    refine c_exit ?_
    refine f_then_exit ?_
    refine f_then_exit ?_
    refine f_exit ?_
    refine f_then ?_
    refine c_seq ?_
    refine c_seq ?_
    have hbt : bs.take k = bs := List.take_of_length_le (by omega)
    rw [hbt]
    have hpb := freeB_len bs
    refine c_emp (r := rowF RopeF 49 none 0 []) (row_nil _ _ _) ?_
    refine c_region ?_
    refine l_val (v := .pointer (some ⟨b5, 1, none⟩)) rfl rfl rfl (e_fieldPt (b := b5) (o := 0) rfl tf52) ?_
    refine l_val (v := .slice q3 (R.length) (d4)) rfl rfl rfl (e_load1 tf53 (v := .slice q3 (R.length) (d4)) rfl (k_pt 3 (cs := #[.slice p1 (bs.length) (c2), .slice q3 (R.length) (d4), Ix (gX), Ix (gY)]) (vs := [.slice q3 (R.length) (d4)]) rfl rfl)) ?_
    refine l_val (v := Nx (R.length)) rfl rfl rfl (e_len (a := q3) (n := R.length) (c := d4) rfl tf54) ?_
    refine l_val (v := .int .i64 (0)) rfl rfl rfl (e_move) ?_
    refine l_nil ?_
    refine f_then ?_
    refine c_block ?_
    refine c_loop (fun (x_ : Nat × Option Addr × Nat) (f : Fm) (L : List Res) => match x_ with | (k, t1, c1) => (f 9 = .pointer (some ⟨b5, 0, none⟩) ∧ f 10 = .pointer (some ⟨b6, 0, none⟩) ∧ f 11 = .func (.func 22) #[] #[.pointer (some ⟨b5, 0, none⟩)] ∧ f 49 = .slice q3 (R.length) (d4) ∧ f 50 = Nx (R.length) ∧ f 51 = Nx (k)) ∧ L = [rowF RopeF 49 t1 c1 (freeR bs (R.take k)), rowF BodyF 39 t0 c0 (freeB bs), pt b6 (.cells #[.slice t0 ((freeB bs).length) c0, .slice t1 ((freeR bs (R.take k)).length) c1, Ix (gX), Ix (gY)] 32), pt b5 (.cells #[.slice p1 (bs.length) (c2), .slice q3 (R.length) (d4), Ix (gX), Ix (gY)] 32)] ∧ (k ≤ R.length)) (fun (x_ : Nat × Option Addr × Nat) => match x_ with | (k, t1, c1) => R.length - k) (0, none, 0) ?_ ?_
    · exact ⟨⟨rfl, rfl, rfl, rfl, rfl, rfl⟩, rfl, by omega⟩
    rintro ⟨k, t1, c1⟩ f0 L0 ⟨⟨hs9, hs10, hs11, hs49, hs50, hs51⟩, hL, hk⟩
    subst L0
    refine rebase (d := 9) hs9 ?_
    refine rebase (d := 10) hs10 ?_
    refine rebase (d := 11) hs11 ?_
    refine rebase (d := 49) hs49 ?_
    refine rebase (d := 50) hs50 ?_
    refine rebase (d := 51) hs51 ?_
    clear hs9 hs10 hs11 hs49 hs50 hs51
    have hrl2 : (freeR bs (R.take k)).length ≤ 32 := by have h1 := freeR_len bs (R.take k); rw [List.length_take] at h1; omega
    refine c_seq ?_
    refine c_region ?_
    refine l_val (v := .bool (decide (((k : Nat) : Int) < ((R.length : Nat) : Int)))) rfl rfl rfl (e_lss (a := ((k : Nat) : Int)) (b := ((R.length : Nat) : Int)) rfl rfl) ?_
    refine l_nil ?_
    refine f_then ?_
    refine c_seq ?_
    refine c_if (((k : Nat) : Int) < ((R.length : Nat) : Int)) rfl (fun hc19 => ?_) (fun hc19 => ?_)
    ·
      refine c_skip ?_
      refine f_then ?_
      refine c_seq ?_
      refine c_block ?_
      refine c_seq ?_
      refine c_region ?_
      obtain ⟨x20, hx21⟩ : ∃ x_, (R)[k]? = some x_ := ⟨_, List.getElem?_eq_getElem (by omega)⟩
      obtain ⟨ha22, cs23, hc24, rfl⟩ := heR _ _ hx21
      refine l_val (v := .pointer (some ((ba q3).add (k * 3)))) rfl rfl rfl (e_indexAddr (k := k) (len := R.length) (cap := d4) (a := q3) rfl rfl tf55 (by omega) ha22) ?_
      refine l_val (v := .agg #[Ix (x20.a), Ix (x20.b), Ix (x20.len)]) rfl rfl rfl (e_load tf56 (cs := [Ix (x20.a), Ix (x20.b), Ix (x20.len)]) rfl (Knows.of_base (Cs.mono _ _) hc24) rfl) ?_
      refine l_mv rfl rfl rfl (m_alloc tf57) ?_
      rintro _ _ ⟨b26, rfl, rfl⟩
      refine l_mu rfl rfl (m_store 0 tf56 (b := b26) (o := 0) (T := 49) (cs := #[.int .i64 (0), .int .i64 (0), .int .i64 (0)]) (cs' := #[Ix (x20.a), Ix (x20.b), Ix (x20.len)]) (v := .agg #[Ix (x20.a), Ix (x20.b), Ix (x20.len)]) rfl rfl rfl rfl rfl rfl rfl) ?_
      refine l_nil ?_
      refine f_then ?_
      refine c_seq ?_
      obtain ⟨ia, za, ib, zb, ea, eza, eb, ezb⟩ := rope_ends hmP (List.mem_of_getElem? hx21)
      refine c_region ?_
      refine l_val (v := .func (.func 22) #[] #[.pointer (some ⟨b5, 0, none⟩)]) rfl rfl rfl (e_move) ?_
      refine l_val (v := .pointer (some ⟨b26, 0, none⟩)) rfl rfl rfl (e_fieldPt (b := b26) (o := 0) rfl tf58) ?_
      refine l_val (v := Ix (x20.a)) rfl rfl rfl (e_load1 tf11 (v := Ix (x20.a)) rfl (k_pt 0 (cs := #[Ix (x20.a), Ix (x20.b), Ix (x20.len)]) (vs := [Ix (x20.a)]) rfl rfl)) ?_
      refine l_call rfl rfl rfl (cl_value (fst := []) (cap := [.pointer (some ⟨b5, 0, none⟩)]) (vs := [Ix (x20.a)]) (all := [Ix (x20.a), .pointer (some ⟨b5, 0, none⟩)]) tf83 rfl rfl rfl) ?_
      intro w hw
      obtain ⟨β1, sb, kn, hw1, back⟩ := St.frame_all hw
      refine (fixd_ok β1 w hw1 b5 _ _ gX gY bs (Sl.mono _ _ _ _ _ sb hslB) (kn _ (k_pt 4 (o := 0) (cs := #[.slice p1 (bs.length) (c2), .slice q3 (R.length) (d4), Ix (gX), Ix (gY)]) (vs := [.slice p1 (bs.length) (c2), .slice q3 (R.length) (d4), Ix (gX), Ix (gY)]) rfl rfl)) (by omega) ia za eza x20.a ea).mono ?_
      rintro e w' ⟨rfl, hw'⟩
      refine ⟨_, rfl, _, back _ _ hw', ?_⟩
      clear hw hw1 hw' back kn sb
      refine l_val (v := .bool (!za.fixed)) rfl rfl rfl (e_not rfl) ?_
      refine l_val (v := .bool (!za.fixed)) rfl rfl rfl (e_move) ?_
      refine l_splitb (s := 60) (b := !za.fixed) rfl (fun hg27 => ?_) (fun hg27 => ?_)
      ·
        refine g_val (v := .func (.func 22) #[] #[.pointer (some ⟨b5, 0, none⟩)]) rfl rfl rfl rfl rfl (e_move) ?_
        refine g_val (v := .pointer (some ⟨b26, 1, none⟩)) rfl rfl rfl rfl rfl (e_fieldPt (b := b26) (o := 0) rfl tf60) ?_
        refine g_val (v := Ix (x20.b)) rfl rfl rfl rfl rfl (e_load1 tf11 (v := Ix (x20.b)) rfl (k_pt 0 (cs := #[Ix (x20.a), Ix (x20.b), Ix (x20.len)]) (vs := [Ix (x20.b)]) rfl rfl)) ?_
        refine g_call rfl rfl rfl rfl rfl (cl_value (fst := []) (cap := [.pointer (some ⟨b5, 0, none⟩)]) (vs := [Ix (x20.b)]) (all := [Ix (x20.b), .pointer (some ⟨b5, 0, none⟩)]) tf83 rfl rfl rfl) ?_
        intro w hw
        obtain ⟨β1, sb, kn, hw1, back⟩ := St.frame_all hw
        refine (fixd_ok β1 w hw1 b5 _ _ gX gY bs (Sl.mono _ _ _ _ _ sb hslB) (kn _ (k_pt 4 (o := 0) (cs := #[.slice p1 (bs.length) (c2), .slice q3 (R.length) (d4), Ix (gX), Ix (gY)]) (vs := [.slice p1 (bs.length) (c2), .slice q3 (R.length) (d4), Ix (gX), Ix (gY)]) rfl rfl)) (by omega) ib zb ezb x20.b eb).mono ?_
        rintro e w' ⟨rfl, hw'⟩
        refine ⟨_, rfl, _, back _ _ hw', ?_⟩
        clear hw hw1 hw' back kn sb
        refine g_val (v := .bool (!zb.fixed)) rfl rfl rfl rfl rfl (e_not rfl) ?_
        refine l_val (v := .bool (!zb.fixed)) rfl rfl rfl (e_pick_t rfl) ?_
        refine l_nil ?_
        refine f_then ?_
        refine c_ifb (!zb.fixed) rfl (fun hc28 => ?_) (fun hc28 => ?_)
        ·
          refine c_region ?_
          refine l_val (v := .pointer (some ⟨b6, 1, none⟩)) rfl rfl rfl (e_fieldPt (b := b6) (o := 0) rfl tf52) ?_
          refine l_val (v := .slice t1 ((freeR bs (R.take k)).length) c1) rfl rfl rfl (e_load1 tf53 (v := .slice t1 ((freeR bs (R.take k)).length) c1) rfl (k_pt 3 (cs := #[.slice t0 ((freeB bs).length) c0, .slice t1 ((freeR bs (R.take k)).length) c1, Ix (gX), Ix (gY)]) (vs := [.slice t1 ((freeR bs (R.take k)).length) c1]) rfl rfl)) ?_
          refine l_val (v := .agg #[Ix (x20.a), Ix (x20.b), Ix (x20.len)]) rfl rfl rfl (e_load tf56 (cs := [Ix (x20.a), Ix (x20.b), Ix (x20.len)]) rfl (k_pt 0 (cs := #[Ix (x20.a), Ix (x20.b), Ix (x20.len)]) (vs := [Ix (x20.a), Ix (x20.b), Ix (x20.len)]) rfl rfl) rfl) ?_
          refine l_mv rfl rfl rfl (m_slices tf55 tf57 (vs := [(0, .agg #[Ix (x20.a), Ix (x20.b), Ix (x20.len)])]) (cells := #[Ix (x20.a), Ix (x20.b), Ix (x20.len)]) rfl rfl rfl rfl) ?_
          rintro _ _ ⟨b29, rfl, rfl⟩
          refine l_mv rfl rfl rfl (m_appendFlN (F := RopeF) 2 tf55 tf72 (p := t1) (m := (freeR bs (R.take k)).length) (xs := (freeR bs (R.take k))) (ys := [x20]) (ao := (some ⟨b29, 0, none⟩)) (k := 1) (c := 1) rfl rfl rfl rfl rfl (k_ptFl (z := x20) 0 rfl rfl) (by first | omega | simp only [List.length_nil, List.length_cons, List.length_append, List.length_set]; omega) (by first | omega | simp only [List.length_nil, List.length_cons, List.length_append, List.length_set]; omega)) ?_
          rintro _ _ ⟨rp30, rc31, rfl, rfl⟩
          refine l_val (v := .pointer (some ⟨b6, 1, none⟩)) rfl rfl rfl (e_fieldPt (b := b6) (o := 0) rfl tf52) ?_
          refine l_mu rfl rfl (m_store 4 tf53 (b := b6) (o := 1) (T := 32) (cs := #[.slice t0 ((freeB bs).length) c0, .slice t1 ((freeR bs (R.take k)).length) c1, Ix (gX), Ix (gY)]) (cs' := #[.slice t0 ((freeB bs).length) c0, .slice rp30 (((freeR bs (R.take k)) ++ [x20]).length) rc31, Ix (gX), Ix (gY)]) (v := .slice rp30 (((freeR bs (R.take k)) ++ [x20]).length) rc31) rfl rfl rfl rfl rfl rfl rfl) ?_
          refine l_nil ?_
          refine f_block ?_
          refine f_then ?_
          refine c_region ?_
          refine l_val (v := Nx (k + 1)) rfl rfl rfl (e_add (a := ((k : Nat) : Int)) (b := (1 : Int)) rfl rfl (i64n (by omega) (by omega))) ?_
          refine l_val (v := Nx (k + 1)) rfl rfl rfl (e_move) ?_
          refine l_nil ?_
          refine f_mask (L' := [rowF RopeF 49 rp30 rc31 ((freeR bs (R.take k)) ++ [x20]), rowF BodyF 39 t0 c0 (freeB bs), pt b6 (.cells #[.slice t0 ((freeB bs).length) c0, .slice rp30 (((freeR bs (R.take k)) ++ [x20]).length) rc31, Ix (gX), Ix (gY)] 32), pt b5 (.cells #[.slice p1 (bs.length) (c2), .slice q3 (R.length) (d4), Ix (gX), Ix (gY)] 32)]) [false, false, true, true, true, true] rfl ?_
          exact f_cut ⟨(k + 1, rp30, rc31), ⟨⟨rfl, rfl, rfl, rfl, rfl, rfl⟩, by rw [freeR_yes hx21 ((fixAt_eq ea eza).trans (by simpa using hg27)) ((fixAt_eq eb ezb).trans (by simpa using hc28))], by omega⟩, (show R.length - (k + 1) < R.length - k from by omega)⟩
        ·
          refine c_skip ?_
          refine f_block ?_
          refine f_then ?_
          refine c_region ?_
          refine l_val (v := Nx (k + 1)) rfl rfl rfl (e_add (a := ((k : Nat) : Int)) (b := (1 : Int)) rfl rfl (i64n (by omega) (by omega))) ?_
          refine l_val (v := Nx (k + 1)) rfl rfl rfl (e_move) ?_
          refine l_nil ?_
          refine f_mask (L' := [rowF RopeF 49 t1 c1 (freeR bs (R.take k)), rowF BodyF 39 t0 c0 (freeB bs), pt b6 (.cells #[.slice t0 ((freeB bs).length) c0, .slice t1 ((freeR bs (R.take k)).length) c1, Ix (gX), Ix (gY)] 32), pt b5 (.cells #[.slice p1 (bs.length) (c2), .slice q3 (R.length) (d4), Ix (gX), Ix (gY)] 32)]) [false, true, true, true, true] rfl ?_
          exact f_cut ⟨(k + 1, t1, c1), ⟨⟨rfl, rfl, rfl, rfl, rfl, rfl⟩, by rw [freeR_no hx21 (.inr ((fixAt_eq eb ezb).trans (by simpa using hc28)))], by omega⟩, (show R.length - (k + 1) < R.length - k from by omega)⟩
      ·
        refine l_skip rfl rfl rfl rfl rfl rfl ?_
        refine l_skip rfl rfl rfl rfl rfl rfl ?_
        refine l_skip rfl rfl rfl rfl rfl rfl ?_
        refine l_skip rfl rfl rfl rfl rfl rfl ?_
        refine l_skip rfl rfl rfl rfl rfl rfl ?_
        refine l_val (v := .bool false) rfl rfl rfl (e_pick_f rfl) ?_
        refine l_nil ?_
        refine f_then ?_
        refine c_no rfl ?_
        refine c_skip ?_
        refine f_block ?_
        refine f_then ?_
        refine c_region ?_
        refine l_val (v := Nx (k + 1)) rfl rfl rfl (e_add (a := ((k : Nat) : Int)) (b := (1 : Int)) rfl rfl (i64n (by omega) (by omega))) ?_
        refine l_val (v := Nx (k + 1)) rfl rfl rfl (e_move) ?_
        refine l_nil ?_
        refine f_mask (L' := [rowF RopeF 49 t1 c1 (freeR bs (R.take k)), rowF BodyF 39 t0 c0 (freeB bs), pt b6 (.cells #[.slice t0 ((freeB bs).length) c0, .slice t1 ((freeR bs (R.take k)).length) c1, Ix (gX), Ix (gY)] 32), pt b5 (.cells #[.slice p1 (bs.length) (c2), .slice q3 (R.length) (d4), Ix (gX), Ix (gY)] 32)]) [false, true, true, true, true] rfl ?_
        exact f_cut ⟨(k + 1, t1, c1), ⟨⟨rfl, rfl, rfl, rfl, rfl, rfl⟩, by rw [freeR_no hx21 (.inl ((fixAt_eq ea eza).trans (by simpa using hg27)))], by omega⟩, (show R.length - (k + 1) < R.length - k from by omega)⟩
    ·
      refine c_exit ?_
      refine f_then_exit ?_
      refine f_then_exit ?_
      refine f_exit ?_
      refine f_then ?_
      refine c_seq ?_
      have hrt : R.take k = R := List.take_of_length_le (by omega)
      rw [hrt]
      have hpr := freeR_len bs R
      have he1 : errI bs R gX gY = 0 := if_pos hok
      have he2 : errI (freeB bs) (freeR bs R) gX gY = 0 := if_pos (okS_free hmP)
      refine c_region ?_
      refine l_val (v := .agg #[.slice p1 (bs.length) (c2), .slice q3 (R.length) (d4), Ix (gX), Ix (gY)]) rfl rfl rfl (e_load tf31 (cs := [.slice p1 (bs.length) (c2), .slice q3 (R.length) (d4), Ix (gX), Ix (gY)]) rfl (k_pt 3 (cs := #[.slice p1 (bs.length) (c2), .slice q3 (R.length) (d4), Ix (gX), Ix (gY)]) (vs := [.slice p1 (bs.length) (c2), .slice q3 (R.length) (d4), Ix (gX), Ix (gY)]) rfl rfl) rfl) ?_
      refine l_call rfl rfl rfl (cl_value (fst := []) (cap := []) (vs := [.agg #[.slice p1 (bs.length) (c2), .slice q3 (R.length) (d4), Ix (gX), Ix (gY)]]) (all := [.agg #[.slice p1 (bs.length) (c2), .slice q3 (R.length) (d4), Ix (gX), Ix (gY)]]) tf75 rfl rfl rfl) ?_
      intro w hw
      obtain ⟨β1, sb, kn, hw1, back⟩ := St.frame_all hw
      refine (islandsM_ok β1 w hw1 _ _ gX gY bs R (Sl.mono _ _ _ _ _ sb hslB) (Sl.mono _ _ _ _ _ sb hslR) (by omega) (by omega)).mono ?_
      rintro e w' ⟨p32, c33, hs34, hx35, rfl, hw'⟩
      refine ⟨_, rfl, _, back _ _ hw', ?_⟩
      clear hw hw1 hw' back kn sb
      refine l_val (v := .tuple #[.slice p32 (hs34.length) c33, Ix ((errI bs R gX gY))]) rfl rfl rfl (e_move) ?_
      refine l_val (v := .slice p32 (hs34.length) c33) rfl rfl rfl (e_extract (vs := #[.slice p32 (hs34.length) c33, Ix ((errI bs R gX gY))]) rfl rfl) ?_
      refine l_val (v := Ix ((errI bs R gX gY))) rfl rfl rfl (e_extract (vs := #[.slice p32 (hs34.length) c33, Ix ((errI bs R gX gY))]) rfl rfl) ?_
      refine l_val (v := .slice p32 (hs34.length) c33) rfl rfl rfl (e_assign) ?_
      refine l_val (v := Ix ((errI bs R gX gY))) rfl rfl rfl (e_assign) ?_
      refine l_nil ?_
      refine f_then ?_
      refine c_seq ?_
      refine c_region ?_
      refine l_val (v := .agg #[.slice t0 ((freeB bs).length) c0, .slice t1 ((freeR bs R).length) c1, Ix (gX), Ix (gY)]) rfl rfl rfl (e_load tf31 (cs := [.slice t0 ((freeB bs).length) c0, .slice t1 ((freeR bs R).length) c1, Ix (gX), Ix (gY)]) rfl (k_pt 3 (cs := #[.slice t0 ((freeB bs).length) c0, .slice t1 ((freeR bs R).length) c1, Ix (gX), Ix (gY)]) (vs := [.slice t0 ((freeB bs).length) c0, .slice t1 ((freeR bs R).length) c1, Ix (gX), Ix (gY)]) rfl rfl) rfl) ?_
      refine l_call rfl rfl rfl (cl_value (fst := []) (cap := []) (vs := [.agg #[.slice t0 ((freeB bs).length) c0, .slice t1 ((freeR bs R).length) c1, Ix (gX), Ix (gY)]]) (all := [.agg #[.slice t0 ((freeB bs).length) c0, .slice t1 ((freeR bs R).length) c1, Ix (gX), Ix (gY)]]) tf75 rfl rfl rfl) ?_
      intro w hw
      obtain ⟨β1, sb, kn, hw1, back⟩ := St.frame_all hw
      refine (islandsM_ok β1 w hw1 _ _ gX gY (freeB bs) (freeR bs R) (kn _ (k_flN 2 (F := BodyF) (m := (freeB bs).length) rfl rfl)) (kn _ (k_flN 1 (F := RopeF) (m := (freeR bs R).length) rfl rfl)) (by omega) (by omega)).mono ?_
      rintro e w' ⟨p36, c37, hs38, hx39, rfl, hw'⟩
      refine ⟨_, rfl, _, back _ _ hw', ?_⟩
      clear hw hw1 hw' back kn sb
      refine l_val (v := .tuple #[.slice p36 (hs38.length) c37, Ix ((errI (freeB bs) (freeR bs R) gX gY))]) rfl rfl rfl (e_move) ?_
      refine l_val (v := .slice p36 (hs38.length) c37) rfl rfl rfl (e_extract (vs := #[.slice p36 (hs38.length) c37, Ix ((errI (freeB bs) (freeR bs R) gX gY))]) rfl rfl) ?_
      refine l_val (v := Ix ((errI (freeB bs) (freeR bs R) gX gY))) rfl rfl rfl (e_extract (vs := #[.slice p36 (hs38.length) c37, Ix ((errI (freeB bs) (freeR bs R) gX gY))]) rfl rfl) ?_
      refine l_val (v := .slice p36 (hs38.length) c37) rfl rfl rfl (e_assign) ?_
      refine l_val (v := Ix ((errI (freeB bs) (freeR bs R) gX gY))) rfl rfl rfl (e_assign) ?_
      refine l_nil ?_
      refine f_then ?_
      refine c_seq ?_
      refine c_region ?_
      refine l_val (v := Ix ((errI bs R gX gY))) rfl rfl rfl (e_move) ?_
      refine l_val (v := Ix ((errI (freeB bs) (freeR bs R) gX gY))) rfl rfl rfl (e_move) ?_
      refine l_val (v := Ix (((errI bs R gX gY)) + ((errI (freeB bs) (freeR bs R) gX gY)))) rfl rfl rfl (e_add (a := ((errI bs R gX gY))) (b := ((errI (freeB bs) (freeR bs R) gX gY))) rfl rfl (i64w (by omega))) ?_
      refine l_val (v := .bool (decide ((((errI bs R gX gY)) + ((errI (freeB bs) (freeR bs R) gX gY))) = (0 : Int)))) rfl rfl rfl (e_eql (a := (((errI bs R gX gY)) + ((errI (freeB bs) (freeR bs R) gX gY)))) (b := (0 : Int)) rfl rfl) ?_
      refine l_val (v := .bool (decide ((((errI bs R gX gY)) + ((errI (freeB bs) (freeR bs R) gX gY))) = (0 : Int)))) rfl rfl rfl (e_move) ?_
      refine l_split (s := 88) (p := (((errI bs R gX gY)) + ((errI (freeB bs) (freeR bs R) gX gY))) = (0 : Int)) rfl (fun h => ?_) (fun h => ?_)
      rotate_left; exact absurd (by omega) h
      refine g_val (v := .slice p32 (hs34.length) c33) rfl rfl rfl rfl rfl (e_move) ?_
      refine g_val (v := .slice p36 (hs38.length) c37) rfl rfl rfl rfl rfl (e_move) ?_
      refine g_call rfl rfl rfl rfl rfl (cl_value (fst := []) (cap := []) (vs := [.slice p32 (hs34.length) c33, .slice p36 (hs38.length) c37]) (all := [.slice p32 (hs34.length) c33, .slice p36 (hs38.length) c37]) tf77 rfl rfl rfl) ?_
      intro w hw
      obtain ⟨β1, sb, kn, hw1, back⟩ := St.frame_all hw
      refine (sameL_ok β1 w hw1 _ _ (hs34.map (·.xs)) (hs38.map (·.xs)) (kn _ (k_ll 1 rfl)) (kn _ (k_ll 0 rfl))).mono ?_
      rintro e w' ⟨rfl, hw'⟩
      refine ⟨_, rfl, _, back _ _ hw', ?_⟩
      clear hw hw1 hw' back kn sb
      refine l_val (v := .bool (decide ((hs34.map (·.xs)) = (hs38.map (·.xs))))) rfl rfl rfl (e_pick_t rfl) ?_
      refine l_val (v := .bool (decide ((hs34.map (·.xs)) = (hs38.map (·.xs))))) rfl rfl rfl (e_assign) ?_
      refine l_nil ?_
      refine f_then ?_
      refine c_ret ?_
      refine ret1 Try.results6 (v := .bool (decide ((hs34.map (·.xs)) = (hs38.map (·.xs))))) rfl ?_
      intro w hw
      exact ⟨congrArg (fun b : Bool => Ending.returned (.bool b)) (decide_eq_true (hx35.trans ((isl_free hmP).symm.trans hx39.symm))), st_mask [false, false] rfl (bk1 _ _ (st_mask [false, false, false, false, false, false] rfl hw))⟩
end Go.Proofs
