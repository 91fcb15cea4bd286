/-
  IslandClasses: walked. Printed by a program of my own.
-/
import Derived.Test.YtoijanalppaplaaIs13
import Derived.Test.YtoijanalppaplaaIsLaw5
namespace Go.Isl
open Go.Sl Go.Brd Go.Stp Go.Proofs
abbrev BoolF : Fl Bool := ⟨1, fun z => [.bool z], fun _ => rfl, fun _ => rfl, by decide⟩
theorem u16_shr (a k : Nat) : (a : Int).fdiv (2 ^ (min ((k : Nat) : Int).toNat IntKind.u16.bits)) = ((a / 2 ^ min k 16 : Nat) : Int) := by
  show (a : Int).fdiv (2 ^ (min k 16)) = _
  rw [Int.fdiv_eq_ediv_of_nonneg _ (by exact_mod_cast Nat.zero_le _)]
  simp
theorem u16_le {bits : Nat} (h : bits < 65536) (n : Nat) : bits / n < 65536 := Nat.lt_of_le_of_lt (Nat.div_le_self _ _) h
theorem u16_one {a : Nat} (h : a < 65536) : IntKind.u16.wrap ((BitVec.ofInt IntKind.u16.bits (a : Int) &&& BitVec.ofInt IntKind.u16.bits 1).toNat : Int) = ((a % 2 : Nat) : Int) := by
  have e : (BitVec.ofInt IntKind.u16.bits (a : Int) &&& BitVec.ofInt IntKind.u16.bits 1).toNat = a % 2 := by
    show (BitVec.ofInt 16 (a : Int) &&& BitVec.ofInt 16 1).toNat = a % 2
    rw [BitVec.toNat_and, BitVec.ofInt_natCast, BitVec.toNat_ofNat, show (BitVec.ofInt 16 1).toNat = 1 from rfl, Nat.and_one_is_mod, Nat.mod_eq_of_lt (a := a) h]
  rw [e]
  have := Nat.mod_lt a (show 0 < 2 by decide)
  rcases (show a % 2 = 0 ∨ a % 2 = 1 by omega) with q | q <;> rw [q] <;> rfl
theorem drop_at {bs zs : List KB} {k j : Nat} {y : KB} (h : zs = bs.drop (k + 1)) (hy : zs[j]? = some y) : bs[k + 1 + j]? = some y := by rw [h, List.getElem?_drop] at hy; exact hy
theorem xl_few {bs : List KB} {R : List KR} {gx gy : Int} {xl : List (List Int)} (hP : MadeP bs R gx gy) (hX : xl = XL bs R gx gy) : xl.length ≤ 16 := by
  rw [XL_len hX]
  have h1 : (CL bs R gx gy).length ≤ (freeB bs).length := by
    unfold CL classes firsts
    rw [List.length_map]
    exact Nat.le_trans (List.length_filter_le _ _) (by rw [List.length_range]; exact Nat.le_refl _)
  have h2 := freeB_len bs
  have h3 := hP.few
  omega
end Go.Isl
namespace Go.Proofs
open Go Go.Sl Go.Brd Go.Stp Go.Isl
theorem tf86 : tyB Try.prog 25 false 1 = true := by kernel_rfl
theorem tf87 : cfB Try.prog 12 = true := by kernel_rfl
theorem tf88 : Try.prog.underlying 4 = some .bool := by kernel_rfl
theorem tf89 : slB Try.prog 42 4 1 = true := by kernel_rfl
theorem tf90 : elB Try.prog 4 1 1 = true := by kernel_rfl
theorem tf91 : (Try.prog.info? 4).bind (·.zero) = some (.bool false) := by kernel_rfl
theorem tf92 : cfB Try.prog 13 = true := by kernel_rfl
theorem tf93 : cfB Try.prog 14 = true := by kernel_rfl
theorem side_ok (β : Base) (w : World) (hw : St β [] w) (b bits : Nat) (hbits : bits < 65536) (hc : Cs β.heap ⟨b, 0, none⟩ [.int .u16 ((bits : Nat) : Int)]) (a : Nat) (ha : a ≤ 1000) : Calls Try.prog 13 #[Nx (1 + 2 * a), .pointer (some ⟨b, 0, none⟩)] w fun r w' => r = .returned (.bool (sideX bits ((1 + 2 * a : Nat) : Int))) ∧ St β [] w' := by
  refine enter (n := 10) Try.func13 rfl Try.ntmps13 rfl ?_ hw
  refine c_seq ?_
  refine c_region ?_
  refine l_val (v := .bool false) rfl rfl rfl (e_assign) ?_
  refine l_nil ?_
  refine f_then ?_
  refine c_seq ?_
  refine c_region ?_
  refine l_val (v := .int .u16 (((bits : Nat)) : Int)) rfl rfl rfl (e_load1 tf86 (v := .int .u16 (((bits : Nat)) : Int)) rfl (Knows.of_base (Cs.mono _ _) hc)) ?_
  refine l_val (v := Nx (1 + 2 * a)) rfl rfl rfl (e_move) ?_
  refine l_val (v := Nx ((1 + 2 * a) / 2)) rfl rfl rfl (e_quo (a := ((1 + 2 * a : Nat) : Int)) (b := (2 : Int)) rfl rfl (by decide) (i64n (nat_tdiv _ 2) (by omega))) ?_
  refine l_val (v := .int .u16 (((bits / 2 ^ min ((1 + 2 * a) / 2) 16 : Nat)) : Int)) rfl rfl rfl (e_shr (a := ((bits : Nat) : Int)) (b := (((1 + 2 * a) / 2 : Nat) : Int)) rfl rfl (by omega) (u16_shr _ _)) ?_
  refine l_val (v := .int .u16 ((((bits / 2 ^ min ((1 + 2 * a) / 2) 16) % 2 : Nat)) : Int)) rfl rfl rfl (e_and (a := ((bits / 2 ^ min ((1 + 2 * a) / 2) 16 : Nat) : Int)) (b := (1 : Int)) rfl rfl (u16_one (by exact u16_le hbits _))) ?_
  refine l_val (v := .bool (decide ((((bits / 2 ^ min ((1 + 2 * a) / 2) 16) % 2 : Nat) : Int) = (1 : Int)))) rfl rfl rfl (e_eql (a := (((bits / 2 ^ min ((1 + 2 * a) / 2) 16) % 2 : Nat) : Int)) (b := (1 : Int)) rfl rfl) ?_
  refine l_val (v := .bool (decide ((((bits / 2 ^ min ((1 + 2 * a) / 2) 16) % 2 : Nat) : Int) = (1 : Int)))) rfl rfl rfl (e_assign) ?_
  refine l_nil ?_
  refine f_then ?_
  refine c_ret ?_
  refine ret1 Try.results13 (v := .bool (decide ((((bits / 2 ^ min ((1 + 2 * a) / 2) 16) % 2 : Nat) : Int) = (1 : Int)))) rfl ?_
  intro w hw
  exact ⟨congrArg (fun b : Bool => Ending.returned (.bool b)) (decide_eq_decide.2 ⟨fun q => Int.ofNat.inj q, fun q => congrArg Int.ofNat q⟩), st_mask [] rfl hw⟩
theorem sideB_ok (β : Base) (w : World) (hw : St β [] w) (b bits : Nat) (hbits : bits < 65536) (hc : Cs β.heap ⟨b, 0, none⟩ [.int .u16 ((bits : Nat) : Int)]) (a : Nat) (ha : a ≤ 1000) (x : Int) (hx : x = ((1 + 2 * a : Nat) : Int)) : Calls Try.prog 13 #[Ix x, .pointer (some ⟨b, 0, none⟩)] w fun r w' => r = .returned (.bool (sideX bits x)) ∧ St β [] w' := by
  subst hx; exact side_ok β w hw b bits hbits hc a ha
theorem placeN_ok (β : Base) (w : World) (hw : St β [] w) (v : Value) (xss : List (List Int)) (hs : Sl IntF.R.slice β.heap v xss) (x : Int) (i : Nat) (hi : placeI xss x = ((i : Nat) : Int)) : Calls Try.prog 12 #[v, Ix x] w fun r w' => r = .returned (Nx i) ∧ St β [] w' := by
  have h := place_ok β w hw v xss hs x; rw [hi] at h; exact h
set_option maxHeartbeats 4000000 in
theorem classes_ok (β : Base) (w : World) (hw : St β [] w) (v u : Value) (fs : List KF) (us : List UInt8) (hs : Sl FormR β.heap v fs) (hu : Sl U8R β.heap u us) (gx gy : Int) (hgx8 : -128 ≤ gx ∧ gx ≤ 127) (hgy8 : -128 ≤ gy ∧ gy ≤ 127) (bits : Nat) (hbits : bits < 65536) : Calls Try.prog 3 #[v, u, .int .i8 gx, .int .i8 gy, .int .u16 ((bits : Nat) : Int)] w fun r w' => r = .returned (.bool true) ∧ St β [] w' := by
  refine enter (n := 269) Try.func3 rfl Try.ntmps3 rfl ?_ hw
  refine c_seq ?_
  refine c_region ?_
  refine l_mv rfl rfl rfl (m_box (v := .int .u16 (((bits : Nat)) : Int)) rfl) ?_
  rintro _ _ ⟨b1, rfl, rfl⟩
  refine l_val (v := .bool false) rfl rfl rfl (e_assign) ?_
  refine l_nil ?_
  refine f_then ?_
  refine c_seq ?_
  refine c_seq ?_
  refine c_region ?_
  refine l_call rfl rfl rfl (cl_value (fst := []) (cap := []) (vs := []) (all := []) tf81 rfl rfl rfl) ?_
  intro w hw
  obtain ⟨β1, sb, kn, hw1, back⟩ := St.frame_all hw
  refine (awake_ok β1 w hw1).mono ?_
  rintro e w' ⟨rfl, hw'⟩
  refine ⟨_, rfl, _, back _ _ hw', ?_⟩
  clear hw hw1 hw' back kn sb
  refine l_val (v := .bool false) rfl rfl rfl (e_not (a := true) rfl) ?_
  refine l_nil ?_
  refine f_then ?_
  refine c_no rfl ?_
  refine c_skip ?_
  refine f_then ?_
  refine c_seq ?_
  refine c_region ?_
  refine l_val (v := v) rfl rfl rfl (e_move) ?_
  refine l_val (v := u) rfl rfl rfl (e_move) ?_
  refine l_val (v := .int .i8 (gx)) rfl rfl rfl (e_move) ?_
  refine l_val (v := .int .i8 (gy)) rfl rfl rfl (e_move) ?_
  refine l_call rfl rfl rfl (cl_value (fst := []) (cap := []) (vs := [v, u, .int .i8 (gx), .int .i8 (gy)]) (all := [v, u, .int .i8 (gx), .int .i8 (gy)]) tf82 rfl rfl rfl) ?_
  intro w hw
  obtain ⟨β1, sb, kn, hw1, back⟩ := St.frame_all hw
  refine (made7_ok β1 w hw1 _ _ fs us (Sl.mono _ _ _ _ _ sb hs) (Sl.mono _ _ _ _ _ sb hu) gx gy hgx8 hgy8).mono ?_
  rintro e w' ⟨bs, R, p2, c3, q4, d5, rfl, hmP, hbl, hrl, hw'⟩
  refine ⟨_, rfl, _, back _ _ hw', ?_⟩
  clear hw hw1 hw' back kn sb
  refine l_mv rfl rfl rfl (m_alloc tf67) ?_
  rintro _ _ ⟨b6, rfl, rfl⟩
  refine l_mu rfl rfl (m_store 0 tf31 (b := b6) (o := 0) (T := 32) (cs := #[.slice none 0 0, .slice none 0 0, .int .i64 (0), .int .i64 (0)]) (cs' := #[.slice p2 (bs.length) c3, .slice q4 (R.length) d5, Ix ((Int.tmod gx 32)), Ix ((Int.tmod gy 32))]) (v := .agg #[.slice p2 (bs.length) c3, .slice q4 (R.length) d5, Ix ((Int.tmod gx 32)), Ix ((Int.tmod gy 32))]) rfl rfl rfl rfl rfl rfl rfl) ?_
  refine l_nil ?_
  refine f_then ?_
  refine c_seq ?_
  have hgX := tmod_bd gx
  have hgY := tmod_bd gy
  obtain ⟨gX, hgx1⟩ : ∃ z, z = Int.tmod gx 32 := ⟨_, rfl⟩
  obtain ⟨gY, hgy1⟩ : ∃ z, z = Int.tmod gy 32 := ⟨_, rfl⟩
  rw [← hgx1] at hgX hmP
  rw [← hgy1] at hgY hmP
  rw [← hgx1, ← hgy1]
  have hok := hmP.ok
  obtain ⟨hk1, hk2, hk3, hk4, hk5, hk6⟩ := id hok
  have hfew := hmP.few
  refine c_perm (L' := [pt b6 (.cells #[.slice p2 (bs.length) c3, .slice q4 (R.length) d5, Ix (gX), Ix (gY)] 32), pt b1 (.cells #[.int .u16 (((bits : Nat)) : Int)] 25), rowF BodyF 39 p2 c3 bs, rowF RopeF 49 q4 d5 R]) (by exact (perm_ix [0, 3, 1, 2] 4 rfl (by kernel_rfl) (by kernel_rfl))) ?_
  refine c_freeze2 (M := [pt b6 (.cells #[.slice p2 (bs.length) c3, .slice q4 (R.length) d5, Ix (gX), Ix (gY)] 32), pt b1 (.cells #[.int .u16 (((bits : Nat)) : Int)] 25)]) (K := [rowF BodyF 39 p2 c3 bs, rowF RopeF 49 q4 d5 R]) rfl (fun βf ext1 kn1 bk1 => ?_)
  have hslB : Sl KBR βf.heap (.slice p2 bs.length c3) bs := kn1 _ (k_fl 0 (F := BodyF) rfl)
  obtain ⟨-, hcB, hmB, heB⟩ := hslB.parts
  have hslR : Sl KRR βf.heap (.slice q4 R.length d5) R := kn1 _ (k_fl 1 (F := RopeF) rfl)
  obtain ⟨-, hcR, hmR, heR⟩ := hslR.parts
  have hfb := freeB_len bs
  have hb16 := hmP.few
  have hr6 := hmP.ropes
  refine c_region ?_
  refine l_val (v := .agg #[.slice p2 (bs.length) (c3), .slice q4 (R.length) (d5), Ix (gX), Ix (gY)]) rfl rfl rfl (e_load tf31 (cs := [.slice p2 (bs.length) (c3), .slice q4 (R.length) (d5), Ix (gX), Ix (gY)]) rfl (k_pt 0 (cs := #[.slice p2 (bs.length) (c3), .slice q4 (R.length) (d5), Ix (gX), Ix (gY)]) (vs := [.slice p2 (bs.length) (c3), .slice q4 (R.length) (d5), Ix (gX), Ix (gY)]) rfl rfl) rfl) ?_
  refine l_call rfl rfl rfl (cl_value (fst := []) (cap := []) (vs := [.agg #[.slice p2 (bs.length) (c3), .slice q4 (R.length) (d5), Ix (gX), Ix (gY)]]) (all := [.agg #[.slice p2 (bs.length) (c3), .slice q4 (R.length) (d5), Ix (gX), Ix (gY)]]) tf75 rfl rfl rfl) ?_
  intro w hw
  obtain ⟨β1, sb, kn, hw1, back⟩ := St.frame_all hw
  refine (islandsM_ok β1 w hw1 _ _ gX gY bs R (Sl.mono _ _ _ _ _ sb hslB) (Sl.mono _ _ _ _ _ sb hslR) (by omega) (by omega)).mono ?_
  rintro e w' ⟨p7, c8, hs9, hx10, rfl, hw'⟩
  refine ⟨_, rfl, _, back _ _ hw', ?_⟩
  clear hw hw1 hw' back kn sb
  refine l_val (v := .tuple #[.slice p7 (hs9.length) c8, Ix ((errI bs R gX gY))]) rfl rfl rfl (e_move) ?_
  refine l_val (v := .slice p7 (hs9.length) c8) rfl rfl rfl (e_extract (vs := #[.slice p7 (hs9.length) c8, Ix ((errI bs R gX gY))]) rfl rfl) ?_
  refine l_val (v := Ix ((errI bs R gX gY))) rfl rfl rfl (e_extract (vs := #[.slice p7 (hs9.length) c8, Ix ((errI bs R gX gY))]) rfl rfl) ?_
  refine l_val (v := .slice p7 (hs9.length) c8) rfl rfl rfl (e_assign) ?_
  refine l_val (v := Ix ((errI bs R gX gY))) rfl rfl rfl (e_assign) ?_
  refine l_nil ?_
  refine f_then ?_
  refine c_seq ?_
  refine c_seq ?_
  refine c_region ?_
  refine l_val (v := Ix ((errI bs R gX gY))) rfl rfl rfl (e_move) ?_
  refine l_val (v := .bool (decide (((errI bs R gX gY)) ≠ (0 : Int)))) rfl rfl rfl (e_neq (a := ((errI bs R gX gY))) (b := (0 : Int)) rfl rfl) ?_
  refine l_nil ?_
  refine f_then ?_
  refine c_if (((errI bs R gX gY)) ≠ (0 : Int)) rfl (fun hc11 => ?_) (fun hc11 => ?_)
  ·
    exact absurd hc11 (fun q => q (if_pos hok))
  ·
    refine c_skip ?_
    refine f_then ?_
    refine c_seq ?_
    refine c_perm (L' := [pt b6 (.cells #[.slice p2 (bs.length) (c3), .slice q4 (R.length) (d5), Ix (gX), Ix (gY)] 32), pt b1 (.cells #[.int .u16 (((bits : Nat)) : Int)] 25), Sat (llL p7 c8 hs9)]) (perm_ix [1, 2, 0] 3 rfl (by kernel_rfl) (by kernel_rfl)) ?_
    refine c_freeze2 (M := [pt b6 (.cells #[.slice p2 (bs.length) (c3), .slice q4 (R.length) (d5), Ix (gX), Ix (gY)] 32), pt b1 (.cells #[.int .u16 (((bits : Nat)) : Int)] 25)]) (K := [Sat (llL p7 c8 hs9)]) rfl (fun βg ext2 kn2 bk2 => ?_)
    have hslX := kn2 _ (k_ll 0 rfl)
    obtain ⟨xl, hxl⟩ : ∃ z, z = hs9.map (·.xs) := ⟨_, rfl⟩
    have hln : hs9.length = xl.length := by rw [hxl, List.length_map]
    rw [← hxl, hln] at hslX
    rw [hln]
    have hX : xl = XL bs R gX gY := by rw [hxl, hx10, islR, if_pos hok]; exact islX_eq hok
    obtain ⟨-, hcX, hmX, heX⟩ := hslX.parts
    have hslB := Sl.mono _ _ _ _ _ ext2.sub hslB
    have hslR := Sl.mono _ _ _ _ _ ext2.sub hslR
    have heB := Elems.mono _ _ _ _ _ ext2.sub heB
    have heR := Elems.mono _ _ _ _ _ ext2.sub heR
    have hxs := xl_sum hX
    have hle := fun k => lenS_le xl k
    have hXl : xl.length ≤ 16 := xl_few hmP hX
    refine c_region ?_
    refine l_val (v := .int .i64 (0)) rfl rfl rfl (e_assign) ?_
    refine l_val (v := .int .i64 (0)) rfl rfl rfl (e_assign) ?_
    refine l_nil ?_
    refine f_then ?_
    refine c_seq ?_
    refine c_seq ?_
    refine c_region ?_
    refine l_val (v := .pointer (some ⟨b6, 0, none⟩)) rfl rfl rfl (e_fieldPt (b := b6) (o := 0) rfl tf33) ?_
    refine l_val (v := .slice p2 (bs.length) (c3)) rfl rfl rfl (e_load1 tf26 (v := .slice p2 (bs.length) (c3)) rfl (k_pt 0 (cs := #[.slice p2 (bs.length) (c3), .slice q4 (R.length) (d5), Ix (gX), Ix (gY)]) (vs := [.slice p2 (bs.length) (c3)]) rfl rfl)) ?_
    refine l_val (v := Nx (bs.length)) rfl rfl rfl (e_len (a := p2) (n := bs.length) (c := c3) rfl tf15) ?_
    refine l_val (v := .int .i64 (0)) rfl rfl rfl (e_move) ?_
    refine l_nil ?_
    refine f_then ?_
    refine c_block ?_
    refine c_loop (fun (k : Nat) (f : Fm) (L : List Res) => (f 9 = .pointer (some ⟨b1, 0, none⟩) ∧ f 11 = .pointer (some ⟨b6, 0, none⟩) ∧ f 12 = .slice p7 (xl.length) (c8) ∧ f 14 = Nx (fi bs k) ∧ f 15 = .int .i64 (0) ∧ f 46 = .slice p2 (bs.length) (c3) ∧ f 47 = Nx (bs.length) ∧ f 48 = Nx (k)) ∧ L = [pt b6 (.cells #[.slice p2 (bs.length) (c3), .slice q4 (R.length) (d5), Ix (gX), Ix (gY)] 32), pt b1 (.cells #[.int .u16 (((bits : Nat)) : Int)] 25)] ∧ (k ≤ bs.length)) (fun (k : Nat) => bs.length - k) 0 ?_ ?_
    · exact ⟨⟨rfl, rfl, rfl, rfl, rfl, rfl, rfl, rfl⟩, rfl, by omega⟩
    rintro k f0 L0 ⟨⟨hs9, hs11, hs12, hs14, hs15, hs46, hs47, hs48⟩, hL, hk⟩
    subst L0
    refine rebase (d := 9) hs9 ?_
    refine rebase (d := 11) hs11 ?_
    refine rebase (d := 12) hs12 ?_
    refine rebase (d := 14) hs14 ?_
    refine rebase (d := 15) hs15 ?_
    refine rebase (d := 46) hs46 ?_
    refine rebase (d := 47) hs47 ?_
    refine rebase (d := 48) hs48 ?_
    clear hs9 hs11 hs12 hs14 hs15 hs46 hs47 hs48
    have hfk := fi_le bs k
    refine c_seq ?_
    refine c_region ?_
    refine l_val (v := .bool (decide (((k : Nat) : Int) < ((bs.length : Nat) : Int)))) rfl rfl rfl (e_lss (a := ((k : Nat) : Int)) (b := ((bs.length : Nat) : Int)) rfl rfl) ?_
    refine l_nil ?_
    refine f_then ?_
    refine c_seq ?_
    refine c_if (((k : Nat) : Int) < ((bs.length : Nat) : Int)) rfl (fun hc12 => ?_) (fun hc12 => ?_)
    ·
      refine c_skip ?_
      refine f_then ?_
      refine c_seq ?_
      refine c_block ?_
      refine c_seq ?_
      refine c_region ?_
      obtain ⟨x13, hx14⟩ : ∃ x_, (bs)[k]? = some x_ := ⟨_, List.getElem?_eq_getElem (by omega)⟩
      obtain ⟨ha15, cs16, hc17, rfl⟩ := heB _ _ hx14
      refine l_val (v := .pointer (some ((ba p2).add (k * 9)))) rfl rfl rfl (e_indexAddr (k := k) (len := bs.length) (cap := c3) (a := p2) rfl rfl tf16 (by omega) ha15) ?_
      refine l_val (v := .agg (bC x13)) rfl rfl rfl (e_load tf1 (cs := (bodyE x13)) rfl (Knows.of_base (Cs.mono _ _) hc17) rfl) ?_
      refine l_mv rfl rfl rfl (m_alloc tf17) ?_
      rintro _ _ ⟨b19, rfl, rfl⟩
      refine l_mu rfl rfl (m_store 0 tf1 (b := b19) (o := 0) (T := 39) (cs := #[.int .i64 (0), .int .i64 (0), .int .i64 (0), .int .i64 (0), .int .i64 (0), .int .i64 (0), .int .i64 (0), .bool false, .bool false]) (cs' := (bC x13)) (v := .agg (bC x13)) rfl rfl rfl rfl rfl rfl rfl) ?_
      refine l_nil ?_
      refine f_then ?_
      refine c_seq ?_
      refine c_seq ?_
      refine c_quiet (by kernel_rfl) (by kernel_rfl) ?_
      refine q_val (v := .pointer (some ⟨b19, 8, none⟩)) rfl rfl rfl (e_fieldPt (b := b19) (o := 0) rfl tf18) ?_
      refine q_val (v := .bool (x13.fixed)) rfl rfl rfl (e_load1 tf19 (v := .bool (x13.fixed)) rfl (k_pt 0 (cs := (bC x13)) (vs := [.bool (x13.fixed)]) rfl rfl)) ?_
      refine q_val (v := .slice p7 (xl.length) (c8)) rfl rfl rfl (e_move) ?_
      refine q_val (v := .pointer (some ⟨b19, 0, none⟩)) rfl rfl rfl (e_fieldPt (b := b19) (o := 0) rfl tf27) ?_
      refine q_val (v := Ix (x13.id)) rfl rfl rfl (e_load1 tf11 (v := Ix (x13.id)) rfl (k_pt 0 (cs := (bC x13)) (vs := [Ix (x13.id)]) rfl rfl)) ?_
      refine q_call (v := Ix (placeI xl x13.id)) rfl rfl rfl (cl_value (fst := []) (cap := []) (vs := [.slice p7 (xl.length) (c8), Ix (x13.id)]) (all := [.slice p7 (xl.length) (c8), Ix (x13.id)]) tf87 rfl rfl rfl) (fun w hw => ?_) ?_
      · obtain ⟨β1, sb, kn, hw1, back⟩ := St.frame_all hw
        exact (place_ok β1 w hw1 _ xl (Sl.mono _ _ _ _ _ sb hslX) x13.id).mono (fun e w' ⟨he, hw'⟩ => ⟨he, st_mask [true, true, true] rfl (back _ _ hw')⟩)
      refine q_val (v := .bool (decide ((placeI xl x13.id) < (0 : Int)))) rfl rfl rfl (e_lss (a := (placeI xl x13.id)) (b := (0 : Int)) rfl rfl) ?_
      refine q_val (v := .bool (!(x13.fixed == (decide ((placeI xl x13.id) < (0 : Int)))))) rfl rfl rfl (e_neq_b (a := x13.fixed) (b := decide ((placeI xl x13.id) < (0 : Int))) rfl rfl tf88) ?_
      refine q_nil ?_
      refine f_then ?_
      refine c_ifb (!(x13.fixed == (decide ((placeI xl x13.id) < (0 : Int))))) rfl (fun hc20 => ?_) (fun hc20 => ?_)
      ·
        rw [(place_test hmP hX hx14)] at hc20; cases hc20
      ·
        refine c_skip ?_
        refine f_then ?_
        refine c_seq ?_
        refine c_region ?_
        refine l_val (v := .pointer (some ⟨b19, 8, none⟩)) rfl rfl rfl (e_fieldPt (b := b19) (o := 0) rfl tf18) ?_
        refine l_val (v := .bool (x13.fixed)) rfl rfl rfl (e_load1 tf19 (v := .bool (x13.fixed)) rfl (k_pt 0 (cs := (bC x13)) (vs := [.bool (x13.fixed)]) rfl rfl)) ?_
        refine l_val (v := .bool (!x13.fixed)) rfl rfl rfl (e_not rfl) ?_
        refine l_nil ?_
        refine f_then ?_
        refine c_ifb (!x13.fixed) rfl (fun hc21 => ?_) (fun hc21 => ?_)
        ·
          refine c_region ?_
          refine l_val (v := Nx (fi bs k)) rfl rfl rfl (e_move) ?_
          refine l_val (v := Nx ((fi bs k) + 1)) rfl rfl rfl (e_add (a := ((fi bs k : Nat) : Int)) (b := (1 : Int)) rfl rfl (i64n (by omega) (by omega))) ?_
          refine l_val (v := Nx ((fi bs k) + 1)) rfl rfl rfl (e_assign) ?_
          refine l_nil ?_
          refine f_block ?_
          refine f_then ?_
          refine c_region ?_
          refine l_val (v := Nx (k + 1)) rfl rfl rfl (e_add (a := ((k : Nat) : Int)) (b := (1 : Int)) rfl rfl (i64n (by omega) (by omega))) ?_
          refine l_val (v := Nx (k + 1)) rfl rfl rfl (e_move) ?_
          refine l_nil ?_
          refine f_mask (L' := [pt b6 (.cells #[.slice p2 (bs.length) (c3), .slice q4 (R.length) (d5), Ix (gX), Ix (gY)] 32), pt b1 (.cells #[.int .u16 (((bits : Nat)) : Int)] 25)]) [false, true, true] rfl ?_
          exact f_cut ⟨k + 1, ⟨⟨rfl, rfl, rfl, congrArg (fun z : Nat => Nx z) (fi_yes hx14 (by simpa using hc21)).symm, rfl, rfl, rfl, rfl⟩, rfl, by omega⟩, (show bs.length - (k + 1) < bs.length - k from by omega)⟩
        ·
          refine c_skip ?_
          refine f_block ?_
          refine f_then ?_
          refine c_region ?_
          refine l_val (v := Nx (k + 1)) rfl rfl rfl (e_add (a := ((k : Nat) : Int)) (b := (1 : Int)) rfl rfl (i64n (by omega) (by omega))) ?_
          refine l_val (v := Nx (k + 1)) rfl rfl rfl (e_move) ?_
          refine l_nil ?_
          refine f_mask (L' := [pt b6 (.cells #[.slice p2 (bs.length) (c3), .slice q4 (R.length) (d5), Ix (gX), Ix (gY)] 32), pt b1 (.cells #[.int .u16 (((bits : Nat)) : Int)] 25)]) [false, true, true] rfl ?_
          exact f_cut ⟨k + 1, ⟨⟨rfl, rfl, rfl, congrArg (fun z : Nat => Nx z) (fi_no hx14 (by simpa using hc21)).symm, rfl, rfl, rfl, rfl⟩, rfl, by omega⟩, (show bs.length - (k + 1) < bs.length - k from by omega)⟩
    ·
      refine c_exit ?_
      refine f_then_exit ?_
      refine f_then_exit ?_
      refine f_exit ?_
      refine f_then ?_
      refine c_seq ?_
      refine c_seq ?_
      obtain ⟨nf, hnf⟩ : ∃ z, z = fi bs k := ⟨_, rfl⟩
      have hnf2 : nf = (freeB bs).length := by rw [hnf]; exact fi_all (by omega)
      rw [← hnf]
      refine c_region ?_
      refine l_val (v := .slice p7 (xl.length) (c8)) rfl rfl rfl (e_move) ?_
      refine l_val (v := Nx (xl.length)) rfl rfl rfl (e_len (a := p7) (n := xl.length) (c := c8) rfl tf64) ?_
      refine l_val (v := .int .i64 (0)) rfl rfl rfl (e_move) ?_
      refine l_nil ?_
      refine f_then ?_
      refine c_block ?_
      refine c_loop (fun (k : Nat) (f : Fm) (L : List Res) => (f 9 = .pointer (some ⟨b1, 0, none⟩) ∧ f 11 = .pointer (some ⟨b6, 0, none⟩) ∧ f 12 = .slice p7 (xl.length) (c8) ∧ f 14 = Nx (nf) ∧ f 15 = Nx (lenS (xl.take k)) ∧ f 67 = Nx (xl.length) ∧ f 68 = Nx (k)) ∧ L = [pt b6 (.cells #[.slice p2 (bs.length) (c3), .slice q4 (R.length) (d5), Ix (gX), Ix (gY)] 32), pt b1 (.cells #[.int .u16 (((bits : Nat)) : Int)] 25)] ∧ (k ≤ xl.length)) (fun (k : Nat) => xl.length - k) 0 ?_ ?_
      · exact ⟨⟨rfl, rfl, rfl, rfl, rfl, rfl, rfl⟩, rfl, by omega⟩
      rintro k f0 L0 ⟨⟨hs9, hs11, hs12, hs14, hs15, hs67, hs68⟩, hL, hk⟩
      subst L0
      refine rebase (d := 9) hs9 ?_
      refine rebase (d := 11) hs11 ?_
      refine rebase (d := 12) hs12 ?_
      refine rebase (d := 14) hs14 ?_
      refine rebase (d := 15) hs15 ?_
      refine rebase (d := 67) hs67 ?_
      refine rebase (d := 68) hs68 ?_
      clear hs9 hs11 hs12 hs14 hs15 hs67 hs68
      have hlk := hle k
      have hlk1 := hle (k + 1)
      refine c_seq ?_
      refine c_region ?_
      refine l_val (v := .bool (decide (((k : Nat) : Int) < ((xl.length : Nat) : Int)))) rfl rfl rfl (e_lss (a := ((k : Nat) : Int)) (b := ((xl.length : Nat) : Int)) rfl rfl) ?_
      refine l_nil ?_
      refine f_then ?_
      refine c_seq ?_
      refine c_if (((k : Nat) : Int) < ((xl.length : Nat) : Int)) rfl (fun hc22 => ?_) (fun hc22 => ?_)
      ·
        refine c_skip ?_
        refine f_then ?_
        refine c_seq ?_
        refine c_block ?_
        refine c_seq ?_
        refine c_region ?_
        refine l_val (v := Nx (k)) rfl rfl rfl (e_move) ?_
        refine l_val (v := Nx (k)) rfl rfl rfl (e_assign) ?_
        refine l_nil ?_
        refine f_then ?_
        refine c_seq ?_
        refine c_region ?_
        refine l_val (v := Nx (lenS (xl.take k))) rfl rfl rfl (e_move) ?_
        refine l_val (v := .slice p7 (xl.length) (c8)) rfl rfl rfl (e_move) ?_
        refine l_val (v := Nx (k)) rfl rfl rfl (e_move) ?_
        obtain ⟨x23, hx24⟩ : ∃ x_, (xl)[k]? = some x_ := ⟨_, List.getElem?_eq_getElem (by omega)⟩
        obtain ⟨ha25, cs26, hc27, hr28⟩ := heX _ _ hx24
        obtain ⟨v29, rfl, hv30⟩ := hr28
        obtain ⟨a31, c32, rfl, hl33, hm34, he35⟩ := (hv30).get
        have hposx23 := xl_pos hX hx24
        have hsumx23 := lenS_next hx24
        refine l_val (v := .pointer (some ((ba p7).add (k * 1)))) rfl rfl rfl (e_indexAddr (k := k) (len := xl.length) (cap := c8) (a := p7) rfl rfl tf21 (by omega) ha25) ?_
        refine l_val (v := .slice a31 (x23.length) (c32)) rfl rfl rfl (e_load1 tf22 (v := .slice a31 (x23.length) (c32)) rfl (Knows.of_base (Cs.mono _ _) hc27)) ?_
        refine l_val (v := Nx (x23.length)) rfl rfl rfl (e_len (a := a31) (n := x23.length) (c := c32) rfl tf28) ?_
        refine l_val (v := Nx ((lenS (xl.take k)) + x23.length)) rfl rfl rfl (e_add (a := ((lenS (xl.take k) : Nat) : Int)) (b := ((x23.length : Nat) : Int)) rfl rfl (i64n (by omega) (by omega))) ?_
        refine l_val (v := Nx ((lenS (xl.take k)) + x23.length)) rfl rfl rfl (e_assign) ?_
        refine l_nil ?_
        refine f_then ?_
        refine c_seq ?_
        refine c_seq ?_
        refine c_quiet (by kernel_rfl) (by kernel_rfl) ?_
        refine q_val (v := .slice p7 (xl.length) (c8)) rfl rfl rfl (e_move) ?_
        refine q_val (v := Nx (k)) rfl rfl rfl (e_move) ?_
        refine q_val (v := .pointer (some ((ba p7).add (k * 1)))) rfl rfl rfl (e_indexAddr (k := k) (len := xl.length) (cap := c8) (a := p7) rfl rfl tf21 (by omega) ha25) ?_
        refine q_val (v := .slice a31 (x23.length) (c32)) rfl rfl rfl (e_load1 tf22 (v := .slice a31 (x23.length) (c32)) rfl (Knows.of_base (Cs.mono _ _) hc27)) ?_
        refine q_val (v := Nx (x23.length)) rfl rfl rfl (e_len (a := a31) (n := x23.length) (c := c32) rfl tf28) ?_
        refine q_val (v := .bool (decide (((x23.length : Nat) : Int) = (0 : Int)))) rfl rfl rfl (e_eql (a := ((x23.length : Nat) : Int)) (b := (0 : Int)) rfl rfl) ?_
        refine q_val (v := .bool (decide (((x23.length : Nat) : Int) = (0 : Int)))) rfl rfl rfl (e_move) ?_
        refine q_split (s := 84) (p := ((x23.length : Nat) : Int) = (0 : Int)) rfl (fun h => ?_) (fun h => ?_)
        exact absurd h (by omega)
        refine qg_val (v := Nx (k)) rfl rfl rfl rfl rfl (e_move) ?_
        refine qg_val (v := .bool (decide ((0 : Int) < ((k : Nat) : Int)))) rfl rfl rfl rfl rfl (e_gtr (a := ((k : Nat) : Int)) (b := (0 : Int)) rfl rfl) ?_
        refine qg_val (v := .bool (decide ((0 : Int) < ((k : Nat) : Int)))) rfl rfl rfl rfl rfl (e_move) ?_
        refine q_split (s := 87) (p := (0 : Int) < ((k : Nat) : Int)) rfl (fun hg36 => ?_) (fun hg36 => ?_)
        ·
          refine qg_val (v := .slice p7 (xl.length) (c8)) rfl rfl rfl rfl rfl (e_move) ?_
          refine qg_val (v := Nx (k)) rfl rfl rfl rfl rfl (e_move) ?_
          refine qg_val (v := Nx (k - 1)) rfl rfl rfl rfl rfl (ev_eq (congrArg (Value.int .i64) (by omega)) (e_sub (a := ((k : Nat) : Int)) (b := (1 : Int)) rfl rfl (i64w (by omega)))) ?_
          obtain ⟨x37, hx38⟩ : ∃ x_, (xl)[k - 1]? = some x_ := ⟨_, List.getElem?_eq_getElem (by omega)⟩
          obtain ⟨ha39, cs40, hc41, hr42⟩ := heX _ _ hx38
          obtain ⟨v43, rfl, hv44⟩ := hr42
          obtain ⟨a45, c46, rfl, hl47, hm48, he49⟩ := (hv44).get
          have hposx37 := xl_pos hX hx38
          have hsumx37 := lenS_next hx38
          refine qg_val (v := .pointer (some ((ba p7).add ((k - 1) * 1)))) rfl rfl rfl rfl rfl (e_indexAddr (k := k - 1) (len := xl.length) (cap := c8) (a := p7) rfl rfl tf21 (by omega) ha39) ?_
          refine qg_val (v := .slice a45 (x37.length) (c46)) rfl rfl rfl rfl rfl (e_load1 tf22 (v := .slice a45 (x37.length) (c46)) rfl (Knows.of_base (Cs.mono _ _) hc41)) ?_
          obtain ⟨x50, hx51⟩ : ∃ x_, (x37)[0]? = some x_ := ⟨_, List.getElem?_eq_getElem (by omega)⟩
          obtain ⟨ha52, cs53, hc54, rfl⟩ := he49 _ _ hx51
          refine qg_val (v := .pointer (some ((ba a45).add (0 * 1)))) rfl rfl rfl rfl rfl (e_indexAddr (k := 0) (len := x37.length) (cap := c46) (a := a45) rfl rfl tf23 (by omega) ha52) ?_
          refine qg_val (v := Ix (x50)) rfl rfl rfl rfl rfl (e_load1 tf11 (v := Ix (x50)) rfl (Knows.of_base (Cs.mono _ _) hc54)) ?_
          refine qg_val (v := .slice p7 (xl.length) (c8)) rfl rfl rfl rfl rfl (e_move) ?_
          refine qg_val (v := Nx (k)) rfl rfl rfl rfl rfl (e_move) ?_
          refine qg_val (v := .pointer (some ((ba p7).add (k * 1)))) rfl rfl rfl rfl rfl (e_indexAddr (k := k) (len := xl.length) (cap := c8) (a := p7) rfl rfl tf21 (by omega) ha25) ?_
          refine qg_val (v := .slice a31 (x23.length) (c32)) rfl rfl rfl rfl rfl (e_load1 tf22 (v := .slice a31 (x23.length) (c32)) rfl (Knows.of_base (Cs.mono _ _) hc27)) ?_
          obtain ⟨x56, hx57⟩ : ∃ x_, (x23)[0]? = some x_ := ⟨_, List.getElem?_eq_getElem (by omega)⟩
          obtain ⟨ha58, cs59, hc60, rfl⟩ := he35 _ _ hx57
          refine qg_val (v := .pointer (some ((ba a31).add (0 * 1)))) rfl rfl rfl rfl rfl (e_indexAddr (k := 0) (len := x23.length) (cap := c32) (a := a31) rfl rfl tf23 (by omega) ha58) ?_
          refine qg_val (v := Ix (x56)) rfl rfl rfl rfl rfl (e_load1 tf11 (v := Ix (x56)) rfl (Knows.of_base (Cs.mono _ _) hc60)) ?_
          refine qg_val (v := .bool (decide ((x56) ≤ (x50)))) rfl rfl rfl rfl rfl (e_geq (a := (x50)) (b := (x56)) rfl rfl) ?_
          refine qg_val (v := .bool (decide ((x56) ≤ (x50)))) rfl rfl rfl rfl rfl (e_pick_t rfl) ?_
          refine q_val (v := .bool (decide ((x56) ≤ (x50)))) rfl rfl rfl (e_pick_f rfl) ?_
          refine q_nil ?_
          refine f_then ?_
          refine c_if ((x56) ≤ (x50)) rfl (fun hc62 => ?_) (fun hc62 => ?_)
          ·
            exact absurd hc62 (Int.not_le.2 (xl_lt hmP hX (by omega) hx38 hx24 hx51 hx57))
          ·
            refine c_skip ?_
            refine f_then ?_
            refine c_seq ?_
            refine c_region ?_
            refine l_val (v := .int .i64 (1)) rfl rfl rfl (e_assign) ?_
            refine l_nil ?_
            refine f_then ?_
            refine c_block ?_
            refine c_loop (fun (j : Nat) (f : Fm) (L : List Res) => (f 9 = .pointer (some ⟨b1, 0, none⟩) ∧ f 11 = .pointer (some ⟨b6, 0, none⟩) ∧ f 12 = .slice p7 (xl.length) (c8) ∧ f 14 = Nx (nf) ∧ f 15 = Nx ((lenS (xl.take k)) + x23.length) ∧ f 18 = Nx (k) ∧ f 19 = Nx (j) ∧ f 67 = Nx (xl.length) ∧ f 68 = Nx (k)) ∧ L = [pt b6 (.cells #[.slice p2 (bs.length) (c3), .slice q4 (R.length) (d5), Ix (gX), Ix (gY)] 32), pt b1 (.cells #[.int .u16 (((bits : Nat)) : Int)] 25)] ∧ (1 ≤ j ∧ j ≤ x23.length)) (fun (j : Nat) => x23.length - j) 1 ?_ ?_
            · exact ⟨⟨rfl, rfl, rfl, rfl, rfl, rfl, rfl, rfl, rfl⟩, rfl, ⟨by omega, by omega⟩⟩
            rintro j f0 L0 ⟨⟨hs9, hs11, hs12, hs14, hs15, hs18, hs19, hs67, hs68⟩, hL, ⟨hj1, hj2⟩⟩
            subst L0
            refine rebase (d := 9) hs9 ?_
            refine rebase (d := 11) hs11 ?_
            refine rebase (d := 12) hs12 ?_
            refine rebase (d := 14) hs14 ?_
            refine rebase (d := 15) hs15 ?_
            refine rebase (d := 18) hs18 ?_
            refine rebase (d := 19) hs19 ?_
            refine rebase (d := 67) hs67 ?_
            refine rebase (d := 68) hs68 ?_
            clear hs9 hs11 hs12 hs14 hs15 hs18 hs19 hs67 hs68
            refine c_seq ?_
            refine c_seq ?_
            refine c_region ?_
            refine l_val (v := Nx (j)) rfl rfl rfl (e_move) ?_
            refine l_val (v := .slice p7 (xl.length) (c8)) rfl rfl rfl (e_move) ?_
            refine l_val (v := Nx (k)) rfl rfl rfl (e_move) ?_
            refine l_val (v := .pointer (some ((ba p7).add (k * 1)))) rfl rfl rfl (e_indexAddr (k := k) (len := xl.length) (cap := c8) (a := p7) rfl rfl tf21 (by omega) ha25) ?_
            refine l_val (v := .slice a31 (x23.length) (c32)) rfl rfl rfl (e_load1 tf22 (v := .slice a31 (x23.length) (c32)) rfl (Knows.of_base (Cs.mono _ _) hc27)) ?_
            refine l_val (v := Nx (x23.length)) rfl rfl rfl (e_len (a := a31) (n := x23.length) (c := c32) rfl tf28) ?_
            refine l_val (v := .bool (decide (((j : Nat) : Int) < ((x23.length : Nat) : Int)))) rfl rfl rfl (e_lss (a := ((j : Nat) : Int)) (b := ((x23.length : Nat) : Int)) rfl rfl) ?_
            refine l_nil ?_
            refine f_then ?_
            refine c_if (((j : Nat) : Int) < ((x23.length : Nat) : Int)) rfl (fun hc63 => ?_) (fun hc63 => ?_)
            ·
              refine c_skip ?_
              refine f_then ?_
              refine c_seq ?_
              refine c_block ?_
              refine c_seq ?_
              refine c_quiet (by kernel_rfl) (by kernel_rfl) ?_
              refine q_val (v := .slice p7 (xl.length) (c8)) rfl rfl rfl (e_move) ?_
              refine q_val (v := Nx (k)) rfl rfl rfl (e_move) ?_
              refine q_val (v := .pointer (some ((ba p7).add (k * 1)))) rfl rfl rfl (e_indexAddr (k := k) (len := xl.length) (cap := c8) (a := p7) rfl rfl tf21 (by omega) ha25) ?_
              refine q_val (v := .slice a31 (x23.length) (c32)) rfl rfl rfl (e_load1 tf22 (v := .slice a31 (x23.length) (c32)) rfl (Knows.of_base (Cs.mono _ _) hc27)) ?_
              refine q_val (v := Nx (j)) rfl rfl rfl (e_move) ?_
              refine q_val (v := Nx (j - 1)) rfl rfl rfl (ev_eq (congrArg (Value.int .i64) (by omega)) (e_sub (a := ((j : Nat) : Int)) (b := (1 : Int)) rfl rfl (i64w (by omega)))) ?_
              obtain ⟨x64, hx65⟩ : ∃ x_, (x23)[j - 1]? = some x_ := ⟨_, List.getElem?_eq_getElem (by omega)⟩
              obtain ⟨ha66, cs67, hc68, rfl⟩ := he35 _ _ hx65
              refine q_val (v := .pointer (some ((ba a31).add ((j - 1) * 1)))) rfl rfl rfl (e_indexAddr (k := j - 1) (len := x23.length) (cap := c32) (a := a31) rfl rfl tf23 (by omega) ha66) ?_
              refine q_val (v := Ix (x64)) rfl rfl rfl (e_load1 tf11 (v := Ix (x64)) rfl (Knows.of_base (Cs.mono _ _) hc68)) ?_
              refine q_val (v := .slice p7 (xl.length) (c8)) rfl rfl rfl (e_move) ?_
              refine q_val (v := Nx (k)) rfl rfl rfl (e_move) ?_
              refine q_val (v := .pointer (some ((ba p7).add (k * 1)))) rfl rfl rfl (e_indexAddr (k := k) (len := xl.length) (cap := c8) (a := p7) rfl rfl tf21 (by omega) ha25) ?_
              refine q_val (v := .slice a31 (x23.length) (c32)) rfl rfl rfl (e_load1 tf22 (v := .slice a31 (x23.length) (c32)) rfl (Knows.of_base (Cs.mono _ _) hc27)) ?_
              refine q_val (v := Nx (j)) rfl rfl rfl (e_move) ?_
              obtain ⟨x70, hx71⟩ : ∃ x_, (x23)[j]? = some x_ := ⟨_, List.getElem?_eq_getElem (by omega)⟩
              obtain ⟨ha72, cs73, hc74, rfl⟩ := he35 _ _ hx71
              refine q_val (v := .pointer (some ((ba a31).add (j * 1)))) rfl rfl rfl (e_indexAddr (k := j) (len := x23.length) (cap := c32) (a := a31) rfl rfl tf23 (by omega) ha72) ?_
              refine q_val (v := Ix (x70)) rfl rfl rfl (e_load1 tf11 (v := Ix (x70)) rfl (Knows.of_base (Cs.mono _ _) hc74)) ?_
              refine q_val (v := .bool (decide ((x70) ≤ (x64)))) rfl rfl rfl (e_geq (a := (x64)) (b := (x70)) rfl rfl) ?_
              refine q_nil ?_
              refine f_then ?_
              refine c_if ((x70) ≤ (x64)) rfl (fun hc76 => ?_) (fun hc76 => ?_)
              ·
                exact absurd hc76 (Int.not_le.2 (xl_in hmP hX (by omega) hx24 hx65 hx71))
              ·
                refine c_skip ?_
                refine f_block ?_
                refine f_then ?_
                refine c_region ?_
                refine l_val (v := Nx (j)) rfl rfl rfl (e_move) ?_
                refine l_val (v := Nx (j + 1)) rfl rfl rfl (e_add (a := ((j : Nat) : Int)) (b := (1 : Int)) rfl rfl (i64n (by omega) (by omega))) ?_
                refine l_val (v := Nx (j + 1)) rfl rfl rfl (e_assign) ?_
                refine l_nil ?_
                exact f_cut ⟨j + 1, ⟨⟨rfl, rfl, rfl, rfl, rfl, rfl, rfl, rfl, rfl⟩, rfl, ⟨by omega, by omega⟩⟩, (show x23.length - (j + 1) < x23.length - j from by omega)⟩
            ·
              refine c_exit ?_
              refine f_then_exit ?_
              refine f_then_exit ?_
              refine f_exit ?_
              refine f_block ?_
              refine f_then ?_
              refine c_region ?_
              refine l_val (v := Nx (k + 1)) rfl rfl rfl (e_add (a := ((k : Nat) : Int)) (b := (1 : Int)) rfl rfl (i64n (by omega) (by omega))) ?_
              refine l_val (v := Nx (k + 1)) rfl rfl rfl (e_move) ?_
              refine l_nil ?_
              exact f_cut ⟨k + 1, ⟨⟨rfl, rfl, rfl, rfl, congrArg (fun z : Nat => Nx z) (lenS_next hx24), rfl, rfl⟩, rfl, by omega⟩, (show xl.length - (k + 1) < xl.length - k from by omega)⟩
        ·
          refine q_skip rfl rfl rfl rfl rfl rfl ?_
          refine q_skip rfl rfl rfl rfl rfl rfl ?_
          refine q_skip rfl rfl rfl rfl rfl rfl ?_
          refine q_skip rfl rfl rfl rfl rfl rfl ?_
          refine q_skip rfl rfl rfl rfl rfl rfl ?_
          refine q_skip rfl rfl rfl rfl rfl rfl ?_
          refine q_skip rfl rfl rfl rfl rfl rfl ?_
          refine q_skip rfl rfl rfl rfl rfl rfl ?_
          refine q_skip rfl rfl rfl rfl rfl rfl ?_
          refine q_skip rfl rfl rfl rfl rfl rfl ?_
          refine q_skip rfl rfl rfl rfl rfl rfl ?_
          refine q_skip rfl rfl rfl rfl rfl rfl ?_
          refine q_skip rfl rfl rfl rfl rfl rfl ?_
          refine q_skip rfl rfl rfl rfl rfl rfl ?_
          refine qg_val (v := .bool false) rfl rfl rfl rfl rfl (e_pick_f rfl) ?_
          refine q_val (v := .bool false) rfl rfl rfl (e_pick_f rfl) ?_
          refine q_nil ?_
          refine f_then ?_
          refine c_no rfl ?_
          refine c_skip ?_
          refine f_then ?_
          refine c_seq ?_
          refine c_region ?_
          refine l_val (v := .int .i64 (1)) rfl rfl rfl (e_assign) ?_
          refine l_nil ?_
          refine f_then ?_
          refine c_block ?_
          refine c_loop (fun (j : Nat) (f : Fm) (L : List Res) => (f 9 = .pointer (some ⟨b1, 0, none⟩) ∧ f 11 = .pointer (some ⟨b6, 0, none⟩) ∧ f 12 = .slice p7 (xl.length) (c8) ∧ f 14 = Nx (nf) ∧ f 15 = Nx ((lenS (xl.take k)) + x23.length) ∧ f 18 = Nx (k) ∧ f 19 = Nx (j) ∧ f 67 = Nx (xl.length) ∧ f 68 = Nx (k)) ∧ L = [pt b6 (.cells #[.slice p2 (bs.length) (c3), .slice q4 (R.length) (d5), Ix (gX), Ix (gY)] 32), pt b1 (.cells #[.int .u16 (((bits : Nat)) : Int)] 25)] ∧ (1 ≤ j ∧ j ≤ x23.length)) (fun (j : Nat) => x23.length - j) 1 ?_ ?_
          · exact ⟨⟨rfl, rfl, rfl, rfl, rfl, rfl, rfl, rfl, rfl⟩, rfl, ⟨by omega, by omega⟩⟩
          rintro j f0 L0 ⟨⟨hs9, hs11, hs12, hs14, hs15, hs18, hs19, hs67, hs68⟩, hL, ⟨hj1, hj2⟩⟩
          subst L0
          refine rebase (d := 9) hs9 ?_
          refine rebase (d := 11) hs11 ?_
          refine rebase (d := 12) hs12 ?_
          refine rebase (d := 14) hs14 ?_
          refine rebase (d := 15) hs15 ?_
          refine rebase (d := 18) hs18 ?_
          refine rebase (d := 19) hs19 ?_
          refine rebase (d := 67) hs67 ?_
          refine rebase (d := 68) hs68 ?_
          clear hs9 hs11 hs12 hs14 hs15 hs18 hs19 hs67 hs68
          refine c_seq ?_
          refine c_seq ?_
          refine c_region ?_
          refine l_val (v := Nx (j)) rfl rfl rfl (e_move) ?_
          refine l_val (v := .slice p7 (xl.length) (c8)) rfl rfl rfl (e_move) ?_
          refine l_val (v := Nx (k)) rfl rfl rfl (e_move) ?_
          refine l_val (v := .pointer (some ((ba p7).add (k * 1)))) rfl rfl rfl (e_indexAddr (k := k) (len := xl.length) (cap := c8) (a := p7) rfl rfl tf21 (by omega) ha25) ?_
          refine l_val (v := .slice a31 (x23.length) (c32)) rfl rfl rfl (e_load1 tf22 (v := .slice a31 (x23.length) (c32)) rfl (Knows.of_base (Cs.mono _ _) hc27)) ?_
          refine l_val (v := Nx (x23.length)) rfl rfl rfl (e_len (a := a31) (n := x23.length) (c := c32) rfl tf28) ?_
          refine l_val (v := .bool (decide (((j : Nat) : Int) < ((x23.length : Nat) : Int)))) rfl rfl rfl (e_lss (a := ((j : Nat) : Int)) (b := ((x23.length : Nat) : Int)) rfl rfl) ?_
          refine l_nil ?_
          refine f_then ?_
          refine c_if (((j : Nat) : Int) < ((x23.length : Nat) : Int)) rfl (fun hc77 => ?_) (fun hc77 => ?_)
          ·
            refine c_skip ?_
            refine f_then ?_
            refine c_seq ?_
            refine c_block ?_
            refine c_seq ?_
            refine c_quiet (by kernel_rfl) (by kernel_rfl) ?_
            refine q_val (v := .slice p7 (xl.length) (c8)) rfl rfl rfl (e_move) ?_
            refine q_val (v := Nx (k)) rfl rfl rfl (e_move) ?_
            refine q_val (v := .pointer (some ((ba p7).add (k * 1)))) rfl rfl rfl (e_indexAddr (k := k) (len := xl.length) (cap := c8) (a := p7) rfl rfl tf21 (by omega) ha25) ?_
            refine q_val (v := .slice a31 (x23.length) (c32)) rfl rfl rfl (e_load1 tf22 (v := .slice a31 (x23.length) (c32)) rfl (Knows.of_base (Cs.mono _ _) hc27)) ?_
            refine q_val (v := Nx (j)) rfl rfl rfl (e_move) ?_
            refine q_val (v := Nx (j - 1)) rfl rfl rfl (ev_eq (congrArg (Value.int .i64) (by omega)) (e_sub (a := ((j : Nat) : Int)) (b := (1 : Int)) rfl rfl (i64w (by omega)))) ?_
            obtain ⟨x78, hx79⟩ : ∃ x_, (x23)[j - 1]? = some x_ := ⟨_, List.getElem?_eq_getElem (by omega)⟩
            obtain ⟨ha80, cs81, hc82, rfl⟩ := he35 _ _ hx79
            refine q_val (v := .pointer (some ((ba a31).add ((j - 1) * 1)))) rfl rfl rfl (e_indexAddr (k := j - 1) (len := x23.length) (cap := c32) (a := a31) rfl rfl tf23 (by omega) ha80) ?_
            refine q_val (v := Ix (x78)) rfl rfl rfl (e_load1 tf11 (v := Ix (x78)) rfl (Knows.of_base (Cs.mono _ _) hc82)) ?_
            refine q_val (v := .slice p7 (xl.length) (c8)) rfl rfl rfl (e_move) ?_
            refine q_val (v := Nx (k)) rfl rfl rfl (e_move) ?_
            refine q_val (v := .pointer (some ((ba p7).add (k * 1)))) rfl rfl rfl (e_indexAddr (k := k) (len := xl.length) (cap := c8) (a := p7) rfl rfl tf21 (by omega) ha25) ?_
            refine q_val (v := .slice a31 (x23.length) (c32)) rfl rfl rfl (e_load1 tf22 (v := .slice a31 (x23.length) (c32)) rfl (Knows.of_base (Cs.mono _ _) hc27)) ?_
            refine q_val (v := Nx (j)) rfl rfl rfl (e_move) ?_
            obtain ⟨x84, hx85⟩ : ∃ x_, (x23)[j]? = some x_ := ⟨_, List.getElem?_eq_getElem (by omega)⟩
            obtain ⟨ha86, cs87, hc88, rfl⟩ := he35 _ _ hx85
            refine q_val (v := .pointer (some ((ba a31).add (j * 1)))) rfl rfl rfl (e_indexAddr (k := j) (len := x23.length) (cap := c32) (a := a31) rfl rfl tf23 (by omega) ha86) ?_
            refine q_val (v := Ix (x84)) rfl rfl rfl (e_load1 tf11 (v := Ix (x84)) rfl (Knows.of_base (Cs.mono _ _) hc88)) ?_
            refine q_val (v := .bool (decide ((x84) ≤ (x78)))) rfl rfl rfl (e_geq (a := (x78)) (b := (x84)) rfl rfl) ?_
            refine q_nil ?_
            refine f_then ?_
            refine c_if ((x84) ≤ (x78)) rfl (fun hc90 => ?_) (fun hc90 => ?_)
            ·
              exact absurd hc90 (Int.not_le.2 (xl_in hmP hX (by omega) hx24 hx79 hx85))
            ·
              refine c_skip ?_
              refine f_block ?_
              refine f_then ?_
              refine c_region ?_
              refine l_val (v := Nx (j)) rfl rfl rfl (e_move) ?_
              refine l_val (v := Nx (j + 1)) rfl rfl rfl (e_add (a := ((j : Nat) : Int)) (b := (1 : Int)) rfl rfl (i64n (by omega) (by omega))) ?_
              refine l_val (v := Nx (j + 1)) rfl rfl rfl (e_assign) ?_
              refine l_nil ?_
              exact f_cut ⟨j + 1, ⟨⟨rfl, rfl, rfl, rfl, rfl, rfl, rfl, rfl, rfl⟩, rfl, ⟨by omega, by omega⟩⟩, (show x23.length - (j + 1) < x23.length - j from by omega)⟩
          ·
            refine c_exit ?_
            refine f_then_exit ?_
            refine f_then_exit ?_
            refine f_exit ?_
            refine f_block ?_
            refine f_then ?_
            refine c_region ?_
            refine l_val (v := Nx (k + 1)) rfl rfl rfl (e_add (a := ((k : Nat) : Int)) (b := (1 : Int)) rfl rfl (i64n (by omega) (by omega))) ?_
            refine l_val (v := Nx (k + 1)) rfl rfl rfl (e_move) ?_
            refine l_nil ?_
            exact f_cut ⟨k + 1, ⟨⟨rfl, rfl, rfl, rfl, congrArg (fun z : Nat => Nx z) (lenS_next hx24), rfl, rfl⟩, rfl, by omega⟩, (show xl.length - (k + 1) < xl.length - k from by omega)⟩
      ·
        refine c_exit ?_
        refine f_then_exit ?_
        refine f_then_exit ?_
        refine f_exit ?_
        refine f_then ?_
        refine c_seq ?_
        obtain ⟨nt, hnt⟩ : ∃ z, z = lenS (xl.take k) := ⟨_, rfl⟩
        rw [← hnt]
        have hfree : nt = nf := by rw [hnt, List.take_of_length_le (by omega), hxs, hnf2]
        refine c_region ?_
        refine l_val (v := .slice p7 (xl.length) (c8)) rfl rfl rfl (e_move) ?_
        refine l_val (v := Nx (xl.length)) rfl rfl rfl (e_len (a := p7) (n := xl.length) (c := c8) rfl tf64) ?_
        refine l_mv rfl rfl rfl (m_makeF (F := BoolF) (x0 := false) (c := xl.length) tf89 tf90 tf91 rfl rfl rfl (by unfold maxLen; omega) (by omega)) ?_
        rintro _ _ ⟨b91, rfl, rfl⟩
        refine l_val (v := .slice (some ⟨b91, 0, none⟩) (xl.length) xl.length) rfl rfl rfl (e_assign) ?_
        refine l_nil ?_
        refine f_then ?_
        refine c_seq ?_
        refine c_region ?_
        refine l_val (v := .slice p7 (xl.length) (c8)) rfl rfl rfl (e_move) ?_
        refine l_val (v := Nx (xl.length)) rfl rfl rfl (e_len (a := p7) (n := xl.length) (c := c8) rfl tf64) ?_
        refine l_mv rfl rfl rfl (m_makeF (F := IntF) (x0 := 0) (c := xl.length) tf23 tf25 tf24 rfl rfl rfl (by unfold maxLen; omega) (by omega)) ?_
        rintro _ _ ⟨b92, rfl, rfl⟩
        refine l_val (v := .slice (some ⟨b92, 0, none⟩) (xl.length) xl.length) rfl rfl rfl (e_assign) ?_
        refine l_nil ?_
        refine f_then ?_
        refine c_seq ?_
        have hin0 : InnP bs R gX gY bits (List.replicate xl.length 0) (fi bs 0) := inn_start hX
        have hcr0 : CrP bs R gX gY bits (List.replicate xl.length false) (fi bs 0) 0 := cr_start hX
        have hXC := XL_len hX
        refine c_region ?_
        refine l_val (v := .func (.func 13) #[] #[.pointer (some ⟨b1, 0, none⟩)]) rfl rfl rfl (e_func (u := []) (v := [.pointer (some ⟨b1, 0, none⟩)]) rfl rfl) ?_
        refine l_val (v := .func (.func 13) #[] #[.pointer (some ⟨b1, 0, none⟩)]) rfl rfl rfl (e_assign) ?_
        refine l_nil ?_
        refine f_then ?_
        refine c_seq ?_
        refine c_seq ?_
        refine c_region ?_
        refine l_val (v := .pointer (some ⟨b6, 0, none⟩)) rfl rfl rfl (e_fieldPt (b := b6) (o := 0) rfl tf33) ?_
        refine l_val (v := .slice p2 (bs.length) (c3)) rfl rfl rfl (e_load1 tf26 (v := .slice p2 (bs.length) (c3)) rfl (k_pt 2 (cs := #[.slice p2 (bs.length) (c3), .slice q4 (R.length) (d5), Ix (gX), Ix (gY)]) (vs := [.slice p2 (bs.length) (c3)]) rfl rfl)) ?_
        refine l_val (v := Nx (bs.length)) rfl rfl rfl (e_len (a := p2) (n := bs.length) (c := c3) rfl tf15) ?_
        refine l_val (v := .int .i64 (0)) rfl rfl rfl (e_move) ?_
        refine l_nil ?_
        refine f_then ?_
        refine c_block ?_
        refine c_loop (fun (x_ : Nat × List Bool × List Int) (f : Fm) (L : List Res) => match x_ with | (k, cr, inn) => (f 11 = .pointer (some ⟨b6, 0, none⟩) ∧ f 12 = .slice p7 (xl.length) (c8) ∧ f 14 = Nx (nf) ∧ f 15 = Nx (nt) ∧ f 20 = .slice (some ⟨b91, 0, none⟩) (xl.length) xl.length ∧ f 21 = .slice (some ⟨b92, 0, none⟩) (xl.length) xl.length ∧ f 22 = .func (.func 13) #[] #[.pointer (some ⟨b1, 0, none⟩)] ∧ f 138 = .slice p2 (bs.length) (c3) ∧ f 139 = Nx (bs.length) ∧ f 140 = Nx (k)) ∧ L = [rowF IntF 3 (some ⟨b92, 0, none⟩) xl.length inn, rowF BoolF 4 (some ⟨b91, 0, none⟩) xl.length cr, pt b6 (.cells #[.slice p2 (bs.length) (c3), .slice q4 (R.length) (d5), Ix (gX), Ix (gY)] 32), pt b1 (.cells #[.int .u16 (((bits : Nat)) : Int)] 25)] ∧ (k ≤ bs.length ∧ InnP bs R gX gY bits inn (fi bs k) ∧ CrP bs R gX gY bits cr (fi bs k) 0)) (fun (x_ : Nat × List Bool × List Int) => match x_ with | (k, cr, inn) => bs.length - k) (0, (List.replicate xl.length false), (List.replicate xl.length 0)) ?_ ?_
        · exact ⟨⟨rfl, rfl, rfl, rfl, rfl, rfl, rfl, rfl, rfl, rfl⟩, rfl, ⟨by omega, hin0, hcr0⟩⟩
        rintro ⟨k, cr, inn⟩ f0 L0 ⟨⟨hs11, hs12, hs14, hs15, hs20, hs21, hs22, hs138, hs139, hs140⟩, hL, ⟨hk, hin, hcr⟩⟩
        subst L0
        refine rebase (d := 11) hs11 ?_
        refine rebase (d := 12) hs12 ?_
        refine rebase (d := 14) hs14 ?_
        refine rebase (d := 15) hs15 ?_
        refine rebase (d := 20) hs20 ?_
        refine rebase (d := 21) hs21 ?_
        refine rebase (d := 22) hs22 ?_
        refine rebase (d := 138) hs138 ?_
        refine rebase (d := 139) hs139 ?_
        refine rebase (d := 140) hs140 ?_
        clear hs11 hs12 hs14 hs15 hs20 hs21 hs22 hs138 hs139 hs140
        have hfk := fi_le bs k
        have hil := hin.len
        have hcl := hcr.len
        refine c_seq ?_
        refine c_region ?_
        refine l_val (v := .bool (decide (((k : Nat) : Int) < ((bs.length : Nat) : Int)))) rfl rfl rfl (e_lss (a := ((k : Nat) : Int)) (b := ((bs.length : Nat) : Int)) rfl rfl) ?_
        refine l_nil ?_
        refine f_then ?_
        refine c_seq ?_
        refine c_if (((k : Nat) : Int) < ((bs.length : Nat) : Int)) rfl (fun hc93 => ?_) (fun hc93 => ?_)
        ·
          refine c_skip ?_
          refine f_then ?_
          refine c_seq ?_
          refine c_block ?_
          refine c_seq ?_
          refine c_region ?_
          refine l_val (v := Nx (k)) rfl rfl rfl (e_move) ?_
          obtain ⟨x94, hx95⟩ : ∃ x_, (bs)[k]? = some x_ := ⟨_, List.getElem?_eq_getElem (by omega)⟩
          obtain ⟨ha96, cs97, hc98, rfl⟩ := heB _ _ hx95
          refine l_val (v := .pointer (some ((ba p2).add (k * 9)))) rfl rfl rfl (e_indexAddr (k := k) (len := bs.length) (cap := c3) (a := p2) rfl rfl tf16 (by omega) ha96) ?_
          refine l_val (v := .agg (bC x94)) rfl rfl rfl (e_load tf1 (cs := (bodyE x94)) rfl (Knows.of_base (Cs.mono _ _) hc98) rfl) ?_
          refine l_mv rfl rfl rfl (m_alloc tf17) ?_
          rintro _ _ ⟨b100, rfl, rfl⟩
          refine l_val (v := Nx (k)) rfl rfl rfl (e_assign) ?_
          refine l_mu rfl rfl (m_store 0 tf1 (b := b100) (o := 0) (T := 39) (cs := #[.int .i64 (0), .int .i64 (0), .int .i64 (0), .int .i64 (0), .int .i64 (0), .int .i64 (0), .int .i64 (0), .bool false, .bool false]) (cs' := (bC x94)) (v := .agg (bC x94)) rfl rfl rfl rfl rfl rfl rfl) ?_
          refine l_nil ?_
          refine f_then ?_
          refine c_seq ?_
          refine c_seq ?_
          have hid := hmP.bodies.1 k x94 hx95
          refine c_region ?_
          refine l_val (v := .pointer (some ⟨b100, 8, none⟩)) rfl rfl rfl (e_fieldPt (b := b100) (o := 0) rfl tf18) ?_
          refine l_val (v := .bool (x94.fixed)) rfl rfl rfl (e_load1 tf19 (v := .bool (x94.fixed)) rfl (k_pt 0 (cs := (bC x94)) (vs := [.bool (x94.fixed)]) rfl rfl)) ?_
          refine l_nil ?_
          refine f_then ?_
          refine c_ifb (x94.fixed) rfl (fun hc101 => ?_) (fun hc101 => ?_)
          ·
            refine c_exit ?_
            refine f_then_exit ?_
            refine f_exit ?_
            refine f_then ?_
            refine c_region ?_
            refine l_val (v := Nx (k + 1)) rfl rfl rfl (e_add (a := ((k : Nat) : Int)) (b := (1 : Int)) rfl rfl (i64n (by omega) (by omega))) ?_
            refine l_val (v := Nx (k + 1)) rfl rfl rfl (e_move) ?_
            refine l_nil ?_
            refine f_mask (L' := [rowF IntF 3 (some ⟨b92, 0, none⟩) xl.length inn, rowF BoolF 4 (some ⟨b91, 0, none⟩) xl.length cr, pt b6 (.cells #[.slice p2 (bs.length) (c3), .slice q4 (R.length) (d5), Ix (gX), Ix (gY)] 32), pt b1 (.cells #[.int .u16 (((bits : Nat)) : Int)] 25)]) [false, true, true, true, true] rfl ?_
            exact f_cut ⟨(k + 1, cr, inn), ⟨⟨rfl, rfl, rfl, rfl, rfl, rfl, rfl, rfl, rfl, rfl⟩, rfl, ⟨by omega, by rw [fi_no hx95 (by simpa using hc101)]; exact hin, by rw [fi_no hx95 (by simpa using hc101)]; exact hcr⟩⟩, (show bs.length - (k + 1) < bs.length - k from by omega)⟩
          ·
            refine c_skip ?_
            refine f_then ?_
            refine c_seq ?_
            refine c_seq ?_
            have hf0 : x94.fixed = false := (by simpa using hc101)
            obtain ⟨ia, ca, hca, hma, hpa, hial⟩ := place_body hmP hX hx95 hf0
            have hsd := sd_body (bits := bits) hx95 hf0
            refine c_region ?_
            refine l_val (v := .func (.func 13) #[] #[.pointer (some ⟨b1, 0, none⟩)]) rfl rfl rfl (e_move) ?_
            refine l_val (v := .pointer (some ⟨b100, 0, none⟩)) rfl rfl rfl (e_fieldPt (b := b100) (o := 0) rfl tf27) ?_
            refine l_val (v := Ix (x94.id)) rfl rfl rfl (e_load1 tf11 (v := Ix (x94.id)) rfl (k_pt 0 (cs := (bC x94)) (vs := [Ix (x94.id)]) rfl rfl)) ?_
            refine l_call rfl rfl rfl (cl_value (fst := []) (cap := [.pointer (some ⟨b1, 0, none⟩)]) (vs := [Ix (x94.id)]) (all := [Ix (x94.id), .pointer (some ⟨b1, 0, none⟩)]) tf92 rfl rfl rfl) ?_
            intro w hw
            obtain ⟨β1, sb, kn, hw1, back⟩ := St.frame_all hw
            refine (sideB_ok β1 w hw1 b1 bits hbits (kn _ (k_pt 4 (o := 0) (cs := #[.int .u16 (((bits : Nat)) : Int)]) (vs := [.int .u16 (((bits : Nat)) : Int)]) rfl rfl)) k (by omega) x94.id hid).mono ?_
            rintro e w' ⟨rfl, hw'⟩
            refine ⟨_, rfl, _, back _ _ hw', ?_⟩
            clear hw hw1 hw' back kn sb
            refine l_nil ?_
            refine f_then ?_
            refine c_ifb (sideX bits x94.id) rfl (fun hc102 => ?_) (fun hc102 => ?_)
            ·
              obtain ⟨vi, hvi⟩ : ∃ z, inn[ia]? = some z := ⟨_, List.getElem?_eq_getElem (by omega)⟩
              have hvb := inn_bd hmP hin hvi
              refine c_region ?_
              refine l_val (v := .slice (some ⟨b92, 0, none⟩) (xl.length) xl.length) rfl rfl rfl (e_move) ?_
              refine l_val (v := .slice p7 (xl.length) (c8)) rfl rfl rfl (e_move) ?_
              refine l_val (v := .pointer (some ⟨b100, 0, none⟩)) rfl rfl rfl (e_fieldPt (b := b100) (o := 0) rfl tf27) ?_
              refine l_val (v := Ix (x94.id)) rfl rfl rfl (e_load1 tf11 (v := Ix (x94.id)) rfl (k_pt 0 (cs := (bC x94)) (vs := [Ix (x94.id)]) rfl rfl)) ?_
              refine l_call rfl rfl rfl (cl_value (fst := []) (cap := []) (vs := [.slice p7 (xl.length) (c8), Ix (x94.id)]) (all := [.slice p7 (xl.length) (c8), Ix (x94.id)]) tf87 rfl rfl rfl) ?_
              intro w hw
              obtain ⟨β1, sb, kn, hw1, back⟩ := St.frame_all hw
              refine (placeN_ok β1 w hw1 _ xl (Sl.mono _ _ _ _ _ sb hslX) x94.id ia hpa).mono ?_
              rintro e w' ⟨rfl, hw'⟩
              refine ⟨_, rfl, _, back _ _ hw', ?_⟩
              clear hw hw1 hw' back kn sb
              refine l_val (v := .pointer (some ((ba (some ⟨b92, 0, none⟩)).add (ia * 1)))) rfl rfl rfl (e_indexFlN 1 (F := IntF) (j := ia) (m := xl.length) (xs := inn) rfl (by omega) rfl tf23 (by omega) rfl) ?_
              refine l_val (v := Ix (vi)) rfl rfl rfl (e_load1 tf11 (v := Ix (vi)) rfl (k_flAt 1 (F := IntF) rfl hvi)) ?_
              refine l_val (v := Ix ((vi) + (1 : Int))) rfl rfl rfl (e_add (a := (vi)) (b := (1 : Int)) rfl rfl (i64w (by omega))) ?_
              refine l_val (v := .pointer (some ((ba (some ⟨b92, 0, none⟩)).add (ia * 1)))) rfl rfl rfl (e_indexFlN 1 (F := IntF) (j := ia) (m := xl.length) (xs := inn) rfl (by omega) rfl tf23 (by omega) rfl) ?_
              refine l_mu rfl rfl (m_storeFl 1 (F := IntF) (p := (some ⟨b92, 0, none⟩)) (k := ia) (xs := inn) (z := ((vi) + (1 : Int))) tf11 rfl rfl rfl rfl (by omega)) ?_
              refine l_nil ?_
              refine f_then ?_
              refine c_seq ?_
              have hin1 : InnP bs R gX gY bits (inn.set ia ((vi) + (1 : Int))) (fi bs (k + 1)) := by rw [fi_yes hx95 hf0]; exact inn_yes hin hca hma (hsd.trans hc102) hvi
              generalize hq1 : (inn.set ia ((vi) + (1 : Int))) = in1 at hin1 ⊢
              have hil1 := hin1.len
              refine c_region ?_
              refine l_val (v := .pointer (some ⟨b6, 0, none⟩)) rfl rfl rfl (e_fieldPt (b := b6) (o := 0) rfl tf33) ?_
              refine l_val (v := .slice p2 (bs.length) (c3)) rfl rfl rfl (e_load1 tf26 (v := .slice p2 (bs.length) (c3)) rfl (k_pt 3 (cs := #[.slice p2 (bs.length) (c3), .slice q4 (R.length) (d5), Ix (gX), Ix (gY)]) (vs := [.slice p2 (bs.length) (c3)]) rfl rfl)) ?_
              refine l_val (v := Nx (k)) rfl rfl rfl (e_move) ?_
              refine l_val (v := Nx (k + 1)) rfl rfl rfl (e_add (a := ((k : Nat) : Int)) (b := (1 : Int)) rfl rfl (i64n (by omega) (by omega))) ?_
              obtain ⟨zs103, hz104⟩ : ∃ zs, zs = (bs.drop (k + 1)) := ⟨_, rfl⟩
              have zl105 : zs103.length = (bs).length - (k + 1) := by rw [hz104]; simp; try omega
              have ze106 := (Elems.drop (cap := c3) (k + 1) (by first | omega | (simp; omega)) heB)
              rw [← hz104] at ze106
              refine l_val (v := .slice (adv p2 c3 (k + 1) 9) (zs103.length) ((c3 - (k + 1)))) rfl rfl rfl (ev_eq (by rw [show zs103.length = bs.length - (k + 1) by omega]) (e_slice_lo (a := p2) (len := bs.length) (cap := c3) (l := k + 1) tf16 rfl rfl (by omega))) ?_
              refine l_val (v := Nx (zs103.length)) rfl rfl rfl (e_len (a := (adv p2 c3 (k + 1) 9)) (n := zs103.length) (c := (c3 - (k + 1))) rfl tf15) ?_
              refine l_val (v := .int .i64 (0)) rfl rfl rfl (e_move) ?_
              refine l_nil ?_
              refine f_then ?_
              refine c_block ?_
              refine c_loop (fun (x_ : Nat × List Bool) (f : Fm) (L : List Res) => match x_ with | (j, cj) => (f 11 = .pointer (some ⟨b6, 0, none⟩) ∧ f 12 = .slice p7 (xl.length) (c8) ∧ f 14 = Nx (nf) ∧ f 15 = Nx (nt) ∧ f 20 = .slice (some ⟨b91, 0, none⟩) (xl.length) xl.length ∧ f 21 = .slice (some ⟨b92, 0, none⟩) (xl.length) xl.length ∧ f 22 = .func (.func 13) #[] #[.pointer (some ⟨b1, 0, none⟩)] ∧ f 24 = .pointer (some ⟨b100, 0, none⟩) ∧ f 138 = .slice p2 (bs.length) (c3) ∧ f 139 = Nx (bs.length) ∧ f 140 = Nx (k) ∧ f 164 = .slice (adv p2 c3 (k + 1) 9) (zs103.length) ((c3 - (k + 1))) ∧ f 165 = Nx (zs103.length) ∧ f 166 = Nx (j)) ∧ L = [pt b100 (.cells (bC x94) 39), rowF IntF 3 (some ⟨b92, 0, none⟩) xl.length in1, rowF BoolF 4 (some ⟨b91, 0, none⟩) xl.length cj, pt b6 (.cells #[.slice p2 (bs.length) (c3), .slice q4 (R.length) (d5), Ix (gX), Ix (gY)] 32), pt b1 (.cells #[.int .u16 (((bits : Nat)) : Int)] 25)] ∧ (j ≤ zs103.length ∧ CrP bs R gX gY bits cj (fi bs k) (fi bs (k + 1 + j)))) (fun (x_ : Nat × List Bool) => match x_ with | (j, cj) => zs103.length - j) (0, cr) ?_ ?_
              · exact ⟨⟨rfl, rfl, rfl, rfl, rfl, rfl, rfl, rfl, rfl, rfl, rfl, rfl, rfl, rfl⟩, rfl, ⟨by omega, by rw [Nat.add_zero, fi_yes hx95 hf0]; exact cr_first hcr⟩⟩
              rintro ⟨j, cj⟩ f0 L0 ⟨⟨hs11, hs12, hs14, hs15, hs20, hs21, hs22, hs24, hs138, hs139, hs140, hs164, hs165, hs166⟩, hL, ⟨hj, hcj⟩⟩
              subst L0
              refine rebase (d := 11) hs11 ?_
              refine rebase (d := 12) hs12 ?_
              refine rebase (d := 14) hs14 ?_
              refine rebase (d := 15) hs15 ?_
              refine rebase (d := 20) hs20 ?_
              refine rebase (d := 21) hs21 ?_
              refine rebase (d := 22) hs22 ?_
              refine rebase (d := 24) hs24 ?_
              refine rebase (d := 138) hs138 ?_
              refine rebase (d := 139) hs139 ?_
              refine rebase (d := 140) hs140 ?_
              refine rebase (d := 164) hs164 ?_
              refine rebase (d := 165) hs165 ?_
              refine rebase (d := 166) hs166 ?_
              clear hs11 hs12 hs14 hs15 hs20 hs21 hs22 hs24 hs138 hs139 hs140 hs164 hs165 hs166
              have hcjl := hcj.len
              refine c_seq ?_
              refine c_region ?_
              refine l_val (v := .bool (decide (((j : Nat) : Int) < ((zs103.length : Nat) : Int)))) rfl rfl rfl (e_lss (a := ((j : Nat) : Int)) (b := ((zs103.length : Nat) : Int)) rfl rfl) ?_
              refine l_nil ?_
              refine f_then ?_
              refine c_seq ?_
              refine c_if (((j : Nat) : Int) < ((zs103.length : Nat) : Int)) rfl (fun hc107 => ?_) (fun hc107 => ?_)
              ·
                refine c_skip ?_
                refine f_then ?_
                refine c_seq ?_
                refine c_block ?_
                refine c_seq ?_
                refine c_region ?_
                obtain ⟨x108, hx109⟩ : ∃ x_, (zs103)[j]? = some x_ := ⟨_, List.getElem?_eq_getElem (by omega)⟩
                obtain ⟨ha110, cs111, hc112, rfl⟩ := ze106 _ _ hx109
                refine l_val (v := .pointer (some ((ba (adv p2 c3 (k + 1) 9)).add (j * 9)))) rfl rfl rfl (e_indexAddr (k := j) (len := zs103.length) (cap := (c3 - (k + 1))) (a := (adv p2 c3 (k + 1) 9)) rfl rfl tf16 (by omega) ha110) ?_
                refine l_val (v := .agg (bC x108)) rfl rfl rfl (e_load tf1 (cs := (bodyE x108)) rfl (Knows.of_base (Cs.mono _ _) hc112) rfl) ?_
                refine l_mv rfl rfl rfl (m_alloc tf17) ?_
                rintro _ _ ⟨b114, rfl, rfl⟩
                refine l_mu rfl rfl (m_store 0 tf1 (b := b114) (o := 0) (T := 39) (cs := #[.int .i64 (0), .int .i64 (0), .int .i64 (0), .int .i64 (0), .int .i64 (0), .int .i64 (0), .int .i64 (0), .bool false, .bool false]) (cs' := (bC x108)) (v := .agg (bC x108)) rfl rfl rfl rfl rfl rfl rfl) ?_
                refine l_nil ?_
                refine f_then ?_
                refine c_seq ?_
                refine c_seq ?_
                refine c_region ?_
                refine l_val (v := .pointer (some ⟨b114, 8, none⟩)) rfl rfl rfl (e_fieldPt (b := b114) (o := 0) rfl tf18) ?_
                refine l_val (v := .bool (x108.fixed)) rfl rfl rfl (e_load1 tf19 (v := .bool (x108.fixed)) rfl (k_pt 0 (cs := (bC x108)) (vs := [.bool (x108.fixed)]) rfl rfl)) ?_
                refine l_nil ?_
                refine f_then ?_
                refine c_ifb (x108.fixed) rfl (fun hc115 => ?_) (fun hc115 => ?_)
                ·
                  refine c_exit ?_
                  refine f_then_exit ?_
                  refine f_exit ?_
                  refine f_then ?_
                  refine c_region ?_
                  refine l_val (v := Nx (j + 1)) rfl rfl rfl (e_add (a := ((j : Nat) : Int)) (b := (1 : Int)) rfl rfl (i64n (by omega) (by omega))) ?_
                  refine l_val (v := Nx (j + 1)) rfl rfl rfl (e_move) ?_
                  refine l_nil ?_
                  refine f_mask (L' := [pt b100 (.cells (bC x94) 39), rowF IntF 3 (some ⟨b92, 0, none⟩) xl.length in1, rowF BoolF 4 (some ⟨b91, 0, none⟩) xl.length cj, pt b6 (.cells #[.slice p2 (bs.length) (c3), .slice q4 (R.length) (d5), Ix (gX), Ix (gY)] 32), pt b1 (.cells #[.int .u16 (((bits : Nat)) : Int)] 25)]) [false, true, true, true, true, true] rfl ?_
                  exact f_cut ⟨(j + 1, cj), ⟨⟨rfl, rfl, rfl, rfl, rfl, rfl, rfl, rfl, rfl, rfl, rfl, rfl, rfl, rfl⟩, rfl, ⟨by omega, by show CrP bs R gX gY bits _ (fi bs k) (fi bs (k + 1 + j + 1)); rw [fi_no (drop_at hz104 hx109) (by simpa using hc115)]; exact hcj⟩⟩, (show zs103.length - (j + 1) < zs103.length - j from by omega)⟩
                ·
                  refine c_skip ?_
                  refine f_then ?_
                  refine c_seq ?_
                  have hyb := drop_at hz104 hx109
                  have hg0 : x108.fixed = false := (by simpa using hc115)
                  obtain ⟨ib, cb, hcb, hmb, hpb, hibl⟩ := place_body hmP hX hyb hg0
                  have hsy := sd_body (bits := bits) hyb hg0
                  have hidy := hmP.bodies.1 _ x108 hyb
                  refine c_quiet (by kernel_rfl) (by kernel_rfl) ?_
                  refine q_val (v := .agg (bC x94)) rfl rfl rfl (e_load tf1 (cs := (bodyE x94)) rfl (k_pt 1 (cs := (bC x94)) (vs := (bodyE x94)) rfl rfl) rfl) ?_
                  refine q_val (v := .pointer (some ⟨b6, 2, none⟩)) rfl rfl rfl (e_fieldPt (b := b6) (o := 0) rfl tf40) ?_
                  refine q_val (v := .agg #[Ix (gX), Ix (gY)]) rfl rfl rfl (e_load tf5 (cs := [Ix (gX), Ix (gY)]) rfl (k_pt 4 (cs := #[.slice p2 (bs.length) (c3), .slice q4 (R.length) (d5), Ix (gX), Ix (gY)]) (vs := [Ix (gX), Ix (gY)]) rfl rfl) rfl) ?_
                  refine q_call (v := .agg (aC (reachA x94 gX gY))) rfl rfl rfl (cl_value (fst := []) (cap := []) (vs := [.agg (bC x94), .agg #[Ix (gX), Ix (gY)]]) (all := [.agg (bC x94), .agg #[Ix (gX), Ix (gY)]]) tf41 rfl rfl rfl) (fun w hw => ?_) ?_
                  · obtain ⟨β1, sb, kn, hw1, back⟩ := St.frame_all hw
                    exact (reachA_ok β1 w hw1 x94 gX gY (by omega) (by omega)).mono (fun e w' ⟨he, hw'⟩ => ⟨he, st_mask [true, true, true, true, true, true] rfl (back _ _ hw')⟩)
                  refine q_val (v := .agg (bC x108)) rfl rfl rfl (e_load tf1 (cs := (bodyE x108)) rfl (k_pt 0 (cs := (bC x108)) (vs := (bodyE x108)) rfl rfl) rfl) ?_
                  refine q_val (v := .pointer (some ⟨b6, 2, none⟩)) rfl rfl rfl (e_fieldPt (b := b6) (o := 0) rfl tf40) ?_
                  refine q_val (v := .agg #[Ix (gX), Ix (gY)]) rfl rfl rfl (e_load tf5 (cs := [Ix (gX), Ix (gY)]) rfl (k_pt 4 (cs := #[.slice p2 (bs.length) (c3), .slice q4 (R.length) (d5), Ix (gX), Ix (gY)]) (vs := [Ix (gX), Ix (gY)]) rfl rfl) rfl) ?_
                  refine q_call (v := .agg (aC (reachA x108 gX gY))) rfl rfl rfl (cl_value (fst := []) (cap := []) (vs := [.agg (bC x108), .agg #[Ix (gX), Ix (gY)]]) (all := [.agg (bC x108), .agg #[Ix (gX), Ix (gY)]]) tf41 rfl rfl rfl) (fun w hw => ?_) ?_
                  · obtain ⟨β1, sb, kn, hw1, back⟩ := St.frame_all hw
                    exact (reachA_ok β1 w hw1 x108 gX gY (by omega) (by omega)).mono (fun e w' ⟨he, hw'⟩ => ⟨he, st_mask [true, true, true, true, true, true] rfl (back _ _ hw')⟩)
                  refine q_call (v := .bool (decide (touchA (reachA x94 gX gY) (reachA x108 gX gY)))) rfl rfl rfl (cl_value (fst := []) (cap := []) (vs := [.agg (aC (reachA x94 gX gY)), .agg (aC (reachA x108 gX gY))]) (all := [.agg (aC (reachA x94 gX gY)), .agg (aC (reachA x108 gX gY))]) tf93 rfl rfl rfl) (fun w hw => ?_) ?_
                  · obtain ⟨β1, sb, kn, hw1, back⟩ := St.frame_all hw
                    exact (meets_ok β1 w hw1 (reachA x94 gX gY) (reachA x108 gX gY)).mono (fun e w' ⟨he, hw'⟩ => ⟨he, st_mask [true, true, true, true, true, true] rfl (back _ _ hw')⟩)
                  refine q_val (v := .bool (decide (touchA (reachA x94 gX gY) (reachA x108 gX gY)))) rfl rfl rfl (e_assign) ?_
                  refine q_nil ?_
                  refine f_then ?_
                  refine c_seq ?_
                  refine c_seq ?_
                  refine c_region ?_
                  refine l_val (v := .pointer (some ⟨b6, 1, none⟩)) rfl rfl rfl (e_fieldPt (b := b6) (o := 0) rfl tf52) ?_
                  refine l_val (v := .slice q4 (R.length) (d5)) rfl rfl rfl (e_load1 tf53 (v := .slice q4 (R.length) (d5)) rfl (k_pt 4 (cs := #[.slice p2 (bs.length) (c3), .slice q4 (R.length) (d5), Ix (gX), Ix (gY)]) (vs := [.slice q4 (R.length) (d5)]) rfl rfl)) ?_
                  refine l_val (v := Nx (R.length)) rfl rfl rfl (e_len (a := q4) (n := R.length) (c := d5) rfl tf54) ?_
                  refine l_val (v := .int .i64 (0)) rfl rfl rfl (e_move) ?_
                  refine l_nil ?_
                  refine f_then ?_
                  refine c_block ?_
                  refine c_loop (fun (x_ : Nat × Bool) (f : Fm) (L : List Res) => match x_ with | (r, lb) => (f 11 = .pointer (some ⟨b6, 0, none⟩) ∧ f 12 = .slice p7 (xl.length) (c8) ∧ f 14 = Nx (nf) ∧ f 15 = Nx (nt) ∧ f 20 = .slice (some ⟨b91, 0, none⟩) (xl.length) xl.length ∧ f 21 = .slice (some ⟨b92, 0, none⟩) (xl.length) xl.length ∧ f 22 = .func (.func 13) #[] #[.pointer (some ⟨b1, 0, none⟩)] ∧ f 24 = .pointer (some ⟨b100, 0, none⟩) ∧ f 26 = .pointer (some ⟨b114, 0, none⟩) ∧ f 27 = .bool (lb) ∧ f 138 = .slice p2 (bs.length) (c3) ∧ f 139 = Nx (bs.length) ∧ f 140 = Nx (k) ∧ f 164 = .slice (adv p2 c3 (k + 1) 9) (zs103.length) ((c3 - (k + 1))) ∧ f 165 = Nx (zs103.length) ∧ f 166 = Nx (j) ∧ f 182 = .slice q4 (R.length) (d5) ∧ f 183 = Nx (R.length) ∧ f 184 = Nx (r)) ∧ L = [pt b114 (.cells (bC x108) 39), pt b100 (.cells (bC x94) 39), rowF IntF 3 (some ⟨b92, 0, none⟩) xl.length in1, rowF BoolF 4 (some ⟨b91, 0, none⟩) xl.length cj, pt b6 (.cells #[.slice p2 (bs.length) (c3), .slice q4 (R.length) (d5), Ix (gX), Ix (gY)] 32), pt b1 (.cells #[.int .u16 (((bits : Nat)) : Int)] 25)] ∧ (r ≤ R.length ∧ lb = lkB x94 x108 gX gY R r)) (fun (x_ : Nat × Bool) => match x_ with | (r, lb) => R.length - r) (0, (decide (touchA (reachA x94 gX gY) (reachA x108 gX gY)))) ?_ ?_
                  · exact ⟨⟨rfl, rfl, rfl, rfl, rfl, rfl, rfl, rfl, rfl, rfl, rfl, rfl, rfl, rfl, rfl, rfl, rfl, rfl, rfl⟩, rfl, ⟨by omega, (lk_zero _ _ _ _ _).symm⟩⟩
                  rintro ⟨r, lb⟩ f0 L0 ⟨⟨hs11, hs12, hs14, hs15, hs20, hs21, hs22, hs24, hs26, hs27, hs138, hs139, hs140, hs164, hs165, hs166, hs182, hs183, hs184⟩, hL, ⟨hr, hlb⟩⟩
                  subst L0
                  refine rebase (d := 11) hs11 ?_
                  refine rebase (d := 12) hs12 ?_
                  refine rebase (d := 14) hs14 ?_
                  refine rebase (d := 15) hs15 ?_
                  refine rebase (d := 20) hs20 ?_
                  refine rebase (d := 21) hs21 ?_
                  refine rebase (d := 22) hs22 ?_
                  refine rebase (d := 24) hs24 ?_
                  refine rebase (d := 26) hs26 ?_
                  refine rebase (d := 27) hs27 ?_
                  refine rebase (d := 138) hs138 ?_
                  refine rebase (d := 139) hs139 ?_
                  refine rebase (d := 140) hs140 ?_
                  refine rebase (d := 164) hs164 ?_
                  refine rebase (d := 165) hs165 ?_
                  refine rebase (d := 166) hs166 ?_
                  refine rebase (d := 182) hs182 ?_
                  refine rebase (d := 183) hs183 ?_
                  refine rebase (d := 184) hs184 ?_
                  clear hs11 hs12 hs14 hs15 hs20 hs21 hs22 hs24 hs26 hs27 hs138 hs139 hs140 hs164 hs165 hs166 hs182 hs183 hs184
                  refine c_seq ?_
                  refine c_region ?_
                  refine l_val (v := .bool (decide (((r : Nat) : Int) < ((R.length : Nat) : Int)))) rfl rfl rfl (e_lss (a := ((r : Nat) : Int)) (b := ((R.length : Nat) : Int)) rfl rfl) ?_
                  refine l_nil ?_
                  refine f_then ?_
                  refine c_seq ?_
                  refine c_if (((r : Nat) : Int) < ((R.length : Nat) : Int)) rfl (fun hc116 => ?_) (fun hc116 => ?_)
                  ·
                    refine c_skip ?_
                    refine f_then ?_
                    refine c_seq ?_
                    refine c_block ?_
                    refine c_seq ?_
                    refine c_region ?_
                    obtain ⟨x117, hx118⟩ : ∃ x_, (R)[r]? = some x_ := ⟨_, List.getElem?_eq_getElem (by omega)⟩
                    obtain ⟨ha119, cs120, hc121, rfl⟩ := heR _ _ hx118
                    refine l_val (v := .pointer (some ((ba q4).add (r * 3)))) rfl rfl rfl (e_indexAddr (k := r) (len := R.length) (cap := d5) (a := q4) rfl rfl tf55 (by omega) ha119) ?_
                    refine l_val (v := .agg #[Ix (x117.a), Ix (x117.b), Ix (x117.len)]) rfl rfl rfl (e_load tf56 (cs := [Ix (x117.a), Ix (x117.b), Ix (x117.len)]) rfl (Knows.of_base (Cs.mono _ _) hc121) rfl) ?_
                    refine l_mv rfl rfl rfl (m_alloc tf57) ?_
                    rintro _ _ ⟨b123, rfl, rfl⟩
                    refine l_mu rfl rfl (m_store 0 tf56 (b := b123) (o := 0) (T := 49) (cs := #[.int .i64 (0), .int .i64 (0), .int .i64 (0)]) (cs' := #[Ix (x117.a), Ix (x117.b), Ix (x117.len)]) (v := .agg #[Ix (x117.a), Ix (x117.b), Ix (x117.len)]) rfl rfl rfl rfl rfl rfl rfl) ?_
                    refine l_nil ?_
                    refine f_then ?_
                    refine c_region ?_
                    refine l_val (v := .bool (lb)) rfl rfl rfl (e_move) ?_
                    refine l_val (v := .bool (lb)) rfl rfl rfl (e_move) ?_
                    refine l_splitb (s := 189) (b := lb) rfl (fun hg124 => ?_) (fun hg124 => ?_)
                    ·
                      refine l_skip rfl rfl rfl rfl rfl rfl ?_
                      refine l_skip rfl rfl rfl rfl rfl rfl ?_
                      refine l_skip rfl rfl rfl rfl rfl rfl ?_
                      refine l_skip rfl rfl rfl rfl rfl rfl ?_
                      refine l_skip rfl rfl rfl rfl rfl rfl ?_
                      refine l_skip rfl rfl rfl rfl rfl rfl ?_
                      refine l_skip_u rfl rfl rfl rfl rfl ?_
                      refine l_skip_u rfl rfl rfl rfl rfl ?_
                      refine l_skip_u rfl rfl rfl rfl rfl ?_
                      refine l_skip_u rfl rfl rfl rfl rfl ?_
                      refine l_skip_u rfl rfl rfl rfl rfl ?_
                      refine l_skip rfl rfl rfl rfl rfl rfl ?_
                      refine l_val (v := .bool true) rfl rfl rfl (e_pick_t rfl) ?_
                      refine l_val (v := .bool true) rfl rfl rfl (e_assign) ?_
                      refine l_nil ?_
                      refine f_block ?_
                      refine f_then ?_
                      refine c_region ?_
                      refine l_val (v := Nx (r + 1)) rfl rfl rfl (e_add (a := ((r : Nat) : Int)) (b := (1 : Int)) rfl rfl (i64n (by omega) (by omega))) ?_
                      refine l_val (v := Nx (r + 1)) rfl rfl rfl (e_move) ?_
                      refine l_nil ?_
                      refine f_mask (L' := [pt b114 (.cells (bC x108) 39), pt b100 (.cells (bC x94) 39), rowF IntF 3 (some ⟨b92, 0, none⟩) xl.length in1, rowF BoolF 4 (some ⟨b91, 0, none⟩) xl.length cj, pt b6 (.cells #[.slice p2 (bs.length) (c3), .slice q4 (R.length) (d5), Ix (gX), Ix (gY)] 32), pt b1 (.cells #[.int .u16 (((bits : Nat)) : Int)] 25)]) [false, true, true, true, true, true, true] rfl ?_
                      exact f_cut ⟨(r + 1, true), ⟨⟨rfl, rfl, rfl, rfl, rfl, rfl, rfl, rfl, rfl, rfl, rfl, rfl, rfl, rfl, rfl, rfl, rfl, rfl, rfl⟩, rfl, ⟨by omega, by rw [lk_snoc hx118, ← hlb, hg124]; rfl⟩⟩, (show R.length - (r + 1) < R.length - r from by omega)⟩
                    ·
                      refine g_val (v := .pointer (some ⟨b123, 0, none⟩)) rfl rfl rfl rfl rfl (e_fieldPt (b := b123) (o := 0) rfl tf58) ?_
                      refine g_val (v := Ix (x117.a)) rfl rfl rfl rfl rfl (e_load1 tf11 (v := Ix (x117.a)) rfl (k_pt 0 (cs := #[Ix (x117.a), Ix (x117.b), Ix (x117.len)]) (vs := [Ix (x117.a)]) rfl rfl)) ?_
                      refine g_val (v := .pointer (some ⟨b100, 0, none⟩)) rfl rfl rfl rfl rfl (e_fieldPt (b := b100) (o := 0) rfl tf27) ?_
                      refine g_val (v := Ix (x94.id)) rfl rfl rfl rfl rfl (e_load1 tf11 (v := Ix (x94.id)) rfl (k_pt 2 (cs := (bC x94)) (vs := [Ix (x94.id)]) rfl rfl)) ?_
                      refine g_val (v := .bool (decide ((x117.a) = (x94.id)))) rfl rfl rfl rfl rfl (e_eql (a := (x117.a)) (b := (x94.id)) rfl rfl) ?_
                      refine g_val (v := .bool (decide ((x117.a) = (x94.id)))) rfl rfl rfl rfl rfl (e_move) ?_
                      refine l_split (s := 195) (p := (x117.a) = (x94.id)) rfl (fun hg125 => ?_) (fun hg125 => ?_)
                      ·
                        refine g_val (v := .pointer (some ⟨b123, 1, none⟩)) rfl rfl rfl rfl rfl (e_fieldPt (b := b123) (o := 0) rfl tf60) ?_
                        refine g_val (v := Ix (x117.b)) rfl rfl rfl rfl rfl (e_load1 tf11 (v := Ix (x117.b)) rfl (k_pt 0 (cs := #[Ix (x117.a), Ix (x117.b), Ix (x117.len)]) (vs := [Ix (x117.b)]) rfl rfl)) ?_
                        refine g_val (v := .pointer (some ⟨b114, 0, none⟩)) rfl rfl rfl rfl rfl (e_fieldPt (b := b114) (o := 0) rfl tf27) ?_
                        refine g_val (v := Ix (x108.id)) rfl rfl rfl rfl rfl (e_load1 tf11 (v := Ix (x108.id)) rfl (k_pt 1 (cs := (bC x108)) (vs := [Ix (x108.id)]) rfl rfl)) ?_
                        refine g_val (v := .bool (decide ((x117.b) = (x108.id)))) rfl rfl rfl rfl rfl (e_eql (a := (x117.b)) (b := (x108.id)) rfl rfl) ?_
                        refine g_val (v := .bool (decide ((x117.b) = (x108.id)))) rfl rfl rfl rfl rfl (e_pick_t rfl) ?_
                        refine l_val (v := .bool (decide ((x117.b) = (x108.id)))) rfl rfl rfl (e_pick_f rfl) ?_
                        refine l_val (v := .bool (decide ((x117.b) = (x108.id)))) rfl rfl rfl (e_assign) ?_
                        refine l_nil ?_
                        refine f_block ?_
                        refine f_then ?_
                        refine c_region ?_
                        refine l_val (v := Nx (r + 1)) rfl rfl rfl (e_add (a := ((r : Nat) : Int)) (b := (1 : Int)) rfl rfl (i64n (by omega) (by omega))) ?_
                        refine l_val (v := Nx (r + 1)) rfl rfl rfl (e_move) ?_
                        refine l_nil ?_
                        refine f_mask (L' := [pt b114 (.cells (bC x108) 39), pt b100 (.cells (bC x94) 39), rowF IntF 3 (some ⟨b92, 0, none⟩) xl.length in1, rowF BoolF 4 (some ⟨b91, 0, none⟩) xl.length cj, pt b6 (.cells #[.slice p2 (bs.length) (c3), .slice q4 (R.length) (d5), Ix (gX), Ix (gY)] 32), pt b1 (.cells #[.int .u16 (((bits : Nat)) : Int)] 25)]) [false, true, true, true, true, true, true] rfl ?_
                        exact f_cut ⟨(r + 1, (decide ((x117.b) = (x108.id)))), ⟨⟨rfl, rfl, rfl, rfl, rfl, rfl, rfl, rfl, rfl, rfl, rfl, rfl, rfl, rfl, rfl, rfl, rfl, rfl, rfl⟩, rfl, ⟨by omega, by rw [lk_snoc hx118, ← hlb, (show lb = false by simpa using hg124), decide_eq_true hg125]; rfl⟩⟩, (show R.length - (r + 1) < R.length - r from by omega)⟩
                      ·
                        refine l_skip rfl rfl rfl rfl rfl rfl ?_
                        refine l_skip rfl rfl rfl rfl rfl rfl ?_
                        refine l_skip rfl rfl rfl rfl rfl rfl ?_
                        refine l_skip rfl rfl rfl rfl rfl rfl ?_
                        refine l_skip rfl rfl rfl rfl rfl rfl ?_
                        refine g_val (v := .bool false) rfl rfl rfl rfl rfl (e_pick_f rfl) ?_
                        refine l_val (v := .bool false) rfl rfl rfl (e_pick_f rfl) ?_
                        refine l_val (v := .bool false) rfl rfl rfl (e_assign) ?_
                        refine l_nil ?_
                        refine f_block ?_
                        refine f_then ?_
                        refine c_region ?_
                        refine l_val (v := Nx (r + 1)) rfl rfl rfl (e_add (a := ((r : Nat) : Int)) (b := (1 : Int)) rfl rfl (i64n (by omega) (by omega))) ?_
                        refine l_val (v := Nx (r + 1)) rfl rfl rfl (e_move) ?_
                        refine l_nil ?_
                        refine f_mask (L' := [pt b114 (.cells (bC x108) 39), pt b100 (.cells (bC x94) 39), rowF IntF 3 (some ⟨b92, 0, none⟩) xl.length in1, rowF BoolF 4 (some ⟨b91, 0, none⟩) xl.length cj, pt b6 (.cells #[.slice p2 (bs.length) (c3), .slice q4 (R.length) (d5), Ix (gX), Ix (gY)] 32), pt b1 (.cells #[.int .u16 (((bits : Nat)) : Int)] 25)]) [false, true, true, true, true, true, true] rfl ?_
                        exact f_cut ⟨(r + 1, false), ⟨⟨rfl, rfl, rfl, rfl, rfl, rfl, rfl, rfl, rfl, rfl, rfl, rfl, rfl, rfl, rfl, rfl, rfl, rfl, rfl⟩, rfl, ⟨by omega, by rw [lk_snoc hx118, ← hlb, (show lb = false by simpa using hg124), decide_eq_false hg125]; rfl⟩⟩, (show R.length - (r + 1) < R.length - r from by omega)⟩
                  ·
                    refine c_exit ?_
                    refine f_then_exit ?_
                    refine f_then_exit ?_
                    refine f_exit ?_
                    refine f_then ?_
                    refine c_seq ?_
                    refine c_seq ?_
                    have hrR : r = R.length := by omega
                    rw [hrR] at hlb
                    have hlE := lk_iff hmP hx95 hyb hf0 hg0 (by omega)
                    have hEq : lb = true → ia = ib := fun q => place_link hca hcb hma hmb (hlE.1 (hlb.symm.trans q))
                    refine c_quiet (by kernel_rfl) (by kernel_rfl) ?_
                    refine q_val (v := .bool (lb)) rfl rfl rfl (e_move) ?_
                    refine q_val (v := .bool (lb)) rfl rfl rfl (e_move) ?_
                    refine q_splitb (s := 205) (b := lb) rfl (fun hg126 => ?_) (fun hg126 => ?_)
                    ·
                      refine qg_val (v := .slice p7 (xl.length) (c8)) rfl rfl rfl rfl rfl (e_move) ?_
                      refine qg_val (v := .pointer (some ⟨b100, 0, none⟩)) rfl rfl rfl rfl rfl (e_fieldPt (b := b100) (o := 0) rfl tf27) ?_
                      refine qg_val (v := Ix (x94.id)) rfl rfl rfl rfl rfl (e_load1 tf11 (v := Ix (x94.id)) rfl (k_pt 1 (cs := (bC x94)) (vs := [Ix (x94.id)]) rfl rfl)) ?_
                      refine qg_call (v := Nx (ia)) rfl rfl rfl rfl rfl (cl_value (fst := []) (cap := []) (vs := [.slice p7 (xl.length) (c8), Ix (x94.id)]) (all := [.slice p7 (xl.length) (c8), Ix (x94.id)]) tf87 rfl rfl rfl) (fun w hw => ?_) ?_
                      · obtain ⟨β1, sb, kn, hw1, back⟩ := St.frame_all hw
                        exact (placeN_ok β1 w hw1 _ xl (Sl.mono _ _ _ _ _ sb hslX) x94.id ia hpa).mono (fun e w' ⟨he, hw'⟩ => ⟨he, st_mask [true, true, true, true, true, true] rfl (back _ _ hw')⟩)
                      refine qg_val (v := .slice p7 (xl.length) (c8)) rfl rfl rfl rfl rfl (e_move) ?_
                      refine qg_val (v := .pointer (some ⟨b114, 0, none⟩)) rfl rfl rfl rfl rfl (e_fieldPt (b := b114) (o := 0) rfl tf27) ?_
                      refine qg_val (v := Ix (x108.id)) rfl rfl rfl rfl rfl (e_load1 tf11 (v := Ix (x108.id)) rfl (k_pt 0 (cs := (bC x108)) (vs := [Ix (x108.id)]) rfl rfl)) ?_
                      refine qg_call (v := Nx (ib)) rfl rfl rfl rfl rfl (cl_value (fst := []) (cap := []) (vs := [.slice p7 (xl.length) (c8), Ix (x108.id)]) (all := [.slice p7 (xl.length) (c8), Ix (x108.id)]) tf87 rfl rfl rfl) (fun w hw => ?_) ?_
                      · obtain ⟨β1, sb, kn, hw1, back⟩ := St.frame_all hw
                        exact (placeN_ok β1 w hw1 _ xl (Sl.mono _ _ _ _ _ sb hslX) x108.id ib hpb).mono (fun e w' ⟨he, hw'⟩ => ⟨he, st_mask [true, true, true, true, true, true] rfl (back _ _ hw')⟩)
                      refine qg_val (v := .bool (decide (((ia : Nat) : Int) ≠ ((ib : Nat) : Int)))) rfl rfl rfl rfl rfl (e_neq (a := ((ia : Nat) : Int)) (b := ((ib : Nat) : Int)) rfl rfl) ?_
                      refine q_val (v := .bool (decide (((ia : Nat) : Int) ≠ ((ib : Nat) : Int)))) rfl rfl rfl (e_pick_t rfl) ?_
                      refine q_nil ?_
                      refine f_then ?_
                      refine c_if (((ia : Nat) : Int) ≠ ((ib : Nat) : Int)) rfl (fun hc127 => ?_) (fun hc127 => ?_)
                      ·
                        exact absurd hc127 (fun q => q (congrArg _ (hEq hg126)))
                      ·
                        refine c_skip ?_
                        refine f_then ?_
                        refine c_seq ?_
                        refine c_quiet (by kernel_rfl) (by kernel_rfl) ?_
                        refine q_val (v := .bool (lb)) rfl rfl rfl (e_move) ?_
                        refine q_val (v := .bool (lb)) rfl rfl rfl (e_move) ?_
                        refine q_splitb (s := 217) (b := lb) rfl (fun h => ?_) (fun h => ?_)
                        rotate_left; (rw [hg126] at h; cases h)
                        refine qg_val (v := .func (.func 13) #[] #[.pointer (some ⟨b1, 0, none⟩)]) rfl rfl rfl rfl rfl (e_move) ?_
                        refine qg_val (v := .pointer (some ⟨b100, 0, none⟩)) rfl rfl rfl rfl rfl (e_fieldPt (b := b100) (o := 0) rfl tf27) ?_
                        refine qg_val (v := Ix (x94.id)) rfl rfl rfl rfl rfl (e_load1 tf11 (v := Ix (x94.id)) rfl (k_pt 1 (cs := (bC x94)) (vs := [Ix (x94.id)]) rfl rfl)) ?_
                        refine qg_call (v := .bool (sideX bits x94.id)) rfl rfl rfl rfl rfl (cl_value (fst := []) (cap := [.pointer (some ⟨b1, 0, none⟩)]) (vs := [Ix (x94.id)]) (all := [Ix (x94.id), .pointer (some ⟨b1, 0, none⟩)]) tf92 rfl rfl rfl) (fun w hw => ?_) ?_
                        · obtain ⟨β1, sb, kn, hw1, back⟩ := St.frame_all hw
                          exact (sideB_ok β1 w hw1 b1 bits hbits (kn _ (k_pt 5 (o := 0) (cs := #[.int .u16 (((bits : Nat)) : Int)]) (vs := [.int .u16 (((bits : Nat)) : Int)]) rfl rfl)) k (by omega) x94.id hid).mono (fun e w' ⟨he, hw'⟩ => ⟨he, st_mask [true, true, true, true, true, true] rfl (back _ _ hw')⟩)
                        refine qg_val (v := .func (.func 13) #[] #[.pointer (some ⟨b1, 0, none⟩)]) rfl rfl rfl rfl rfl (e_move) ?_
                        refine qg_val (v := .pointer (some ⟨b114, 0, none⟩)) rfl rfl rfl rfl rfl (e_fieldPt (b := b114) (o := 0) rfl tf27) ?_
                        refine qg_val (v := Ix (x108.id)) rfl rfl rfl rfl rfl (e_load1 tf11 (v := Ix (x108.id)) rfl (k_pt 0 (cs := (bC x108)) (vs := [Ix (x108.id)]) rfl rfl)) ?_
                        refine qg_call (v := .bool (sideX bits x108.id)) rfl rfl rfl rfl rfl (cl_value (fst := []) (cap := [.pointer (some ⟨b1, 0, none⟩)]) (vs := [Ix (x108.id)]) (all := [Ix (x108.id), .pointer (some ⟨b1, 0, none⟩)]) tf92 rfl rfl rfl) (fun w hw => ?_) ?_
                        · obtain ⟨β1, sb, kn, hw1, back⟩ := St.frame_all hw
                          exact (sideB_ok β1 w hw1 b1 bits hbits (kn _ (k_pt 5 (o := 0) (cs := #[.int .u16 (((bits : Nat)) : Int)]) (vs := [.int .u16 (((bits : Nat)) : Int)]) rfl rfl)) (k + 1 + j) (by omega) x108.id hidy).mono (fun e w' ⟨he, hw'⟩ => ⟨he, st_mask [true, true, true, true, true, true] rfl (back _ _ hw')⟩)
                        refine qg_val (v := .bool (!((sideX bits x94.id) == (sideX bits x108.id)))) rfl rfl rfl rfl rfl (e_neq_b (a := sideX bits x94.id) (b := sideX bits x108.id) rfl rfl tf88) ?_
                        refine q_val (v := .bool (!((sideX bits x94.id) == (sideX bits x108.id)))) rfl rfl rfl (e_pick_t rfl) ?_
                        refine q_nil ?_
                        refine f_then ?_
                        refine c_ifb (!((sideX bits x94.id) == (sideX bits x108.id))) rfl (fun hc128 => ?_) (fun hc128 => ?_)
                        ·
                          refine c_region ?_
                          refine l_val (v := .slice (some ⟨b91, 0, none⟩) (xl.length) xl.length) rfl rfl rfl (e_move) ?_
                          refine l_val (v := .slice p7 (xl.length) (c8)) rfl rfl rfl (e_move) ?_
                          refine l_val (v := .pointer (some ⟨b100, 0, none⟩)) rfl rfl rfl (e_fieldPt (b := b100) (o := 0) rfl tf27) ?_
                          refine l_val (v := Ix (x94.id)) rfl rfl rfl (e_load1 tf11 (v := Ix (x94.id)) rfl (k_pt 1 (cs := (bC x94)) (vs := [Ix (x94.id)]) rfl rfl)) ?_
                          refine l_call rfl rfl rfl (cl_value (fst := []) (cap := []) (vs := [.slice p7 (xl.length) (c8), Ix (x94.id)]) (all := [.slice p7 (xl.length) (c8), Ix (x94.id)]) tf87 rfl rfl rfl) ?_
                          intro w hw
                          obtain ⟨β1, sb, kn, hw1, back⟩ := St.frame_all hw
                          refine (placeN_ok β1 w hw1 _ xl (Sl.mono _ _ _ _ _ sb hslX) x94.id ia hpa).mono ?_
                          rintro e w' ⟨rfl, hw'⟩
                          refine ⟨_, rfl, _, back _ _ hw', ?_⟩
                          clear hw hw1 hw' back kn sb
                          refine l_val (v := .pointer (some ((ba (some ⟨b91, 0, none⟩)).add (ia * 1)))) rfl rfl rfl (e_indexFlN 3 (F := BoolF) (j := ia) (m := xl.length) (xs := cj) rfl (by omega) rfl tf89 (by omega) rfl) ?_
                          refine l_mu rfl rfl (m_storeFl 3 (F := BoolF) (p := (some ⟨b91, 0, none⟩)) (k := ia) (xs := cj) (z := true) tf19 rfl rfl rfl rfl (by omega)) ?_
                          refine l_nil ?_
                          refine f_block ?_
                          refine f_then ?_
                          refine c_region ?_
                          refine l_val (v := Nx (j + 1)) rfl rfl rfl (e_add (a := ((j : Nat) : Int)) (b := (1 : Int)) rfl rfl (i64n (by omega) (by omega))) ?_
                          refine l_val (v := Nx (j + 1)) rfl rfl rfl (e_move) ?_
                          refine l_nil ?_
                          refine f_mask (L' := [pt b100 (.cells (bC x94) 39), rowF IntF 3 (some ⟨b92, 0, none⟩) xl.length in1, rowF BoolF 4 (some ⟨b91, 0, none⟩) xl.length (cj.set ia true), pt b6 (.cells #[.slice p2 (bs.length) (c3), .slice q4 (R.length) (d5), Ix (gX), Ix (gY)] 32), pt b1 (.cells #[.int .u16 (((bits : Nat)) : Int)] 25)]) [false, true, true, true, true, true] rfl ?_
                          exact f_cut ⟨(j + 1, (cj.set ia true)), ⟨⟨rfl, rfl, rfl, rfl, rfl, rfl, rfl, rfl, rfl, rfl, rfl, rfl, rfl, rfl⟩, rfl, ⟨by omega, by show CrP bs R gX gY bits _ (fi bs k) (fi bs (k + 1 + j + 1)); rw [fi_yes hyb (by simpa using hc115)]; exact cr_yes hcj hca hma⟩⟩, (show zs103.length - (j + 1) < zs103.length - j from by omega)⟩
                        ·
                          refine c_skip ?_
                          refine f_block ?_
                          refine f_then ?_
                          refine c_region ?_
                          refine l_val (v := Nx (j + 1)) rfl rfl rfl (e_add (a := ((j : Nat) : Int)) (b := (1 : Int)) rfl rfl (i64n (by omega) (by omega))) ?_
                          refine l_val (v := Nx (j + 1)) rfl rfl rfl (e_move) ?_
                          refine l_nil ?_
                          refine f_mask (L' := [pt b100 (.cells (bC x94) 39), rowF IntF 3 (some ⟨b92, 0, none⟩) xl.length in1, rowF BoolF 4 (some ⟨b91, 0, none⟩) xl.length cj, pt b6 (.cells #[.slice p2 (bs.length) (c3), .slice q4 (R.length) (d5), Ix (gX), Ix (gY)] 32), pt b1 (.cells #[.int .u16 (((bits : Nat)) : Int)] 25)]) [false, true, true, true, true, true] rfl ?_
                          exact f_cut ⟨(j + 1, cj), ⟨⟨rfl, rfl, rfl, rfl, rfl, rfl, rfl, rfl, rfl, rfl, rfl, rfl, rfl, rfl⟩, rfl, ⟨by omega, by show CrP bs R gX gY bits _ (fi bs k) (fi bs (k + 1 + j + 1)); rw [fi_yes hyb (by simpa using hc115)]; exact cr_no hcj (fun _ => hsd.trans ((by simpa using hc128 : sideX bits x94.id = sideX bits x108.id).trans hsy.symm))⟩⟩, (show zs103.length - (j + 1) < zs103.length - j from by omega)⟩
                    ·
                      refine q_skip rfl rfl rfl rfl rfl rfl ?_
                      refine q_skip rfl rfl rfl rfl rfl rfl ?_
                      refine q_skip rfl rfl rfl rfl rfl rfl ?_
                      refine q_skip rfl rfl rfl rfl rfl rfl ?_
                      refine q_skip rfl rfl rfl rfl rfl rfl ?_
                      refine q_skip rfl rfl rfl rfl rfl rfl ?_
                      refine q_skip rfl rfl rfl rfl rfl rfl ?_
                      refine q_skip rfl rfl rfl rfl rfl rfl ?_
                      refine q_skip rfl rfl rfl rfl rfl rfl ?_
                      refine q_val (v := .bool false) rfl rfl rfl (e_pick_f rfl) ?_
                      refine q_nil ?_
                      refine f_then ?_
                      refine c_no rfl ?_
                      refine c_skip ?_
                      refine f_then ?_
                      refine c_seq ?_
                      refine c_quiet (by kernel_rfl) (by kernel_rfl) ?_
                      refine q_val (v := .bool (lb)) rfl rfl rfl (e_move) ?_
                      refine q_val (v := .bool (lb)) rfl rfl rfl (e_move) ?_
                      refine q_splitb (s := 217) (b := lb) rfl (fun h => ?_) (fun h => ?_)
                      (rw [hg126] at h; cases h)
                      refine q_skip rfl rfl rfl rfl rfl rfl ?_
                      refine q_skip rfl rfl rfl rfl rfl rfl ?_
                      refine q_skip rfl rfl rfl rfl rfl rfl ?_
                      refine q_skip rfl rfl rfl rfl rfl rfl ?_
                      refine q_skip rfl rfl rfl rfl rfl rfl ?_
                      refine q_skip rfl rfl rfl rfl rfl rfl ?_
                      refine q_skip rfl rfl rfl rfl rfl rfl ?_
                      refine q_skip rfl rfl rfl rfl rfl rfl ?_
                      refine q_skip rfl rfl rfl rfl rfl rfl ?_
                      refine q_val (v := .bool false) rfl rfl rfl (e_pick_f rfl) ?_
                      refine q_nil ?_
                      refine f_then ?_
                      refine c_no rfl ?_
                      refine c_skip ?_
                      refine f_block ?_
                      refine f_then ?_
                      refine c_region ?_
                      refine l_val (v := Nx (j + 1)) rfl rfl rfl (e_add (a := ((j : Nat) : Int)) (b := (1 : Int)) rfl rfl (i64n (by omega) (by omega))) ?_
                      refine l_val (v := Nx (j + 1)) rfl rfl rfl (e_move) ?_
                      refine l_nil ?_
                      refine f_mask (L' := [pt b100 (.cells (bC x94) 39), rowF IntF 3 (some ⟨b92, 0, none⟩) xl.length in1, rowF BoolF 4 (some ⟨b91, 0, none⟩) xl.length cj, pt b6 (.cells #[.slice p2 (bs.length) (c3), .slice q4 (R.length) (d5), Ix (gX), Ix (gY)] 32), pt b1 (.cells #[.int .u16 (((bits : Nat)) : Int)] 25)]) [false, true, true, true, true, true] rfl ?_
                      exact f_cut ⟨(j + 1, cj), ⟨⟨rfl, rfl, rfl, rfl, rfl, rfl, rfl, rfl, rfl, rfl, rfl, rfl, rfl, rfl⟩, rfl, ⟨by omega, by show CrP bs R gX gY bits _ (fi bs k) (fi bs (k + 1 + j + 1)); rw [fi_yes hyb (by simpa using hc115)]; exact cr_no hcj (fun q => by have := hlE.2 q; rw [← hlb, (show lb = false by simpa using hg126)] at this; cases this)⟩⟩, (show zs103.length - (j + 1) < zs103.length - j from by omega)⟩
              ·
                refine c_exit ?_
                refine f_then_exit ?_
                refine f_then_exit ?_
                refine f_exit ?_
                refine f_block ?_
                refine f_then ?_
                refine c_region ?_
                refine l_val (v := Nx (k + 1)) rfl rfl rfl (e_add (a := ((k : Nat) : Int)) (b := (1 : Int)) rfl rfl (i64n (by omega) (by omega))) ?_
                refine l_val (v := Nx (k + 1)) rfl rfl rfl (e_move) ?_
                refine l_nil ?_
                refine f_mask (L' := [rowF IntF 3 (some ⟨b92, 0, none⟩) xl.length in1, rowF BoolF 4 (some ⟨b91, 0, none⟩) xl.length cj, pt b6 (.cells #[.slice p2 (bs.length) (c3), .slice q4 (R.length) (d5), Ix (gX), Ix (gY)] 32), pt b1 (.cells #[.int .u16 (((bits : Nat)) : Int)] 25)]) [false, true, true, true, true] rfl ?_
                exact f_cut ⟨(k + 1, cj, in1), ⟨⟨rfl, rfl, rfl, rfl, rfl, rfl, rfl, rfl, rfl, rfl⟩, rfl, ⟨by omega, hin1, by rw [fi_yes hx95 hf0]; exact cr_last (by rw [← fi_all (bs := bs) (k := k + 1 + j) (by omega)]; exact hcj)⟩⟩, (show bs.length - (k + 1) < bs.length - k from by omega)⟩
            ·
              refine c_skip ?_
              refine f_then ?_
              refine c_seq ?_
              have hin1 : InnP bs R gX gY bits inn (fi bs (k + 1)) := by rw [fi_yes hx95 hf0]; exact inn_no hin (hsd.trans (by simpa using hc102))
              obtain ⟨in1, hq1⟩ : ∃ z, z = inn := ⟨_, rfl⟩
              rw [← hq1] at hin1
              rw [← hq1]
              have hil1 := hin1.len
              refine c_region ?_
              refine l_val (v := .pointer (some ⟨b6, 0, none⟩)) rfl rfl rfl (e_fieldPt (b := b6) (o := 0) rfl tf33) ?_
              refine l_val (v := .slice p2 (bs.length) (c3)) rfl rfl rfl (e_load1 tf26 (v := .slice p2 (bs.length) (c3)) rfl (k_pt 3 (cs := #[.slice p2 (bs.length) (c3), .slice q4 (R.length) (d5), Ix (gX), Ix (gY)]) (vs := [.slice p2 (bs.length) (c3)]) rfl rfl)) ?_
              refine l_val (v := Nx (k)) rfl rfl rfl (e_move) ?_
              refine l_val (v := Nx (k + 1)) rfl rfl rfl (e_add (a := ((k : Nat) : Int)) (b := (1 : Int)) rfl rfl (i64n (by omega) (by omega))) ?_
              obtain ⟨zs129, hz130⟩ : ∃ zs, zs = (bs.drop (k + 1)) := ⟨_, rfl⟩
              have zl131 : zs129.length = (bs).length - (k + 1) := by rw [hz130]; simp; try omega
              have ze132 := (Elems.drop (cap := c3) (k + 1) (by first | omega | (simp; omega)) heB)
              rw [← hz130] at ze132
              refine l_val (v := .slice (adv p2 c3 (k + 1) 9) (zs129.length) ((c3 - (k + 1)))) rfl rfl rfl (ev_eq (by rw [show zs129.length = bs.length - (k + 1) by omega]) (e_slice_lo (a := p2) (len := bs.length) (cap := c3) (l := k + 1) tf16 rfl rfl (by omega))) ?_
              refine l_val (v := Nx (zs129.length)) rfl rfl rfl (e_len (a := (adv p2 c3 (k + 1) 9)) (n := zs129.length) (c := (c3 - (k + 1))) rfl tf15) ?_
              refine l_val (v := .int .i64 (0)) rfl rfl rfl (e_move) ?_
              refine l_nil ?_
              refine f_then ?_
              refine c_block ?_
              refine c_loop (fun (x_ : Nat × List Bool) (f : Fm) (L : List Res) => match x_ with | (j, cj) => (f 11 = .pointer (some ⟨b6, 0, none⟩) ∧ f 12 = .slice p7 (xl.length) (c8) ∧ f 14 = Nx (nf) ∧ f 15 = Nx (nt) ∧ f 20 = .slice (some ⟨b91, 0, none⟩) (xl.length) xl.length ∧ f 21 = .slice (some ⟨b92, 0, none⟩) (xl.length) xl.length ∧ f 22 = .func (.func 13) #[] #[.pointer (some ⟨b1, 0, none⟩)] ∧ f 24 = .pointer (some ⟨b100, 0, none⟩) ∧ f 138 = .slice p2 (bs.length) (c3) ∧ f 139 = Nx (bs.length) ∧ f 140 = Nx (k) ∧ f 164 = .slice (adv p2 c3 (k + 1) 9) (zs129.length) ((c3 - (k + 1))) ∧ f 165 = Nx (zs129.length) ∧ f 166 = Nx (j)) ∧ L = [pt b100 (.cells (bC x94) 39), rowF IntF 3 (some ⟨b92, 0, none⟩) xl.length in1, rowF BoolF 4 (some ⟨b91, 0, none⟩) xl.length cj, pt b6 (.cells #[.slice p2 (bs.length) (c3), .slice q4 (R.length) (d5), Ix (gX), Ix (gY)] 32), pt b1 (.cells #[.int .u16 (((bits : Nat)) : Int)] 25)] ∧ (j ≤ zs129.length ∧ CrP bs R gX gY bits cj (fi bs k) (fi bs (k + 1 + j)))) (fun (x_ : Nat × List Bool) => match x_ with | (j, cj) => zs129.length - j) (0, cr) ?_ ?_
              · exact ⟨⟨rfl, rfl, rfl, rfl, rfl, rfl, rfl, rfl, rfl, rfl, rfl, rfl, rfl, rfl⟩, rfl, ⟨by omega, by rw [Nat.add_zero, fi_yes hx95 hf0]; exact cr_first hcr⟩⟩
              rintro ⟨j, cj⟩ f0 L0 ⟨⟨hs11, hs12, hs14, hs15, hs20, hs21, hs22, hs24, hs138, hs139, hs140, hs164, hs165, hs166⟩, hL, ⟨hj, hcj⟩⟩
              subst L0
              refine rebase (d := 11) hs11 ?_
              refine rebase (d := 12) hs12 ?_
              refine rebase (d := 14) hs14 ?_
              refine rebase (d := 15) hs15 ?_
              refine rebase (d := 20) hs20 ?_
              refine rebase (d := 21) hs21 ?_
              refine rebase (d := 22) hs22 ?_
              refine rebase (d := 24) hs24 ?_
              refine rebase (d := 138) hs138 ?_
              refine rebase (d := 139) hs139 ?_
              refine rebase (d := 140) hs140 ?_
              refine rebase (d := 164) hs164 ?_
              refine rebase (d := 165) hs165 ?_
              refine rebase (d := 166) hs166 ?_
              clear hs11 hs12 hs14 hs15 hs20 hs21 hs22 hs24 hs138 hs139 hs140 hs164 hs165 hs166
              have hcjl := hcj.len
              refine c_seq ?_
              refine c_region ?_
              refine l_val (v := .bool (decide (((j : Nat) : Int) < ((zs129.length : Nat) : Int)))) rfl rfl rfl (e_lss (a := ((j : Nat) : Int)) (b := ((zs129.length : Nat) : Int)) rfl rfl) ?_
              refine l_nil ?_
              refine f_then ?_
              refine c_seq ?_
              refine c_if (((j : Nat) : Int) < ((zs129.length : Nat) : Int)) rfl (fun hc133 => ?_) (fun hc133 => ?_)
              ·
                refine c_skip ?_
                refine f_then ?_
                refine c_seq ?_
                refine c_block ?_
                refine c_seq ?_
                refine c_region ?_
                obtain ⟨x134, hx135⟩ : ∃ x_, (zs129)[j]? = some x_ := ⟨_, List.getElem?_eq_getElem (by omega)⟩
                obtain ⟨ha136, cs137, hc138, rfl⟩ := ze132 _ _ hx135
                refine l_val (v := .pointer (some ((ba (adv p2 c3 (k + 1) 9)).add (j * 9)))) rfl rfl rfl (e_indexAddr (k := j) (len := zs129.length) (cap := (c3 - (k + 1))) (a := (adv p2 c3 (k + 1) 9)) rfl rfl tf16 (by omega) ha136) ?_
                refine l_val (v := .agg (bC x134)) rfl rfl rfl (e_load tf1 (cs := (bodyE x134)) rfl (Knows.of_base (Cs.mono _ _) hc138) rfl) ?_
                refine l_mv rfl rfl rfl (m_alloc tf17) ?_
                rintro _ _ ⟨b140, rfl, rfl⟩
                refine l_mu rfl rfl (m_store 0 tf1 (b := b140) (o := 0) (T := 39) (cs := #[.int .i64 (0), .int .i64 (0), .int .i64 (0), .int .i64 (0), .int .i64 (0), .int .i64 (0), .int .i64 (0), .bool false, .bool false]) (cs' := (bC x134)) (v := .agg (bC x134)) rfl rfl rfl rfl rfl rfl rfl) ?_
                refine l_nil ?_
                refine f_then ?_
                refine c_seq ?_
                refine c_seq ?_
                refine c_region ?_
                refine l_val (v := .pointer (some ⟨b140, 8, none⟩)) rfl rfl rfl (e_fieldPt (b := b140) (o := 0) rfl tf18) ?_
                refine l_val (v := .bool (x134.fixed)) rfl rfl rfl (e_load1 tf19 (v := .bool (x134.fixed)) rfl (k_pt 0 (cs := (bC x134)) (vs := [.bool (x134.fixed)]) rfl rfl)) ?_
                refine l_nil ?_
                refine f_then ?_
                refine c_ifb (x134.fixed) rfl (fun hc141 => ?_) (fun hc141 => ?_)
                ·
                  refine c_exit ?_
                  refine f_then_exit ?_
                  refine f_exit ?_
                  refine f_then ?_
                  refine c_region ?_
                  refine l_val (v := Nx (j + 1)) rfl rfl rfl (e_add (a := ((j : Nat) : Int)) (b := (1 : Int)) rfl rfl (i64n (by omega) (by omega))) ?_
                  refine l_val (v := Nx (j + 1)) rfl rfl rfl (e_move) ?_
                  refine l_nil ?_
                  refine f_mask (L' := [pt b100 (.cells (bC x94) 39), rowF IntF 3 (some ⟨b92, 0, none⟩) xl.length in1, rowF BoolF 4 (some ⟨b91, 0, none⟩) xl.length cj, pt b6 (.cells #[.slice p2 (bs.length) (c3), .slice q4 (R.length) (d5), Ix (gX), Ix (gY)] 32), pt b1 (.cells #[.int .u16 (((bits : Nat)) : Int)] 25)]) [false, true, true, true, true, true] rfl ?_
                  exact f_cut ⟨(j + 1, cj), ⟨⟨rfl, rfl, rfl, rfl, rfl, rfl, rfl, rfl, rfl, rfl, rfl, rfl, rfl, rfl⟩, rfl, ⟨by omega, by show CrP bs R gX gY bits _ (fi bs k) (fi bs (k + 1 + j + 1)); rw [fi_no (drop_at hz130 hx135) (by simpa using hc141)]; exact hcj⟩⟩, (show zs129.length - (j + 1) < zs129.length - j from by omega)⟩
                ·
                  refine c_skip ?_
                  refine f_then ?_
                  refine c_seq ?_
                  have hyb := drop_at hz130 hx135
                  have hg0 : x134.fixed = false := (by simpa using hc141)
                  obtain ⟨ib, cb, hcb, hmb, hpb, hibl⟩ := place_body hmP hX hyb hg0
                  have hsy := sd_body (bits := bits) hyb hg0
                  have hidy := hmP.bodies.1 _ x134 hyb
                  refine c_quiet (by kernel_rfl) (by kernel_rfl) ?_
                  refine q_val (v := .agg (bC x94)) rfl rfl rfl (e_load tf1 (cs := (bodyE x94)) rfl (k_pt 1 (cs := (bC x94)) (vs := (bodyE x94)) rfl rfl) rfl) ?_
                  refine q_val (v := .pointer (some ⟨b6, 2, none⟩)) rfl rfl rfl (e_fieldPt (b := b6) (o := 0) rfl tf40) ?_
                  refine q_val (v := .agg #[Ix (gX), Ix (gY)]) rfl rfl rfl (e_load tf5 (cs := [Ix (gX), Ix (gY)]) rfl (k_pt 4 (cs := #[.slice p2 (bs.length) (c3), .slice q4 (R.length) (d5), Ix (gX), Ix (gY)]) (vs := [Ix (gX), Ix (gY)]) rfl rfl) rfl) ?_
                  refine q_call (v := .agg (aC (reachA x94 gX gY))) rfl rfl rfl (cl_value (fst := []) (cap := []) (vs := [.agg (bC x94), .agg #[Ix (gX), Ix (gY)]]) (all := [.agg (bC x94), .agg #[Ix (gX), Ix (gY)]]) tf41 rfl rfl rfl) (fun w hw => ?_) ?_
                  · obtain ⟨β1, sb, kn, hw1, back⟩ := St.frame_all hw
                    exact (reachA_ok β1 w hw1 x94 gX gY (by omega) (by omega)).mono (fun e w' ⟨he, hw'⟩ => ⟨he, st_mask [true, true, true, true, true, true] rfl (back _ _ hw')⟩)
                  refine q_val (v := .agg (bC x134)) rfl rfl rfl (e_load tf1 (cs := (bodyE x134)) rfl (k_pt 0 (cs := (bC x134)) (vs := (bodyE x134)) rfl rfl) rfl) ?_
                  refine q_val (v := .pointer (some ⟨b6, 2, none⟩)) rfl rfl rfl (e_fieldPt (b := b6) (o := 0) rfl tf40) ?_
                  refine q_val (v := .agg #[Ix (gX), Ix (gY)]) rfl rfl rfl (e_load tf5 (cs := [Ix (gX), Ix (gY)]) rfl (k_pt 4 (cs := #[.slice p2 (bs.length) (c3), .slice q4 (R.length) (d5), Ix (gX), Ix (gY)]) (vs := [Ix (gX), Ix (gY)]) rfl rfl) rfl) ?_
                  refine q_call (v := .agg (aC (reachA x134 gX gY))) rfl rfl rfl (cl_value (fst := []) (cap := []) (vs := [.agg (bC x134), .agg #[Ix (gX), Ix (gY)]]) (all := [.agg (bC x134), .agg #[Ix (gX), Ix (gY)]]) tf41 rfl rfl rfl) (fun w hw => ?_) ?_
                  · obtain ⟨β1, sb, kn, hw1, back⟩ := St.frame_all hw
                    exact (reachA_ok β1 w hw1 x134 gX gY (by omega) (by omega)).mono (fun e w' ⟨he, hw'⟩ => ⟨he, st_mask [true, true, true, true, true, true] rfl (back _ _ hw')⟩)
                  refine q_call (v := .bool (decide (touchA (reachA x94 gX gY) (reachA x134 gX gY)))) rfl rfl rfl (cl_value (fst := []) (cap := []) (vs := [.agg (aC (reachA x94 gX gY)), .agg (aC (reachA x134 gX gY))]) (all := [.agg (aC (reachA x94 gX gY)), .agg (aC (reachA x134 gX gY))]) tf93 rfl rfl rfl) (fun w hw => ?_) ?_
                  · obtain ⟨β1, sb, kn, hw1, back⟩ := St.frame_all hw
                    exact (meets_ok β1 w hw1 (reachA x94 gX gY) (reachA x134 gX gY)).mono (fun e w' ⟨he, hw'⟩ => ⟨he, st_mask [true, true, true, true, true, true] rfl (back _ _ hw')⟩)
                  refine q_val (v := .bool (decide (touchA (reachA x94 gX gY) (reachA x134 gX gY)))) rfl rfl rfl (e_assign) ?_
                  refine q_nil ?_
                  refine f_then ?_
                  refine c_seq ?_
                  refine c_seq ?_
                  refine c_region ?_
                  refine l_val (v := .pointer (some ⟨b6, 1, none⟩)) rfl rfl rfl (e_fieldPt (b := b6) (o := 0) rfl tf52) ?_
                  refine l_val (v := .slice q4 (R.length) (d5)) rfl rfl rfl (e_load1 tf53 (v := .slice q4 (R.length) (d5)) rfl (k_pt 4 (cs := #[.slice p2 (bs.length) (c3), .slice q4 (R.length) (d5), Ix (gX), Ix (gY)]) (vs := [.slice q4 (R.length) (d5)]) rfl rfl)) ?_
                  refine l_val (v := Nx (R.length)) rfl rfl rfl (e_len (a := q4) (n := R.length) (c := d5) rfl tf54) ?_
                  refine l_val (v := .int .i64 (0)) rfl rfl rfl (e_move) ?_
                  refine l_nil ?_
                  refine f_then ?_
                  refine c_block ?_
                  refine c_loop (fun (x_ : Nat × Bool) (f : Fm) (L : List Res) => match x_ with | (r, lb) => (f 11 = .pointer (some ⟨b6, 0, none⟩) ∧ f 12 = .slice p7 (xl.length) (c8) ∧ f 14 = Nx (nf) ∧ f 15 = Nx (nt) ∧ f 20 = .slice (some ⟨b91, 0, none⟩) (xl.length) xl.length ∧ f 21 = .slice (some ⟨b92, 0, none⟩) (xl.length) xl.length ∧ f 22 = .func (.func 13) #[] #[.pointer (some ⟨b1, 0, none⟩)] ∧ f 24 = .pointer (some ⟨b100, 0, none⟩) ∧ f 26 = .pointer (some ⟨b140, 0, none⟩) ∧ f 27 = .bool (lb) ∧ f 138 = .slice p2 (bs.length) (c3) ∧ f 139 = Nx (bs.length) ∧ f 140 = Nx (k) ∧ f 164 = .slice (adv p2 c3 (k + 1) 9) (zs129.length) ((c3 - (k + 1))) ∧ f 165 = Nx (zs129.length) ∧ f 166 = Nx (j) ∧ f 182 = .slice q4 (R.length) (d5) ∧ f 183 = Nx (R.length) ∧ f 184 = Nx (r)) ∧ L = [pt b140 (.cells (bC x134) 39), pt b100 (.cells (bC x94) 39), rowF IntF 3 (some ⟨b92, 0, none⟩) xl.length in1, rowF BoolF 4 (some ⟨b91, 0, none⟩) xl.length cj, pt b6 (.cells #[.slice p2 (bs.length) (c3), .slice q4 (R.length) (d5), Ix (gX), Ix (gY)] 32), pt b1 (.cells #[.int .u16 (((bits : Nat)) : Int)] 25)] ∧ (r ≤ R.length ∧ lb = lkB x94 x134 gX gY R r)) (fun (x_ : Nat × Bool) => match x_ with | (r, lb) => R.length - r) (0, (decide (touchA (reachA x94 gX gY) (reachA x134 gX gY)))) ?_ ?_
                  · exact ⟨⟨rfl, rfl, rfl, rfl, rfl, rfl, rfl, rfl, rfl, rfl, rfl, rfl, rfl, rfl, rfl, rfl, rfl, rfl, rfl⟩, rfl, ⟨by omega, (lk_zero _ _ _ _ _).symm⟩⟩
                  rintro ⟨r, lb⟩ f0 L0 ⟨⟨hs11, hs12, hs14, hs15, hs20, hs21, hs22, hs24, hs26, hs27, hs138, hs139, hs140, hs164, hs165, hs166, hs182, hs183, hs184⟩, hL, ⟨hr, hlb⟩⟩
                  subst L0
                  refine rebase (d := 11) hs11 ?_
                  refine rebase (d := 12) hs12 ?_
                  refine rebase (d := 14) hs14 ?_
                  refine rebase (d := 15) hs15 ?_
                  refine rebase (d := 20) hs20 ?_
                  refine rebase (d := 21) hs21 ?_
                  refine rebase (d := 22) hs22 ?_
                  refine rebase (d := 24) hs24 ?_
                  refine rebase (d := 26) hs26 ?_
                  refine rebase (d := 27) hs27 ?_
                  refine rebase (d := 138) hs138 ?_
                  refine rebase (d := 139) hs139 ?_
                  refine rebase (d := 140) hs140 ?_
                  refine rebase (d := 164) hs164 ?_
                  refine rebase (d := 165) hs165 ?_
                  refine rebase (d := 166) hs166 ?_
                  refine rebase (d := 182) hs182 ?_
                  refine rebase (d := 183) hs183 ?_
                  refine rebase (d := 184) hs184 ?_
                  clear hs11 hs12 hs14 hs15 hs20 hs21 hs22 hs24 hs26 hs27 hs138 hs139 hs140 hs164 hs165 hs166 hs182 hs183 hs184
                  refine c_seq ?_
                  refine c_region ?_
                  refine l_val (v := .bool (decide (((r : Nat) : Int) < ((R.length : Nat) : Int)))) rfl rfl rfl (e_lss (a := ((r : Nat) : Int)) (b := ((R.length : Nat) : Int)) rfl rfl) ?_
                  refine l_nil ?_
                  refine f_then ?_
                  refine c_seq ?_
                  refine c_if (((r : Nat) : Int) < ((R.length : Nat) : Int)) rfl (fun hc142 => ?_) (fun hc142 => ?_)
                  ·
                    refine c_skip ?_
                    refine f_then ?_
                    refine c_seq ?_
                    refine c_block ?_
                    refine c_seq ?_
                    refine c_region ?_
                    obtain ⟨x143, hx144⟩ : ∃ x_, (R)[r]? = some x_ := ⟨_, List.getElem?_eq_getElem (by omega)⟩
                    obtain ⟨ha145, cs146, hc147, rfl⟩ := heR _ _ hx144
                    refine l_val (v := .pointer (some ((ba q4).add (r * 3)))) rfl rfl rfl (e_indexAddr (k := r) (len := R.length) (cap := d5) (a := q4) rfl rfl tf55 (by omega) ha145) ?_
                    refine l_val (v := .agg #[Ix (x143.a), Ix (x143.b), Ix (x143.len)]) rfl rfl rfl (e_load tf56 (cs := [Ix (x143.a), Ix (x143.b), Ix (x143.len)]) rfl (Knows.of_base (Cs.mono _ _) hc147) rfl) ?_
                    refine l_mv rfl rfl rfl (m_alloc tf57) ?_
                    rintro _ _ ⟨b149, rfl, rfl⟩
                    refine l_mu rfl rfl (m_store 0 tf56 (b := b149) (o := 0) (T := 49) (cs := #[.int .i64 (0), .int .i64 (0), .int .i64 (0)]) (cs' := #[Ix (x143.a), Ix (x143.b), Ix (x143.len)]) (v := .agg #[Ix (x143.a), Ix (x143.b), Ix (x143.len)]) rfl rfl rfl rfl rfl rfl rfl) ?_
                    refine l_nil ?_
                    refine f_then ?_
                    refine c_region ?_
                    refine l_val (v := .bool (lb)) rfl rfl rfl (e_move) ?_
                    refine l_val (v := .bool (lb)) rfl rfl rfl (e_move) ?_
                    refine l_splitb (s := 189) (b := lb) rfl (fun hg150 => ?_) (fun hg150 => ?_)
                    ·
                      refine l_skip rfl rfl rfl rfl rfl rfl ?_
                      refine l_skip rfl rfl rfl rfl rfl rfl ?_
                      refine l_skip rfl rfl rfl rfl rfl rfl ?_
                      refine l_skip rfl rfl rfl rfl rfl rfl ?_
                      refine l_skip rfl rfl rfl rfl rfl rfl ?_
                      refine l_skip rfl rfl rfl rfl rfl rfl ?_
                      refine l_skip_u rfl rfl rfl rfl rfl ?_
                      refine l_skip_u rfl rfl rfl rfl rfl ?_
                      refine l_skip_u rfl rfl rfl rfl rfl ?_
                      refine l_skip_u rfl rfl rfl rfl rfl ?_
                      refine l_skip_u rfl rfl rfl rfl rfl ?_
                      refine l_skip rfl rfl rfl rfl rfl rfl ?_
                      refine l_val (v := .bool true) rfl rfl rfl (e_pick_t rfl) ?_
                      refine l_val (v := .bool true) rfl rfl rfl (e_assign) ?_
                      refine l_nil ?_
                      refine f_block ?_
                      refine f_then ?_
                      refine c_region ?_
                      refine l_val (v := Nx (r + 1)) rfl rfl rfl (e_add (a := ((r : Nat) : Int)) (b := (1 : Int)) rfl rfl (i64n (by omega) (by omega))) ?_
                      refine l_val (v := Nx (r + 1)) rfl rfl rfl (e_move) ?_
                      refine l_nil ?_
                      refine f_mask (L' := [pt b140 (.cells (bC x134) 39), pt b100 (.cells (bC x94) 39), rowF IntF 3 (some ⟨b92, 0, none⟩) xl.length in1, rowF BoolF 4 (some ⟨b91, 0, none⟩) xl.length cj, pt b6 (.cells #[.slice p2 (bs.length) (c3), .slice q4 (R.length) (d5), Ix (gX), Ix (gY)] 32), pt b1 (.cells #[.int .u16 (((bits : Nat)) : Int)] 25)]) [false, true, true, true, true, true, true] rfl ?_
                      exact f_cut ⟨(r + 1, true), ⟨⟨rfl, rfl, rfl, rfl, rfl, rfl, rfl, rfl, rfl, rfl, rfl, rfl, rfl, rfl, rfl, rfl, rfl, rfl, rfl⟩, rfl, ⟨by omega, by rw [lk_snoc hx144, ← hlb, hg150]; rfl⟩⟩, (show R.length - (r + 1) < R.length - r from by omega)⟩
                    ·
                      refine g_val (v := .pointer (some ⟨b149, 0, none⟩)) rfl rfl rfl rfl rfl (e_fieldPt (b := b149) (o := 0) rfl tf58) ?_
                      refine g_val (v := Ix (x143.a)) rfl rfl rfl rfl rfl (e_load1 tf11 (v := Ix (x143.a)) rfl (k_pt 0 (cs := #[Ix (x143.a), Ix (x143.b), Ix (x143.len)]) (vs := [Ix (x143.a)]) rfl rfl)) ?_
                      refine g_val (v := .pointer (some ⟨b100, 0, none⟩)) rfl rfl rfl rfl rfl (e_fieldPt (b := b100) (o := 0) rfl tf27) ?_
                      refine g_val (v := Ix (x94.id)) rfl rfl rfl rfl rfl (e_load1 tf11 (v := Ix (x94.id)) rfl (k_pt 2 (cs := (bC x94)) (vs := [Ix (x94.id)]) rfl rfl)) ?_
                      refine g_val (v := .bool (decide ((x143.a) = (x94.id)))) rfl rfl rfl rfl rfl (e_eql (a := (x143.a)) (b := (x94.id)) rfl rfl) ?_
                      refine g_val (v := .bool (decide ((x143.a) = (x94.id)))) rfl rfl rfl rfl rfl (e_move) ?_
                      refine l_split (s := 195) (p := (x143.a) = (x94.id)) rfl (fun hg151 => ?_) (fun hg151 => ?_)
                      ·
                        refine g_val (v := .pointer (some ⟨b149, 1, none⟩)) rfl rfl rfl rfl rfl (e_fieldPt (b := b149) (o := 0) rfl tf60) ?_
                        refine g_val (v := Ix (x143.b)) rfl rfl rfl rfl rfl (e_load1 tf11 (v := Ix (x143.b)) rfl (k_pt 0 (cs := #[Ix (x143.a), Ix (x143.b), Ix (x143.len)]) (vs := [Ix (x143.b)]) rfl rfl)) ?_
                        refine g_val (v := .pointer (some ⟨b140, 0, none⟩)) rfl rfl rfl rfl rfl (e_fieldPt (b := b140) (o := 0) rfl tf27) ?_
                        refine g_val (v := Ix (x134.id)) rfl rfl rfl rfl rfl (e_load1 tf11 (v := Ix (x134.id)) rfl (k_pt 1 (cs := (bC x134)) (vs := [Ix (x134.id)]) rfl rfl)) ?_
                        refine g_val (v := .bool (decide ((x143.b) = (x134.id)))) rfl rfl rfl rfl rfl (e_eql (a := (x143.b)) (b := (x134.id)) rfl rfl) ?_
                        refine g_val (v := .bool (decide ((x143.b) = (x134.id)))) rfl rfl rfl rfl rfl (e_pick_t rfl) ?_
                        refine l_val (v := .bool (decide ((x143.b) = (x134.id)))) rfl rfl rfl (e_pick_f rfl) ?_
                        refine l_val (v := .bool (decide ((x143.b) = (x134.id)))) rfl rfl rfl (e_assign) ?_
                        refine l_nil ?_
                        refine f_block ?_
                        refine f_then ?_
                        refine c_region ?_
                        refine l_val (v := Nx (r + 1)) rfl rfl rfl (e_add (a := ((r : Nat) : Int)) (b := (1 : Int)) rfl rfl (i64n (by omega) (by omega))) ?_
                        refine l_val (v := Nx (r + 1)) rfl rfl rfl (e_move) ?_
                        refine l_nil ?_
                        refine f_mask (L' := [pt b140 (.cells (bC x134) 39), pt b100 (.cells (bC x94) 39), rowF IntF 3 (some ⟨b92, 0, none⟩) xl.length in1, rowF BoolF 4 (some ⟨b91, 0, none⟩) xl.length cj, pt b6 (.cells #[.slice p2 (bs.length) (c3), .slice q4 (R.length) (d5), Ix (gX), Ix (gY)] 32), pt b1 (.cells #[.int .u16 (((bits : Nat)) : Int)] 25)]) [false, true, true, true, true, true, true] rfl ?_
                        exact f_cut ⟨(r + 1, (decide ((x143.b) = (x134.id)))), ⟨⟨rfl, rfl, rfl, rfl, rfl, rfl, rfl, rfl, rfl, rfl, rfl, rfl, rfl, rfl, rfl, rfl, rfl, rfl, rfl⟩, rfl, ⟨by omega, by rw [lk_snoc hx144, ← hlb, (show lb = false by simpa using hg150), decide_eq_true hg151]; rfl⟩⟩, (show R.length - (r + 1) < R.length - r from by omega)⟩
                      ·
                        refine l_skip rfl rfl rfl rfl rfl rfl ?_
                        refine l_skip rfl rfl rfl rfl rfl rfl ?_
                        refine l_skip rfl rfl rfl rfl rfl rfl ?_
                        refine l_skip rfl rfl rfl rfl rfl rfl ?_
                        refine l_skip rfl rfl rfl rfl rfl rfl ?_
                        refine g_val (v := .bool false) rfl rfl rfl rfl rfl (e_pick_f rfl) ?_
                        refine l_val (v := .bool false) rfl rfl rfl (e_pick_f rfl) ?_
                        refine l_val (v := .bool false) rfl rfl rfl (e_assign) ?_
                        refine l_nil ?_
                        refine f_block ?_
                        refine f_then ?_
                        refine c_region ?_
                        refine l_val (v := Nx (r + 1)) rfl rfl rfl (e_add (a := ((r : Nat) : Int)) (b := (1 : Int)) rfl rfl (i64n (by omega) (by omega))) ?_
                        refine l_val (v := Nx (r + 1)) rfl rfl rfl (e_move) ?_
                        refine l_nil ?_
                        refine f_mask (L' := [pt b140 (.cells (bC x134) 39), pt b100 (.cells (bC x94) 39), rowF IntF 3 (some ⟨b92, 0, none⟩) xl.length in1, rowF BoolF 4 (some ⟨b91, 0, none⟩) xl.length cj, pt b6 (.cells #[.slice p2 (bs.length) (c3), .slice q4 (R.length) (d5), Ix (gX), Ix (gY)] 32), pt b1 (.cells #[.int .u16 (((bits : Nat)) : Int)] 25)]) [false, true, true, true, true, true, true] rfl ?_
                        exact f_cut ⟨(r + 1, false), ⟨⟨rfl, rfl, rfl, rfl, rfl, rfl, rfl, rfl, rfl, rfl, rfl, rfl, rfl, rfl, rfl, rfl, rfl, rfl, rfl⟩, rfl, ⟨by omega, by rw [lk_snoc hx144, ← hlb, (show lb = false by simpa using hg150), decide_eq_false hg151]; rfl⟩⟩, (show R.length - (r + 1) < R.length - r from by omega)⟩
                  ·
                    refine c_exit ?_
                    refine f_then_exit ?_
                    refine f_then_exit ?_
                    refine f_exit ?_
                    refine f_then ?_
                    refine c_seq ?_
                    refine c_seq ?_
                    have hrR : r = R.length := by omega
                    rw [hrR] at hlb
                    have hlE := lk_iff hmP hx95 hyb hf0 hg0 (by omega)
                    have hEq : lb = true → ia = ib := fun q => place_link hca hcb hma hmb (hlE.1 (hlb.symm.trans q))
                    refine c_quiet (by kernel_rfl) (by kernel_rfl) ?_
                    refine q_val (v := .bool (lb)) rfl rfl rfl (e_move) ?_
                    refine q_val (v := .bool (lb)) rfl rfl rfl (e_move) ?_
                    refine q_splitb (s := 205) (b := lb) rfl (fun hg152 => ?_) (fun hg152 => ?_)
                    ·
                      refine qg_val (v := .slice p7 (xl.length) (c8)) rfl rfl rfl rfl rfl (e_move) ?_
                      refine qg_val (v := .pointer (some ⟨b100, 0, none⟩)) rfl rfl rfl rfl rfl (e_fieldPt (b := b100) (o := 0) rfl tf27) ?_
                      refine qg_val (v := Ix (x94.id)) rfl rfl rfl rfl rfl (e_load1 tf11 (v := Ix (x94.id)) rfl (k_pt 1 (cs := (bC x94)) (vs := [Ix (x94.id)]) rfl rfl)) ?_
                      refine qg_call (v := Nx (ia)) rfl rfl rfl rfl rfl (cl_value (fst := []) (cap := []) (vs := [.slice p7 (xl.length) (c8), Ix (x94.id)]) (all := [.slice p7 (xl.length) (c8), Ix (x94.id)]) tf87 rfl rfl rfl) (fun w hw => ?_) ?_
                      · obtain ⟨β1, sb, kn, hw1, back⟩ := St.frame_all hw
                        exact (placeN_ok β1 w hw1 _ xl (Sl.mono _ _ _ _ _ sb hslX) x94.id ia hpa).mono (fun e w' ⟨he, hw'⟩ => ⟨he, st_mask [true, true, true, true, true, true] rfl (back _ _ hw')⟩)
                      refine qg_val (v := .slice p7 (xl.length) (c8)) rfl rfl rfl rfl rfl (e_move) ?_
                      refine qg_val (v := .pointer (some ⟨b140, 0, none⟩)) rfl rfl rfl rfl rfl (e_fieldPt (b := b140) (o := 0) rfl tf27) ?_
                      refine qg_val (v := Ix (x134.id)) rfl rfl rfl rfl rfl (e_load1 tf11 (v := Ix (x134.id)) rfl (k_pt 0 (cs := (bC x134)) (vs := [Ix (x134.id)]) rfl rfl)) ?_
                      refine qg_call (v := Nx (ib)) rfl rfl rfl rfl rfl (cl_value (fst := []) (cap := []) (vs := [.slice p7 (xl.length) (c8), Ix (x134.id)]) (all := [.slice p7 (xl.length) (c8), Ix (x134.id)]) tf87 rfl rfl rfl) (fun w hw => ?_) ?_
                      · obtain ⟨β1, sb, kn, hw1, back⟩ := St.frame_all hw
                        exact (placeN_ok β1 w hw1 _ xl (Sl.mono _ _ _ _ _ sb hslX) x134.id ib hpb).mono (fun e w' ⟨he, hw'⟩ => ⟨he, st_mask [true, true, true, true, true, true] rfl (back _ _ hw')⟩)
                      refine qg_val (v := .bool (decide (((ia : Nat) : Int) ≠ ((ib : Nat) : Int)))) rfl rfl rfl rfl rfl (e_neq (a := ((ia : Nat) : Int)) (b := ((ib : Nat) : Int)) rfl rfl) ?_
                      refine q_val (v := .bool (decide (((ia : Nat) : Int) ≠ ((ib : Nat) : Int)))) rfl rfl rfl (e_pick_t rfl) ?_
                      refine q_nil ?_
                      refine f_then ?_
                      refine c_if (((ia : Nat) : Int) ≠ ((ib : Nat) : Int)) rfl (fun hc153 => ?_) (fun hc153 => ?_)
                      ·
                        exact absurd hc153 (fun q => q (congrArg _ (hEq hg152)))
                      ·
                        refine c_skip ?_
                        refine f_then ?_
                        refine c_seq ?_
                        refine c_quiet (by kernel_rfl) (by kernel_rfl) ?_
                        refine q_val (v := .bool (lb)) rfl rfl rfl (e_move) ?_
                        refine q_val (v := .bool (lb)) rfl rfl rfl (e_move) ?_
                        refine q_splitb (s := 217) (b := lb) rfl (fun h => ?_) (fun h => ?_)
                        rotate_left; (rw [hg152] at h; cases h)
                        refine qg_val (v := .func (.func 13) #[] #[.pointer (some ⟨b1, 0, none⟩)]) rfl rfl rfl rfl rfl (e_move) ?_
                        refine qg_val (v := .pointer (some ⟨b100, 0, none⟩)) rfl rfl rfl rfl rfl (e_fieldPt (b := b100) (o := 0) rfl tf27) ?_
                        refine qg_val (v := Ix (x94.id)) rfl rfl rfl rfl rfl (e_load1 tf11 (v := Ix (x94.id)) rfl (k_pt 1 (cs := (bC x94)) (vs := [Ix (x94.id)]) rfl rfl)) ?_
                        refine qg_call (v := .bool (sideX bits x94.id)) rfl rfl rfl rfl rfl (cl_value (fst := []) (cap := [.pointer (some ⟨b1, 0, none⟩)]) (vs := [Ix (x94.id)]) (all := [Ix (x94.id), .pointer (some ⟨b1, 0, none⟩)]) tf92 rfl rfl rfl) (fun w hw => ?_) ?_
                        · obtain ⟨β1, sb, kn, hw1, back⟩ := St.frame_all hw
                          exact (sideB_ok β1 w hw1 b1 bits hbits (kn _ (k_pt 5 (o := 0) (cs := #[.int .u16 (((bits : Nat)) : Int)]) (vs := [.int .u16 (((bits : Nat)) : Int)]) rfl rfl)) k (by omega) x94.id hid).mono (fun e w' ⟨he, hw'⟩ => ⟨he, st_mask [true, true, true, true, true, true] rfl (back _ _ hw')⟩)
                        refine qg_val (v := .func (.func 13) #[] #[.pointer (some ⟨b1, 0, none⟩)]) rfl rfl rfl rfl rfl (e_move) ?_
                        refine qg_val (v := .pointer (some ⟨b140, 0, none⟩)) rfl rfl rfl rfl rfl (e_fieldPt (b := b140) (o := 0) rfl tf27) ?_
                        refine qg_val (v := Ix (x134.id)) rfl rfl rfl rfl rfl (e_load1 tf11 (v := Ix (x134.id)) rfl (k_pt 0 (cs := (bC x134)) (vs := [Ix (x134.id)]) rfl rfl)) ?_
                        refine qg_call (v := .bool (sideX bits x134.id)) rfl rfl rfl rfl rfl (cl_value (fst := []) (cap := [.pointer (some ⟨b1, 0, none⟩)]) (vs := [Ix (x134.id)]) (all := [Ix (x134.id), .pointer (some ⟨b1, 0, none⟩)]) tf92 rfl rfl rfl) (fun w hw => ?_) ?_
                        · obtain ⟨β1, sb, kn, hw1, back⟩ := St.frame_all hw
                          exact (sideB_ok β1 w hw1 b1 bits hbits (kn _ (k_pt 5 (o := 0) (cs := #[.int .u16 (((bits : Nat)) : Int)]) (vs := [.int .u16 (((bits : Nat)) : Int)]) rfl rfl)) (k + 1 + j) (by omega) x134.id hidy).mono (fun e w' ⟨he, hw'⟩ => ⟨he, st_mask [true, true, true, true, true, true] rfl (back _ _ hw')⟩)
                        refine qg_val (v := .bool (!((sideX bits x94.id) == (sideX bits x134.id)))) rfl rfl rfl rfl rfl (e_neq_b (a := sideX bits x94.id) (b := sideX bits x134.id) rfl rfl tf88) ?_
                        refine q_val (v := .bool (!((sideX bits x94.id) == (sideX bits x134.id)))) rfl rfl rfl (e_pick_t rfl) ?_
                        refine q_nil ?_
                        refine f_then ?_
                        refine c_ifb (!((sideX bits x94.id) == (sideX bits x134.id))) rfl (fun hc154 => ?_) (fun hc154 => ?_)
                        ·
                          refine c_region ?_
                          refine l_val (v := .slice (some ⟨b91, 0, none⟩) (xl.length) xl.length) rfl rfl rfl (e_move) ?_
                          refine l_val (v := .slice p7 (xl.length) (c8)) rfl rfl rfl (e_move) ?_
                          refine l_val (v := .pointer (some ⟨b100, 0, none⟩)) rfl rfl rfl (e_fieldPt (b := b100) (o := 0) rfl tf27) ?_
                          refine l_val (v := Ix (x94.id)) rfl rfl rfl (e_load1 tf11 (v := Ix (x94.id)) rfl (k_pt 1 (cs := (bC x94)) (vs := [Ix (x94.id)]) rfl rfl)) ?_
                          refine l_call rfl rfl rfl (cl_value (fst := []) (cap := []) (vs := [.slice p7 (xl.length) (c8), Ix (x94.id)]) (all := [.slice p7 (xl.length) (c8), Ix (x94.id)]) tf87 rfl rfl rfl) ?_
                          intro w hw
                          obtain ⟨β1, sb, kn, hw1, back⟩ := St.frame_all hw
                          refine (placeN_ok β1 w hw1 _ xl (Sl.mono _ _ _ _ _ sb hslX) x94.id ia hpa).mono ?_
                          rintro e w' ⟨rfl, hw'⟩
                          refine ⟨_, rfl, _, back _ _ hw', ?_⟩
                          clear hw hw1 hw' back kn sb
                          refine l_val (v := .pointer (some ((ba (some ⟨b91, 0, none⟩)).add (ia * 1)))) rfl rfl rfl (e_indexFlN 3 (F := BoolF) (j := ia) (m := xl.length) (xs := cj) rfl (by omega) rfl tf89 (by omega) rfl) ?_
                          refine l_mu rfl rfl (m_storeFl 3 (F := BoolF) (p := (some ⟨b91, 0, none⟩)) (k := ia) (xs := cj) (z := true) tf19 rfl rfl rfl rfl (by omega)) ?_
                          refine l_nil ?_
                          refine f_block ?_
                          refine f_then ?_
                          refine c_region ?_
                          refine l_val (v := Nx (j + 1)) rfl rfl rfl (e_add (a := ((j : Nat) : Int)) (b := (1 : Int)) rfl rfl (i64n (by omega) (by omega))) ?_
                          refine l_val (v := Nx (j + 1)) rfl rfl rfl (e_move) ?_
                          refine l_nil ?_
                          refine f_mask (L' := [pt b100 (.cells (bC x94) 39), rowF IntF 3 (some ⟨b92, 0, none⟩) xl.length in1, rowF BoolF 4 (some ⟨b91, 0, none⟩) xl.length (cj.set ia true), pt b6 (.cells #[.slice p2 (bs.length) (c3), .slice q4 (R.length) (d5), Ix (gX), Ix (gY)] 32), pt b1 (.cells #[.int .u16 (((bits : Nat)) : Int)] 25)]) [false, true, true, true, true, true] rfl ?_
                          exact f_cut ⟨(j + 1, (cj.set ia true)), ⟨⟨rfl, rfl, rfl, rfl, rfl, rfl, rfl, rfl, rfl, rfl, rfl, rfl, rfl, rfl⟩, rfl, ⟨by omega, by show CrP bs R gX gY bits _ (fi bs k) (fi bs (k + 1 + j + 1)); rw [fi_yes hyb (by simpa using hc141)]; exact cr_yes hcj hca hma⟩⟩, (show zs129.length - (j + 1) < zs129.length - j from by omega)⟩
                        ·
                          refine c_skip ?_
                          refine f_block ?_
                          refine f_then ?_
                          refine c_region ?_
                          refine l_val (v := Nx (j + 1)) rfl rfl rfl (e_add (a := ((j : Nat) : Int)) (b := (1 : Int)) rfl rfl (i64n (by omega) (by omega))) ?_
                          refine l_val (v := Nx (j + 1)) rfl rfl rfl (e_move) ?_
                          refine l_nil ?_
                          refine f_mask (L' := [pt b100 (.cells (bC x94) 39), rowF IntF 3 (some ⟨b92, 0, none⟩) xl.length in1, rowF BoolF 4 (some ⟨b91, 0, none⟩) xl.length cj, pt b6 (.cells #[.slice p2 (bs.length) (c3), .slice q4 (R.length) (d5), Ix (gX), Ix (gY)] 32), pt b1 (.cells #[.int .u16 (((bits : Nat)) : Int)] 25)]) [false, true, true, true, true, true] rfl ?_
                          exact f_cut ⟨(j + 1, cj), ⟨⟨rfl, rfl, rfl, rfl, rfl, rfl, rfl, rfl, rfl, rfl, rfl, rfl, rfl, rfl⟩, rfl, ⟨by omega, by show CrP bs R gX gY bits _ (fi bs k) (fi bs (k + 1 + j + 1)); rw [fi_yes hyb (by simpa using hc141)]; exact cr_no hcj (fun _ => hsd.trans ((by simpa using hc154 : sideX bits x94.id = sideX bits x134.id).trans hsy.symm))⟩⟩, (show zs129.length - (j + 1) < zs129.length - j from by omega)⟩
                    ·
                      refine q_skip rfl rfl rfl rfl rfl rfl ?_
                      refine q_skip rfl rfl rfl rfl rfl rfl ?_
                      refine q_skip rfl rfl rfl rfl rfl rfl ?_
                      refine q_skip rfl rfl rfl rfl rfl rfl ?_
                      refine q_skip rfl rfl rfl rfl rfl rfl ?_
                      refine q_skip rfl rfl rfl rfl rfl rfl ?_
                      refine q_skip rfl rfl rfl rfl rfl rfl ?_
                      refine q_skip rfl rfl rfl rfl rfl rfl ?_
                      refine q_skip rfl rfl rfl rfl rfl rfl ?_
                      refine q_val (v := .bool false) rfl rfl rfl (e_pick_f rfl) ?_
                      refine q_nil ?_
                      refine f_then ?_
                      refine c_no rfl ?_
                      refine c_skip ?_
                      refine f_then ?_
                      refine c_seq ?_
                      refine c_quiet (by kernel_rfl) (by kernel_rfl) ?_
                      refine q_val (v := .bool (lb)) rfl rfl rfl (e_move) ?_
                      refine q_val (v := .bool (lb)) rfl rfl rfl (e_move) ?_
                      refine q_splitb (s := 217) (b := lb) rfl (fun h => ?_) (fun h => ?_)
                      (rw [hg152] at h; cases h)
                      refine q_skip rfl rfl rfl rfl rfl rfl ?_
                      refine q_skip rfl rfl rfl rfl rfl rfl ?_
                      refine q_skip rfl rfl rfl rfl rfl rfl ?_
                      refine q_skip rfl rfl rfl rfl rfl rfl ?_
                      refine q_skip rfl rfl rfl rfl rfl rfl ?_
                      refine q_skip rfl rfl rfl rfl rfl rfl ?_
                      refine q_skip rfl rfl rfl rfl rfl rfl ?_
                      refine q_skip rfl rfl rfl rfl rfl rfl ?_
                      refine q_skip rfl rfl rfl rfl rfl rfl ?_
                      refine q_val (v := .bool false) rfl rfl rfl (e_pick_f rfl) ?_
                      refine q_nil ?_
                      refine f_then ?_
                      refine c_no rfl ?_
                      refine c_skip ?_
                      refine f_block ?_
                      refine f_then ?_
                      refine c_region ?_
                      refine l_val (v := Nx (j + 1)) rfl rfl rfl (e_add (a := ((j : Nat) : Int)) (b := (1 : Int)) rfl rfl (i64n (by omega) (by omega))) ?_
                      refine l_val (v := Nx (j + 1)) rfl rfl rfl (e_move) ?_
                      refine l_nil ?_
                      refine f_mask (L' := [pt b100 (.cells (bC x94) 39), rowF IntF 3 (some ⟨b92, 0, none⟩) xl.length in1, rowF BoolF 4 (some ⟨b91, 0, none⟩) xl.length cj, pt b6 (.cells #[.slice p2 (bs.length) (c3), .slice q4 (R.length) (d5), Ix (gX), Ix (gY)] 32), pt b1 (.cells #[.int .u16 (((bits : Nat)) : Int)] 25)]) [false, true, true, true, true, true] rfl ?_
                      exact f_cut ⟨(j + 1, cj), ⟨⟨rfl, rfl, rfl, rfl, rfl, rfl, rfl, rfl, rfl, rfl, rfl, rfl, rfl, rfl⟩, rfl, ⟨by omega, by show CrP bs R gX gY bits _ (fi bs k) (fi bs (k + 1 + j + 1)); rw [fi_yes hyb (by simpa using hc141)]; exact cr_no hcj (fun q => by have := hlE.2 q; rw [← hlb, (show lb = false by simpa using hg152)] at this; cases this)⟩⟩, (show zs129.length - (j + 1) < zs129.length - j from by omega)⟩
              ·
                refine c_exit ?_
                refine f_then_exit ?_
                refine f_then_exit ?_
                refine f_exit ?_
                refine f_block ?_
                refine f_then ?_
                refine c_region ?_
                refine l_val (v := Nx (k + 1)) rfl rfl rfl (e_add (a := ((k : Nat) : Int)) (b := (1 : Int)) rfl rfl (i64n (by omega) (by omega))) ?_
                refine l_val (v := Nx (k + 1)) rfl rfl rfl (e_move) ?_
                refine l_nil ?_
                refine f_mask (L' := [rowF IntF 3 (some ⟨b92, 0, none⟩) xl.length in1, rowF BoolF 4 (some ⟨b91, 0, none⟩) xl.length cj, pt b6 (.cells #[.slice p2 (bs.length) (c3), .slice q4 (R.length) (d5), Ix (gX), Ix (gY)] 32), pt b1 (.cells #[.int .u16 (((bits : Nat)) : Int)] 25)]) [false, true, true, true, true] rfl ?_
                exact f_cut ⟨(k + 1, cj, in1), ⟨⟨rfl, rfl, rfl, rfl, rfl, rfl, rfl, rfl, rfl, rfl⟩, rfl, ⟨by omega, hin1, by rw [fi_yes hx95 hf0]; exact cr_last (by rw [← fi_all (bs := bs) (k := k + 1 + j) (by omega)]; exact hcj)⟩⟩, (show bs.length - (k + 1) < bs.length - k from by omega)⟩
        ·
          refine c_exit ?_
          refine f_then_exit ?_
          refine f_then_exit ?_
          refine f_exit ?_
          refine f_then ?_
          refine c_seq ?_
          refine c_seq ?_
          rw [fi_all (by omega)] at hin hcr
          refine c_region ?_
          refine l_val (v := .slice p7 (xl.length) (c8)) rfl rfl rfl (e_move) ?_
          refine l_val (v := Nx (xl.length)) rfl rfl rfl (e_len (a := p7) (n := xl.length) (c := c8) rfl tf64) ?_
          refine l_val (v := .int .i64 (0)) rfl rfl rfl (e_move) ?_
          refine l_nil ?_
          refine f_then ?_
          refine c_block ?_
          refine c_loop (fun (k : Nat) (f : Fm) (L : List Res) => (f 12 = .slice p7 (xl.length) (c8) ∧ f 14 = Nx (nf) ∧ f 15 = Nx (nt) ∧ f 20 = .slice (some ⟨b91, 0, none⟩) (xl.length) xl.length ∧ f 21 = .slice (some ⟨b92, 0, none⟩) (xl.length) xl.length ∧ f 237 = Nx (xl.length) ∧ f 238 = Nx (k)) ∧ L = [rowF IntF 3 (some ⟨b92, 0, none⟩) xl.length inn, rowF BoolF 4 (some ⟨b91, 0, none⟩) xl.length cr, pt b6 (.cells #[.slice p2 (bs.length) (c3), .slice q4 (R.length) (d5), Ix (gX), Ix (gY)] 32), pt b1 (.cells #[.int .u16 (((bits : Nat)) : Int)] 25)] ∧ (k ≤ xl.length)) (fun (k : Nat) => xl.length - k) 0 ?_ ?_
          · exact ⟨⟨rfl, rfl, rfl, rfl, rfl, rfl, rfl⟩, rfl, by omega⟩
          rintro k f0 L0 ⟨⟨hs12, hs14, hs15, hs20, hs21, hs237, hs238⟩, hL, hk⟩
          subst L0
          refine rebase (d := 12) hs12 ?_
          refine rebase (d := 14) hs14 ?_
          refine rebase (d := 15) hs15 ?_
          refine rebase (d := 20) hs20 ?_
          refine rebase (d := 21) hs21 ?_
          refine rebase (d := 237) hs237 ?_
          refine rebase (d := 238) hs238 ?_
          clear hs12 hs14 hs15 hs20 hs21 hs237 hs238
          refine c_seq ?_
          refine c_region ?_
          refine l_val (v := .bool (decide (((k : Nat) : Int) < ((xl.length : Nat) : Int)))) rfl rfl rfl (e_lss (a := ((k : Nat) : Int)) (b := ((xl.length : Nat) : Int)) rfl rfl) ?_
          refine l_nil ?_
          refine f_then ?_
          refine c_seq ?_
          refine c_if (((k : Nat) : Int) < ((xl.length : Nat) : Int)) rfl (fun hc155 => ?_) (fun hc155 => ?_)
          ·
            refine c_skip ?_
            refine f_then ?_
            refine c_seq ?_
            refine c_block ?_
            refine c_seq ?_
            refine c_region ?_
            refine l_val (v := Nx (k)) rfl rfl rfl (e_move) ?_
            refine l_val (v := Nx (k)) rfl rfl rfl (e_assign) ?_
            refine l_nil ?_
            refine f_then ?_
            refine c_seq ?_
            refine c_quiet (by kernel_rfl) (by kernel_rfl) ?_
            refine q_val (v := .slice (some ⟨b92, 0, none⟩) (xl.length) xl.length) rfl rfl rfl (e_move) ?_
            refine q_val (v := Nx (k)) rfl rfl rfl (e_move) ?_
            refine q_val (v := .pointer (some ((ba (some ⟨b92, 0, none⟩)).add (k * 1)))) rfl rfl rfl (e_indexFlN 0 (F := IntF) (j := k) (m := xl.length) (xs := inn) rfl (by omega) rfl tf23 (by omega) rfl) ?_
            obtain ⟨x156, hx157⟩ : ∃ x_, inn[k]? = some x_ := ⟨_, List.getElem?_eq_getElem (by omega)⟩
            refine q_val (v := Ix (x156)) rfl rfl rfl (e_load1 tf11 (v := Ix (x156)) rfl (k_flAt 0 (F := IntF) rfl hx157)) ?_
            refine q_val (v := .bool (decide ((0 : Int) < (x156)))) rfl rfl rfl (e_gtr (a := (x156)) (b := (0 : Int)) rfl rfl) ?_
            refine q_val (v := .bool (decide ((0 : Int) < (x156)))) rfl rfl rfl (e_move) ?_
            refine q_split (s := 246) (p := (0 : Int) < (x156)) rfl (fun hg158 => ?_) (fun hg158 => ?_)
            ·
              refine qg_val (v := .slice (some ⟨b92, 0, none⟩) (xl.length) xl.length) rfl rfl rfl rfl rfl (e_move) ?_
              refine qg_val (v := Nx (k)) rfl rfl rfl rfl rfl (e_move) ?_
              refine qg_val (v := .pointer (some ((ba (some ⟨b92, 0, none⟩)).add (k * 1)))) rfl rfl rfl rfl rfl (e_indexFlN 0 (F := IntF) (j := k) (m := xl.length) (xs := inn) rfl (by omega) rfl tf23 (by omega) rfl) ?_
              refine qg_val (v := Ix (x156)) rfl rfl rfl rfl rfl (e_load1 tf11 (v := Ix (x156)) rfl (k_flAt 0 (F := IntF) rfl hx157)) ?_
              refine qg_val (v := .slice p7 (xl.length) (c8)) rfl rfl rfl rfl rfl (e_move) ?_
              refine qg_val (v := Nx (k)) rfl rfl rfl rfl rfl (e_move) ?_
              obtain ⟨x159, hx160⟩ : ∃ x_, (xl)[k]? = some x_ := ⟨_, List.getElem?_eq_getElem (by omega)⟩
              obtain ⟨ha161, cs162, hc163, hr164⟩ := heX _ _ hx160
              obtain ⟨v165, rfl, hv166⟩ := hr164
              obtain ⟨a167, c168, rfl, hl169, hm170, he171⟩ := (hv166).get
              have hposx159 := xl_pos hX hx160
              have hsumx159 := lenS_next hx160
              refine qg_val (v := .pointer (some ((ba p7).add (k * 1)))) rfl rfl rfl rfl rfl (e_indexAddr (k := k) (len := xl.length) (cap := c8) (a := p7) rfl rfl tf21 (by omega) ha161) ?_
              refine qg_val (v := .slice a167 (x159.length) (c168)) rfl rfl rfl rfl rfl (e_load1 tf22 (v := .slice a167 (x159.length) (c168)) rfl (Knows.of_base (Cs.mono _ _) hc163)) ?_
              refine qg_val (v := Nx (x159.length)) rfl rfl rfl rfl rfl (e_len (a := a167) (n := x159.length) (c := c168) rfl tf28) ?_
              refine qg_val (v := .bool (decide ((x156) < ((x159.length : Nat) : Int)))) rfl rfl rfl rfl rfl (e_lss (a := (x156)) (b := ((x159.length : Nat) : Int)) rfl rfl) ?_
              refine q_val (v := .bool (decide ((x156) < ((x159.length : Nat) : Int)))) rfl rfl rfl (e_pick_t rfl) ?_
              refine q_val (v := .bool (decide ((x156) < ((x159.length : Nat) : Int)))) rfl rfl rfl (e_move) ?_
              refine q_split (s := 258) (p := (x156) < ((x159.length : Nat) : Int)) rfl (fun hg172 => ?_) (fun hg172 => ?_)
              ·
                refine qg_val (v := .slice (some ⟨b91, 0, none⟩) (xl.length) xl.length) rfl rfl rfl rfl rfl (e_move) ?_
                refine qg_val (v := Nx (k)) rfl rfl rfl rfl rfl (e_move) ?_
                refine qg_val (v := .pointer (some ((ba (some ⟨b91, 0, none⟩)).add (k * 1)))) rfl rfl rfl rfl rfl (e_indexFlN 1 (F := BoolF) (j := k) (m := xl.length) (xs := cr) rfl (by omega) rfl tf89 (by omega) rfl) ?_
                obtain ⟨x173, hx174⟩ : ∃ x_, cr[k]? = some x_ := ⟨_, List.getElem?_eq_getElem (by omega)⟩
                refine qg_val (v := .bool (x173)) rfl rfl rfl rfl rfl (e_load1 tf19 (v := .bool (x173)) rfl (k_flAt 1 (F := BoolF) rfl hx174)) ?_
                refine qg_val (v := .bool (!x173)) rfl rfl rfl rfl rfl (e_not rfl) ?_
                refine q_val (v := .bool (!x173)) rfl rfl rfl (e_pick_t rfl) ?_
                refine q_nil ?_
                refine f_then ?_
                refine c_ifb (!x173) rfl (fun hc175 => ?_) (fun hc175 => ?_)
                ·
                  rw [(show (!x173) = false from by rw [crossed hmP hX hin hcr hx160 hx157 hx174 hg158 hg172]; rfl)] at hc175; cases hc175
                ·
                  refine c_skip ?_
                  refine f_block ?_
                  refine f_then ?_
                  refine c_region ?_
                  refine l_val (v := Nx (k + 1)) rfl rfl rfl (e_add (a := ((k : Nat) : Int)) (b := (1 : Int)) rfl rfl (i64n (by omega) (by omega))) ?_
                  refine l_val (v := Nx (k + 1)) rfl rfl rfl (e_move) ?_
                  refine l_nil ?_
                  exact f_cut ⟨k + 1, ⟨⟨rfl, rfl, rfl, rfl, rfl, rfl, rfl⟩, rfl, by omega⟩, (show xl.length - (k + 1) < xl.length - k from by omega)⟩
              ·
                refine q_skip rfl rfl rfl rfl rfl rfl ?_
                refine q_skip rfl rfl rfl rfl rfl rfl ?_
                refine q_skip rfl rfl rfl rfl rfl rfl ?_
                refine q_skip rfl rfl rfl rfl rfl rfl ?_
                refine q_skip rfl rfl rfl rfl rfl rfl ?_
                refine q_val (v := .bool false) rfl rfl rfl (e_pick_f rfl) ?_
                refine q_nil ?_
                refine f_then ?_
                refine c_no rfl ?_
                refine c_skip ?_
                refine f_block ?_
                refine f_then ?_
                refine c_region ?_
                refine l_val (v := Nx (k + 1)) rfl rfl rfl (e_add (a := ((k : Nat) : Int)) (b := (1 : Int)) rfl rfl (i64n (by omega) (by omega))) ?_
                refine l_val (v := Nx (k + 1)) rfl rfl rfl (e_move) ?_
                refine l_nil ?_
                exact f_cut ⟨k + 1, ⟨⟨rfl, rfl, rfl, rfl, rfl, rfl, rfl⟩, rfl, by omega⟩, (show xl.length - (k + 1) < xl.length - k from by omega)⟩
            ·
              refine q_skip rfl rfl rfl rfl rfl rfl ?_
              refine q_skip rfl rfl rfl rfl rfl rfl ?_
              refine q_skip rfl rfl rfl rfl rfl rfl ?_
              refine q_skip rfl rfl rfl rfl rfl rfl ?_
              refine q_skip rfl rfl rfl rfl rfl rfl ?_
              refine q_skip rfl rfl rfl rfl rfl rfl ?_
              refine q_skip rfl rfl rfl rfl rfl rfl ?_
              refine q_skip rfl rfl rfl rfl rfl rfl ?_
              refine q_skip rfl rfl rfl rfl rfl rfl ?_
              refine q_skip rfl rfl rfl rfl rfl rfl ?_
              refine q_val (v := .bool false) rfl rfl rfl (e_pick_f rfl) ?_
              refine q_val (v := .bool false) rfl rfl rfl (e_move) ?_
              refine q_skip rfl rfl rfl rfl rfl rfl ?_
              refine q_skip rfl rfl rfl rfl rfl rfl ?_
              refine q_skip rfl rfl rfl rfl rfl rfl ?_
              refine q_skip rfl rfl rfl rfl rfl rfl ?_
              refine q_skip rfl rfl rfl rfl rfl rfl ?_
              refine q_val (v := .bool false) rfl rfl rfl (e_pick_f rfl) ?_
              refine q_nil ?_
              refine f_then ?_
              refine c_no rfl ?_
              refine c_skip ?_
              refine f_block ?_
              refine f_then ?_
              refine c_region ?_
              refine l_val (v := Nx (k + 1)) rfl rfl rfl (e_add (a := ((k : Nat) : Int)) (b := (1 : Int)) rfl rfl (i64n (by omega) (by omega))) ?_
              refine l_val (v := Nx (k + 1)) rfl rfl rfl (e_move) ?_
              refine l_nil ?_
              exact f_cut ⟨k + 1, ⟨⟨rfl, rfl, rfl, rfl, rfl, rfl, rfl⟩, rfl, by omega⟩, (show xl.length - (k + 1) < xl.length - k from by omega)⟩
          ·
            refine c_exit ?_
            refine f_then_exit ?_
            refine f_then_exit ?_
            refine f_exit ?_
            refine f_then ?_
            refine c_seq ?_
            refine c_region ?_
            refine l_val (v := Nx (nt)) rfl rfl rfl (e_move) ?_
            refine l_val (v := Nx (nf)) rfl rfl rfl (e_move) ?_
            refine l_val (v := .bool (decide (((nt : Nat) : Int) = ((nf : Nat) : Int)))) rfl rfl rfl (e_eql (a := ((nt : Nat) : Int)) (b := ((nf : Nat) : Int)) rfl rfl) ?_
            refine l_val (v := .bool (decide (((nt : Nat) : Int) = ((nf : Nat) : Int)))) rfl rfl rfl (e_assign) ?_
            refine l_nil ?_
            refine f_then ?_
            refine c_ret ?_
            refine ret1 Try.results3 (v := .bool (decide (((nt : Nat) : Int) = ((nf : Nat) : Int)))) rfl ?_
            intro w hw
            exact ⟨congrArg (fun b : Bool => Ending.returned (.bool b)) (decide_eq_true (congrArg (fun z : Nat => ((z : Nat) : Int)) hfree)), st_mask [false, false] rfl (bk1 _ _ (st_mask [false] rfl (bk2 _ _ (st_mask [false, false, false, false] rfl hw))))⟩
end Go.Proofs
