/-
  JournalHeads, walked. Printed by a program of my own.
-/
import Derived.Test.YtkpdcajddpiknaaJn12
import Derived.Test.YtkpdcajddpiknaaJnLaw7
namespace Go.Proofs
open Go Go.Sl Go.Jn
theorem tf117 : cfB Try.prog 11 = true := by kernel_rfl
set_option maxHeartbeats 4000000 in
theorem heads_ok (β : Base) (w : World) (hw : St β [] w) (xs : List KOp) (v : Value) (hs : Sl OpR β.heap v xs) (bs : Bs) (v2 : Value) (hs2 : Sl U8R β.heap v2 bs) (rs : List Bs) (v3 : Value) (hs3 : Sl BsR β.heap v3 rs) (at_ by_ : UInt8) : Calls Try.prog 9 #[v, v2, v3, Bx at_, Bx by_] w fun r w' => r = .returned (.bool true) ∧ St β [] w' := by
  obtain ⟨va, vc, rfl, vl, vm, ve⟩ := hs.get
  obtain ⟨v2a, v2c, rfl, v2l, v2m, v2e⟩ := hs2.get
  obtain ⟨v3a, v3c, rfl, v3l, v3m, v3e⟩ := hs3.get
  refine enter (n := 123) Try.func9 rfl Try.ntmps9 rfl ?_ hw
  refine c_seq ?_
  refine c_region ?_
  refine l_val (v := .bool false) rfl rfl rfl (e_assign) ?_
  refine l_nil ?_
  refine f_then ?_
  refine c_seq ?_
  refine c_region ?_
  refine l_val (v := .slice va (xs.length) (vc)) rfl rfl rfl (e_move) ?_
  refine l_call rfl rfl rfl (cl_value (fst := []) (cap := []) (vs := [.slice va (xs.length) (vc)]) (all := [.slice va (xs.length) (vc)]) tf117 rfl rfl rfl) ?_
  intro w hw
  obtain ⟨β1, sb, kn, hw1, back⟩ := St.frame_all hw
  refine (grown_ok β1 w hw1 xs _ (Sl.mono _ _ _ _ _ sb (⟨⟨_, _, rfl, vl, vm, ve⟩⟩ : Sl OpR _ _ xs))).mono ?_
  rintro e w' ⟨S1, K2, I3, C4, p5, c6, rfl, hI, hC, hP, hX, hw'⟩
  refine ⟨_, rfl, _, back _ _ hw', ?_⟩
  clear hw hw1 hw' back kn sb
  refine l_val (v := .tuple #[.pointer (some ⟨S1, 0, none⟩), .agg #[Nx (C4.epoch), Nx (C4.next), .string (C4.state), .slice p5 (C4.recs).length c6], .bool true]) rfl rfl rfl (e_move) ?_
  refine l_val (v := .pointer (some ⟨S1, 0, none⟩)) rfl rfl rfl (e_extract (vs := #[.pointer (some ⟨S1, 0, none⟩), .agg #[Nx (C4.epoch), Nx (C4.next), .string (C4.state), .slice p5 (C4.recs).length c6], .bool true]) rfl rfl) ?_
  refine l_val (v := .agg #[Nx (C4.epoch), Nx (C4.next), .string (C4.state), .slice p5 (C4.recs).length c6]) rfl rfl rfl (e_extract (vs := #[.pointer (some ⟨S1, 0, none⟩), .agg #[Nx (C4.epoch), Nx (C4.next), .string (C4.state), .slice p5 (C4.recs).length c6], .bool true]) rfl rfl) ?_
  refine l_val (v := .bool true) rfl rfl rfl (e_extract (vs := #[.pointer (some ⟨S1, 0, none⟩), .agg #[Nx (C4.epoch), Nx (C4.next), .string (C4.state), .slice p5 (C4.recs).length c6], .bool true]) rfl rfl) ?_
  refine l_mv rfl rfl rfl (m_alloc tf112) ?_
  rintro _ _ ⟨b7, rfl, rfl⟩
  refine l_val (v := .pointer (some ⟨S1, 0, none⟩)) rfl rfl rfl (e_assign) ?_
  refine l_mu rfl rfl (m_store 0 tf101 (b := b7) (o := 0) (T := 27) (cs := #[.int .i64 (0), .int .i64 (0), .string ((⟨#[]⟩ : ByteArray)), .slice none 0 0]) (cs' := #[Nx (C4.epoch), Nx (C4.next), .string (C4.state), .slice p5 (C4.recs).length c6]) (v := .agg #[Nx (C4.epoch), Nx (C4.next), .string (C4.state), .slice p5 (C4.recs).length c6]) rfl rfl rfl rfl rfl rfl rfl) ?_
  refine l_val (v := .bool true) rfl rfl rfl (e_assign) ?_
  refine l_nil ?_
  refine f_then ?_
  refine c_seq ?_
  refine c_seq ?_
  refine c_region ?_
  refine l_val (v := .bool true) rfl rfl rfl (e_move) ?_
  refine l_val (v := .bool false) rfl rfl rfl (e_not (a := true) rfl) ?_
  refine l_nil ?_
  refine f_then ?_
  refine c_no rfl ?_
  refine c_skip ?_
  refine f_then ?_
  refine c_seq ?_
  have hfit := hI.fits (show 8 ≤ 100 by omega)
  have hnN := hI.nN
  have hsz0 := hI.sz
  have heN := hI.eN
  have hrl0 := hI.wf.next
  have hC1a := hC.1
  have hC2a := hC.2.1
  have hC4a := congrArg List.length hC.2.2.2
  rw [List.length_map] at hC4a
  refine c_region ?_
  refine l_val (v := .pointer (some ⟨S1, 0, none⟩)) rfl rfl rfl (e_move) ?_
  refine l_call rfl rfl rfl (cl_value (fst := []) (cap := []) (vs := [.pointer (some ⟨S1, 0, none⟩)]) (all := [.pointer (some ⟨S1, 0, none⟩)]) tf107 rfl rfl rfl) ?_
  intro w hw
  replace hw := hw.perm (L' := _ :: _ :: _ :: []) (by exact (((perm_front 2 rfl).trans (perm_front 1 rfl)).trans (perm_front 2 rfl)))
  obtain ⟨β1, sb, kn, hw1, back⟩ := St.frame (L := [_]) (M := _ :: _ :: []) hw
  refine (again_ok β1 w S1 K2 ((hI.pow (p := -1) (by decide) (by decide)).okP (by omega)) I3 hI.read hw1).mono ?_
  rintro e w' ⟨J8, rfl, hw'⟩
  refine ⟨_, rfl, _, back _ _ hw', ?_⟩
  clear hw hw1 hw' back kn sb
  refine l_val (v := .tuple #[.pointer (some ⟨J8, 0, none⟩), .bool true]) rfl rfl rfl (e_move) ?_
  refine l_val (v := .pointer (some ⟨J8, 0, none⟩)) rfl rfl rfl (e_extract (vs := #[.pointer (some ⟨J8, 0, none⟩), .bool true]) rfl rfl) ?_
  refine l_val (v := .bool true) rfl rfl rfl (e_extract (vs := #[.pointer (some ⟨J8, 0, none⟩), .bool true]) rfl rfl) ?_
  refine l_val (v := .pointer (some ⟨J8, 0, none⟩)) rfl rfl rfl (e_assign) ?_
  refine l_val (v := .bool true) rfl rfl rfl (e_assign) ?_
  refine l_nil ?_
  refine f_then ?_
  refine c_seq ?_
  refine c_re (L' := [jourR J8 S1 I3 false, storeR S1 K2, pt b7 (.cells #[Nx (C4.epoch), Nx (C4.next), .string (C4.state), .slice p5 (C4.recs).length c6] 27), row (.slice p5 (C4.recs).length c6) 9 1 ((C4.recs).length) (C4.recs.map (fun s : ByteArray => Value.string s))]) (by rw [cut_self hI hP]; rfl) ?_
  refine c_rowcap 3 rfl (fun hq9 hq10 => ?_)
  have hq11 : c6 ≤ 9223372036854775807 := by unfold maxLen at hq10; omega
  refine c_region ?_
  refine l_val (v := .slice v2a (bs.length) (v2c)) rfl rfl rfl (e_move) ?_
  refine l_val (v := .slice v2a (bs.length) (v2c)) rfl rfl rfl (e_move) ?_
  refine l_val (v := Nx (bs.length)) rfl rfl rfl (e_len (a := v2a) (n := bs.length) (c := v2c) rfl tf11) ?_
  refine l_val (v := Nx (min bs.length 300)) rfl rfl rfl (ev_eq (congrArg (Value.int .i64) (by omega)) (e_min (a := ((bs.length : Nat) : Int)) (b := (300 : Int)) rfl rfl)) ?_
  obtain ⟨zs12, hz13⟩ : ∃ zs, zs = (bs.take (min bs.length 300)) := ⟨_, rfl⟩
  have zl14 : zs12.length = min (min bs.length 300) (bs).length - 0 := by rw [hz13]; simp; try omega
  have ze15 := (Elems.take (min bs.length 300) v2e)
  rw [← hz13] at ze15
  refine l_val (v := .slice v2a (zs12.length) (v2c)) rfl rfl rfl (ev_eq (by rw [show zs12.length = min bs.length 300 by omega]) (e_slice_hi (a := v2a) (len := bs.length) (cap := v2c) (h := min bs.length 300) tf12 rfl rfl (by omega))) ?_
  refine l_val (v := .slice v2a (zs12.length) (v2c)) rfl rfl rfl (e_assign) ?_
  refine l_nil ?_
  refine f_then ?_
  refine c_seq ?_
  refine c_seq ?_
  have hbl : (zs12 : Bs).length ≤ 300 := by omega
  have hb300 : (zs12 : Bs).take 300 = zs12 := List.take_of_length_le hbl
  have hc : ckOk K2 (I3.epoch + 1) I3.next zs12 := ck_neg hP
  refine c_region ?_
  refine l_val (v := .bool true) rfl rfl rfl (e_move) ?_
  refine l_val (v := .bool false) rfl rfl rfl (e_not (a := true) rfl) ?_
  refine l_val (v := .bool false) rfl rfl rfl (e_move) ?_
  refine g_val (v := .agg #[Nx (C4.epoch), Nx (C4.next), .string (C4.state), .slice p5 (C4.recs).length c6]) rfl rfl rfl rfl rfl (e_load tf101 (cs := [Nx (C4.epoch), Nx (C4.next), .string (C4.state), .slice p5 (C4.recs).length c6]) rfl (k_pt 2 (cs := #[Nx (C4.epoch), Nx (C4.next), .string (C4.state), .slice p5 (C4.recs).length c6]) (vs := [Nx (C4.epoch), Nx (C4.next), .string (C4.state), .slice p5 (C4.recs).length c6]) rfl rfl) rfl) ?_
  refine g_val (v := .pointer (some ⟨J8, 0, none⟩)) rfl rfl rfl rfl rfl (e_move) ?_
  refine g_call rfl rfl rfl rfl rfl (cl_value (fst := []) (cap := []) (vs := [.agg #[Nx (C4.epoch), Nx (C4.next), .string (C4.state), .slice p5 (C4.recs).length c6], .pointer (some ⟨J8, 0, none⟩)]) (all := [.agg #[Nx (C4.epoch), Nx (C4.next), .string (C4.state), .slice p5 (C4.recs).length c6], .pointer (some ⟨J8, 0, none⟩)]) tf115 rfl rfl rfl) ?_
  intro w hw
  obtain ⟨β1, sb, kn, hw1, back⟩ := St.frame_all hw
  refine (is_ok β1 w hw1 C4 p5 c6 (by omega) (by omega) (kn _ (Knows.of_res 3 rfl (Elems.mono _ _ _) fun _ h => row_stre h)) J8 S1 I3 false (kn _ (Knows.of_res 0 rfl (JF.mono _ _ _ _) fun _ h => jour_jf h)) (by have := hI.st; omega) (by have := hI.wf.next; have := hI.nN; omega) (fun b hb => by have := hI.rs b hb; omega)).mono ?_
  rintro e w' ⟨rfl, hw'⟩
  refine ⟨_, rfl, _, back _ _ hw', ?_⟩
  clear hw hw1 hw' back kn sb
  refine g_val (v := .bool (decide (¬ (isP C4 I3)))) rfl rfl rfl rfl rfl (e_not_p (p := isP C4 I3) rfl) ?_
  refine l_val (v := .bool (decide (¬ (isP C4 I3)))) rfl rfl rfl (e_pick_f rfl) ?_
  refine l_val (v := .bool (decide (¬ (isP C4 I3)))) rfl rfl rfl (e_move) ?_
  refine l_split (s := 49) (p := ¬ (isP C4 I3)) rfl (fun h => ?_) (fun h => ?_)
  exact absurd h (Decidable.not_not.2 hC)
  refine g_val (v := .pointer (some ⟨J8, 0, none⟩)) rfl rfl rfl rfl rfl (e_move) ?_
  refine g_val (v := .slice v2a (zs12.length) (v2c)) rfl rfl rfl rfl rfl (e_move) ?_
  refine g_call rfl rfl rfl rfl rfl (cl_value (fst := []) (cap := []) (vs := [.pointer (some ⟨J8, 0, none⟩), .slice v2a (zs12.length) (v2c)]) (all := [.pointer (some ⟨J8, 0, none⟩), .slice v2a (zs12.length) (v2c)]) tf103 rfl rfl rfl) ?_
  intro w hw
  replace hw := hw.perm (L' := _ :: _ :: _ :: _ :: []) (by exact ((((perm_front 3 rfl).trans (perm_front 3 rfl)).trans (perm_front 3 rfl)).trans (perm_front 3 rfl)))
  obtain ⟨β1, sb, kn, hw1, back⟩ := St.frame (L := [_, _]) (M := _ :: _ :: []) hw
  refine (checkp_ok β1 w J8 S1 K2 I3 zs12 (by omega) hfit (by omega) hc _ (Sl.mono _ _ _ _ _ sb (⟨⟨_, _, rfl, by omega, by omega, ze15⟩⟩ : Sl U8R _ _ zs12)) hw1).mono ?_
  rintro e w' ⟨rfl, hw'⟩
  refine ⟨_, rfl, _, back _ _ hw', ?_⟩
  clear hw hw1 hw' back kn sb
  refine g_val (v := .bool false) rfl rfl rfl rfl rfl (e_neq (a := (0 : Int)) (b := (0 : Int)) rfl rfl) ?_
  refine l_val (v := .bool false) rfl rfl rfl (e_pick_f rfl) ?_
  refine l_nil ?_
  refine f_then ?_
  refine c_no rfl ?_
  refine c_skip ?_
  refine f_then ?_
  refine c_seq ?_
  refine c_region ?_
  refine l_val (v := .agg #[Nx (C4.epoch), Nx (C4.next), .string (C4.state), .slice p5 (C4.recs).length c6]) rfl rfl rfl (e_load tf101 (cs := [Nx (C4.epoch), Nx (C4.next), .string (C4.state), .slice p5 (C4.recs).length c6]) rfl (k_pt 2 (cs := #[Nx (C4.epoch), Nx (C4.next), .string (C4.state), .slice p5 (C4.recs).length c6]) (vs := [Nx (C4.epoch), Nx (C4.next), .string (C4.state), .slice p5 (C4.recs).length c6]) rfl rfl) rfl) ?_
  refine l_val (v := .slice v2a (zs12.length) (v2c)) rfl rfl rfl (e_move) ?_
  refine l_val (v := .agg #[.int .u8 (2), .int .u8 (0), .slice v2a (zs12.length) (v2c)]) rfl rfl rfl (e_build tf84 tf86 (vs := [(0, .int .u8 (2)), (2, .slice v2a (zs12.length) (v2c))]) (cells := #[.int .u8 (2), .int .u8 (0), .slice v2a (zs12.length) (v2c)]) rfl rfl) ?_
  refine l_call rfl rfl rfl (cl_value (fst := []) (cap := []) (vs := [.agg #[Nx (C4.epoch), Nx (C4.next), .string (C4.state), .slice p5 (C4.recs).length c6], .agg #[.int .u8 (2), .int .u8 (0), .slice v2a (zs12.length) (v2c)]]) (all := [.agg #[Nx (C4.epoch), Nx (C4.next), .string (C4.state), .slice p5 (C4.recs).length c6], .agg #[.int .u8 (2), .int .u8 (0), .slice v2a (zs12.length) (v2c)]]) tf114 rfl rfl rfl) ?_
  intro w hw
  obtain ⟨β1, sb, kn, hw1, back⟩ := St.frame_all hw
  refine (with_2 β1 w hw1 C4 p5 c6 (by omega) (by omega) (kn _ (Knows.of_res 3 rfl (Elems.mono _ _ _) fun _ h => row_stre h)) (by first | omega | (simp only []; omega)) (⟨(2 : UInt8), (0 : UInt8), zs12⟩ : KOp) v2a v2c (show (zs12 : Bs).length ≤ v2c by omega) (by omega) (Elems.mono _ _ _ _ _ sb ze15) rfl).mono ?_
  rintro e w' ⟨rfl, hw'⟩
  refine ⟨_, rfl, _, back _ _ hw', ?_⟩
  clear hw hw1 hw' back kn sb
  refine l_mv rfl rfl rfl (m_alloc tf112) ?_
  rintro _ _ ⟨b16, rfl, rfl⟩
  refine l_mu rfl rfl (m_store 0 tf101 (b := b16) (o := 0) (T := 27) (cs := #[.int .i64 (0), .int .i64 (0), .string ((⟨#[]⟩ : ByteArray)), .slice none 0 0]) (cs' := #[Nx (C4.epoch + 1), Nx (C4.next), .string (str ((⟨(2 : UInt8), (0 : UInt8), zs12⟩ : KOp).body.take 300)), .slice none 0 0]) (v := .agg #[Nx (C4.epoch + 1), Nx (C4.next), .string (str ((⟨(2 : UInt8), (0 : UInt8), zs12⟩ : KOp).body.take 300)), .slice none 0 0]) rfl rfl rfl rfl rfl rfl rfl) ?_
  refine l_nil ?_
  refine f_then ?_
  refine c_seq ?_
  refine c_seq ?_
  refine c_region ?_
  refine l_val (v := .slice v3a (rs.length) (v3c)) rfl rfl rfl (e_move) ?_
  refine l_val (v := .slice v3a (rs.length) (v3c)) rfl rfl rfl (e_move) ?_
  refine l_val (v := Nx (rs.length)) rfl rfl rfl (e_len (a := v3a) (n := rs.length) (c := v3c) rfl tf77) ?_
  refine l_val (v := Nx (min rs.length 4)) rfl rfl rfl (ev_eq (congrArg (Value.int .i64) (by omega)) (e_min (a := ((rs.length : Nat) : Int)) (b := (4 : Int)) rfl rfl)) ?_
  obtain ⟨zs17, hz18⟩ : ∃ zs, zs = (rs.take (min rs.length 4)) := ⟨_, rfl⟩
  have zl19 : zs17.length = min (min rs.length 4) (rs).length - 0 := by rw [hz18]; simp; try omega
  have ze20 := (Elems.take (min rs.length 4) v3e)
  rw [← hz18] at ze20
  refine l_val (v := .slice v3a (zs17.length) (v3c)) rfl rfl rfl (ev_eq (by rw [show zs17.length = min rs.length 4 by omega]) (e_slice_hi (a := v3a) (len := rs.length) (cap := v3c) (h := min rs.length 4) tf66 rfl rfl (by omega))) ?_
  refine l_val (v := Nx (zs17.length)) rfl rfl rfl (e_len (a := v3a) (n := zs17.length) (c := v3c) rfl tf77) ?_
  refine l_val (v := .int .i64 (0)) rfl rfl rfl (e_move) ?_
  refine l_nil ?_
  refine f_then ?_
  refine c_block ?_
  refine c_emp (r := row (.slice none 0 0) 9 1 0 ([].map (fun s : ByteArray => Value.string s))) (row_nil _ _ _) ?_
  refine c_perm (L' := [jourR J8 S1 (ckI I3 zs12) false, storeR S1 (ckS K2 (I3.epoch + 1) I3.next zs12), pt b16 (.cells #[Nx (C4.epoch + 1), Nx (C4.next), .string (str ((⟨(2 : UInt8), (0 : UInt8), zs12⟩ : KOp).body.take 300)), .slice none 0 0] 27), row (.slice none 0 0) 9 1 (0) ([].map (fun s : ByteArray => Value.string s)), pt b7 (.cells #[Nx (C4.epoch), Nx (C4.next), .string (C4.state), .slice p5 (C4.recs).length c6] 27), row (.slice p5 (C4.recs).length c6) 9 1 ((C4.recs).length) (C4.recs.map (fun s : ByteArray => Value.string s))]) (by exact ((((((perm_front 5 rfl).trans (perm_front 5 rfl)).trans (perm_front 2 rfl)).trans (perm_front 3 rfl)).trans (perm_front 5 rfl)).trans (perm_front 5 rfl))) ?_
  refine c_mask [true, true, true, true, true, true] rfl ?_
  refine c_loop (fun (x_ : Nat × KS × KI × KC × Option Addr × Nat) (f : Fm) (L : List Res) => match x_ with | (k, Kb, Ib, Cb, pn, cn) => (f 3 = Bx (at_) ∧ f 4 = Bx (by_) ∧ f 11 = .pointer (some ⟨S1, 0, none⟩) ∧ f 12 = .pointer (some ⟨b7, 0, none⟩) ∧ f 14 = .pointer (some ⟨J8, 0, none⟩) ∧ f 15 = .pointer (some ⟨b16, 0, none⟩) ∧ f 63 = .slice v3a (zs17.length) (v3c) ∧ f 64 = Nx (zs17.length) ∧ f 65 = Nx (k)) ∧ L = [jourR J8 S1 Ib false, storeR S1 Kb, pt b16 (.cells #[Nx (Cb.epoch), Nx (Cb.next), .string (Cb.state), .slice pn (Cb.recs).length cn] 27), row (.slice pn (Cb.recs).length cn) 9 1 ((Cb.recs).length) (Cb.recs.map (fun s : ByteArray => Value.string s)), pt b7 (.cells #[Nx (C4.epoch), Nx (C4.next), .string (C4.state), .slice p5 (C4.recs).length c6] 27), row (.slice p5 (C4.recs).length c6) 9 1 ((C4.recs).length) (C4.recs.map (fun s : ByteArray => Value.string s))] ∧ (k ≤ 4 ∧ Inv Kb Ib (9 + k) true ∧ isP Cb Ib ∧ Kb.power = -1 ∧ HeadX Kb.head Ib.epoch ∧ Ib.epoch = I3.epoch + 1 ∧ Kb.area I3.epoch = encI I3)) (fun (x_ : Nat × KS × KI × KC × Option Addr × Nat) => match x_ with | (k, Kb, Ib, Cb, pn, cn) => 4 - k) (0, (ckS K2 (I3.epoch + 1) I3.next zs12), (ckI I3 zs12), (⟨C4.epoch + 1, C4.next, str ((⟨(2 : UInt8), (0 : UInt8), zs12⟩ : KOp).body.take 300), []⟩ : KC), none, 0) ?_ ?_
  · exact ⟨⟨rfl, rfl, rfl, rfl, rfl, rfl, rfl, rfl, rfl⟩, rfl, ⟨by omega, hI.ck_ok (by omega) hbl hc, by rw [hb300]; exact isP_ck hC, ckS_neg hP, hI.headX_ck hP (by omega) hX, rfl, ck_old hI hP⟩⟩
  rintro ⟨k, Kb, Ib, Cb, pn, cn⟩ f0 L0 ⟨⟨hs3, hs4, hs11, hs12, hs14, hs15, hs63, hs64, hs65⟩, hL, ⟨hk, hI', hC', hP', hX', he', ho'⟩⟩
  subst L0
  refine rebase (d := 3) hs3 ?_
  refine rebase (d := 4) hs4 ?_
  refine rebase (d := 11) hs11 ?_
  refine rebase (d := 12) hs12 ?_
  refine rebase (d := 14) hs14 ?_
  refine rebase (d := 15) hs15 ?_
  refine rebase (d := 63) hs63 ?_
  refine rebase (d := 64) hs64 ?_
  refine rebase (d := 65) hs65 ?_
  clear hs3 hs4 hs11 hs12 hs14 hs15 hs63 hs64 hs65
  have hfit' := hI'.fits (show 9 + k ≤ 100 by omega)
  have hnN' := hI'.nN
  have hsz' := hI'.sz
  have heN' := hI'.eN
  have hrl' := hI'.wf.next
  have hlens' := hI'.lens
  refine c_seq ?_
  refine c_region ?_
  refine l_val (v := .bool (decide (((k : Nat) : Int) < ((zs17.length : Nat) : Int)))) rfl rfl rfl (e_lss (a := ((k : Nat) : Int)) (b := ((zs17.length : Nat) : Int)) rfl rfl) ?_
  refine l_nil ?_
  refine f_then ?_
  refine c_seq ?_
  refine c_if (((k : Nat) : Int) < ((zs17.length : Nat) : Int)) rfl (fun hc21 => ?_) (fun hc21 => ?_)
  ·
    refine c_skip ?_
    refine f_then ?_
    refine c_seq ?_
    refine c_block ?_
    refine c_seq ?_
    refine c_rowcap 3 rfl (fun hq22 hq23 => ?_)
    have hq24 : cn ≤ 9223372036854775807 := by unfold maxLen at hq23; omega
    have hC1b := hC'.1
    have hC2b := hC'.2.1
    have hC4b := congrArg List.length hC'.2.2.2
    rw [List.length_map] at hC4b
    refine c_region ?_
    obtain ⟨x25, hx26⟩ : ∃ x_, (zs17)[k]? = some x_ := ⟨_, List.getElem?_eq_getElem (by omega)⟩
    obtain ⟨ha27, cs28, hc29, hr30⟩ := ze20 _ _ hx26
    obtain ⟨v31, rfl, hv32⟩ := hr30
    obtain ⟨a33, c34, rfl, hl35, hm36, he37⟩ := (hv32).get
    refine l_val (v := .pointer (some ((ba v3a).add (k * 1)))) rfl rfl rfl (e_indexAddr (k := k) (len := zs17.length) (cap := v3c) (a := v3a) rfl rfl tf66 (by omega) ha27) ?_
    refine l_val (v := .slice a33 (x25.length) (c34)) rfl rfl rfl (e_load1 tf21 (v := .slice a33 (x25.length) (c34)) rfl (Knows.of_base (Cs.mono _ _) hc29)) ?_
    refine l_val (v := .slice a33 (x25.length) (c34)) rfl rfl rfl (e_assign) ?_
    refine l_nil ?_
    refine f_then ?_
    refine c_seq ?_
    refine c_region ?_
    refine l_val (v := .slice a33 (x25.length) (c34)) rfl rfl rfl (e_move) ?_
    refine l_val (v := .slice a33 (x25.length) (c34)) rfl rfl rfl (e_move) ?_
    refine l_val (v := Nx (x25.length)) rfl rfl rfl (e_len (a := a33) (n := x25.length) (c := c34) rfl tf11) ?_
    refine l_val (v := Nx (min x25.length 300)) rfl rfl rfl (ev_eq (congrArg (Value.int .i64) (by omega)) (e_min (a := ((x25.length : Nat) : Int)) (b := (300 : Int)) rfl rfl)) ?_
    obtain ⟨zs38, hz39⟩ : ∃ zs, zs = (x25.take (min x25.length 300)) := ⟨_, rfl⟩
    have zl40 : zs38.length = min (min x25.length 300) (x25).length - 0 := by rw [hz39]; simp; try omega
    have ze41 := (Elems.take (min x25.length 300) he37)
    rw [← hz39] at ze41
    refine l_val (v := .slice a33 (zs38.length) (c34)) rfl rfl rfl (ev_eq (by rw [show zs38.length = min x25.length 300 by omega]) (e_slice_hi (a := a33) (len := x25.length) (cap := c34) (h := min x25.length 300) tf12 rfl rfl (by omega))) ?_
    refine l_val (v := .slice a33 (zs38.length) (c34)) rfl rfl rfl (e_assign) ?_
    refine l_nil ?_
    refine f_then ?_
    refine c_seq ?_
    refine c_seq ?_
    have hbl2 : (zs38 : Bs).length ≤ 300 := by omega
    have hb302 : (zs38 : Bs).take 300 = zs38 := List.take_of_length_le hbl2
    have hc2 : apOk Kb Ib zs38 := ap_neg hP'
    refine c_region ?_
    refine l_val (v := .pointer (some ⟨J8, 0, none⟩)) rfl rfl rfl (e_move) ?_
    refine l_val (v := .slice a33 (zs38.length) (c34)) rfl rfl rfl (e_move) ?_
    refine l_call rfl rfl rfl (cl_value (fst := []) (cap := []) (vs := [.pointer (some ⟨J8, 0, none⟩), .slice a33 (zs38.length) (c34)]) (all := [.pointer (some ⟨J8, 0, none⟩), .slice a33 (zs38.length) (c34)]) tf102 rfl rfl rfl) ?_
    intro w hw
    replace hw := hw.perm (L' := _ :: _ :: _ :: _ :: _ :: _ :: []) (by exact ((((((perm_front 5 rfl).trans (perm_front 5 rfl)).trans (perm_front 5 rfl)).trans (perm_front 5 rfl)).trans (perm_front 5 rfl)).trans (perm_front 5 rfl)))
    obtain ⟨β1, sb, kn, hw1, back⟩ := St.frame (L := [_, _]) (M := _ :: _ :: _ :: _ :: []) hw
    refine (append_ok β1 w J8 S1 Kb Ib zs38 (by omega) hfit' (by omega) (by omega) (by omega) (by omega) (by omega) hc2 _ (Sl.mono _ _ _ _ _ sb (⟨⟨_, _, rfl, by omega, by omega, ze41⟩⟩ : Sl U8R _ _ zs38)) hw1).mono ?_
    rintro e w' ⟨rfl, hw'⟩
    refine ⟨_, rfl, _, back _ _ hw', ?_⟩
    clear hw hw1 hw' back kn sb
    refine l_val (v := .tuple #[Nx (Ib.next), .int .i64 (0)]) rfl rfl rfl (e_move) ?_
    refine l_val (v := Nx (Ib.next)) rfl rfl rfl (e_extract (vs := #[Nx (Ib.next), .int .i64 (0)]) rfl rfl) ?_
    refine l_val (v := .int .i64 (0)) rfl rfl rfl (e_extract (vs := #[Nx (Ib.next), .int .i64 (0)]) rfl rfl) ?_
    refine l_val (v := Nx (Ib.next)) rfl rfl rfl (e_assign) ?_
    refine l_val (v := .int .i64 (0)) rfl rfl rfl (e_assign) ?_
    refine l_nil ?_
    refine f_then ?_
    refine c_seq ?_
    refine c_region ?_
    refine l_val (v := .int .i64 (0)) rfl rfl rfl (e_move) ?_
    refine l_val (v := .bool false) rfl rfl rfl (e_neq (a := (0 : Int)) (b := (0 : Int)) rfl rfl) ?_
    refine l_nil ?_
    refine f_then ?_
    refine c_no rfl ?_
    refine c_skip ?_
    refine f_then ?_
    refine c_region ?_
    refine l_val (v := .agg #[Nx (Cb.epoch), Nx (Cb.next), .string (Cb.state), .slice pn (Cb.recs).length cn]) rfl rfl rfl (e_load tf101 (cs := [Nx (Cb.epoch), Nx (Cb.next), .string (Cb.state), .slice pn (Cb.recs).length cn]) rfl (k_pt 2 (cs := #[Nx (Cb.epoch), Nx (Cb.next), .string (Cb.state), .slice pn (Cb.recs).length cn]) (vs := [Nx (Cb.epoch), Nx (Cb.next), .string (Cb.state), .slice pn (Cb.recs).length cn]) rfl rfl) rfl) ?_
    refine l_val (v := .slice a33 (zs38.length) (c34)) rfl rfl rfl (e_move) ?_
    refine l_val (v := .agg #[.int .u8 (0), .int .u8 (0), .slice a33 (zs38.length) (c34)]) rfl rfl rfl (e_build tf84 tf86 (vs := [(2, .slice a33 (zs38.length) (c34))]) (cells := #[.int .u8 (0), .int .u8 (0), .slice a33 (zs38.length) (c34)]) rfl rfl) ?_
    refine l_call rfl rfl rfl (cl_value (fst := []) (cap := []) (vs := [.agg #[Nx (Cb.epoch), Nx (Cb.next), .string (Cb.state), .slice pn (Cb.recs).length cn], .agg #[.int .u8 (0), .int .u8 (0), .slice a33 (zs38.length) (c34)]]) (all := [.agg #[Nx (Cb.epoch), Nx (Cb.next), .string (Cb.state), .slice pn (Cb.recs).length cn], .agg #[.int .u8 (0), .int .u8 (0), .slice a33 (zs38.length) (c34)]]) tf114 rfl rfl rfl) ?_
    intro w hw
    obtain ⟨β1, sb, kn, hw1, back⟩ := St.frame_all hw
    refine (with_app β1 w hw1 Cb pn cn (by omega) (by omega) (kn _ (Knows.of_res 3 rfl (Elems.mono _ _ _) fun _ h => row_stre h)) (by first | omega | (simp only []; omega)) (by first | omega | (simp only []; omega)) (⟨(0 : UInt8), (0 : UInt8), zs38⟩ : KOp) a33 c34 (show (zs38 : Bs).length ≤ c34 by omega) (by omega) (Elems.mono _ _ _ _ _ sb ze41) (.inl rfl)).mono ?_
    rintro e w' ⟨p42, c43, rfl, hw'⟩
    refine ⟨_, rfl, _, back _ _ hw', ?_⟩
    clear hw hw1 hw' back kn sb
    refine l_mu rfl rfl (m_store 3 tf101 (b := b16) (o := 0) (T := 27) (cs := #[Nx (Cb.epoch), Nx (Cb.next), .string (Cb.state), .slice pn (Cb.recs).length cn]) (cs' := #[Nx (Cb.epoch), Nx (Cb.next + 1), .string (Cb.state), .slice p42 ((Cb.recs ++ [str ((⟨(0 : UInt8), (0 : UInt8), zs38⟩ : KOp).body.take 300)])).length c43]) (v := .agg #[Nx (Cb.epoch), Nx (Cb.next + 1), .string (Cb.state), .slice p42 ((Cb.recs ++ [str ((⟨(0 : UInt8), (0 : UInt8), zs38⟩ : KOp).body.take 300)])).length c43]) rfl rfl rfl rfl rfl rfl rfl) ?_
    refine l_nil ?_
    refine f_block ?_
    refine f_then ?_
    refine c_region ?_
    refine l_val (v := Nx (k + 1)) rfl rfl rfl (e_add (a := ((k : Nat) : Int)) (b := (1 : Int)) rfl rfl (i64n (by omega) (by omega))) ?_
    refine l_val (v := Nx (k + 1)) rfl rfl rfl (e_move) ?_
    refine l_nil ?_
    refine f_perm (L' := [jourR J8 S1 (apI Ib zs38) false, storeR S1 (apS Kb Ib zs38), pt b16 (.cells #[Nx (Cb.epoch), Nx (Cb.next + 1), .string (Cb.state), .slice p42 ((Cb.recs ++ [str ((⟨(0 : UInt8), (0 : UInt8), zs38⟩ : KOp).body.take 300)])).length c43] 27), row (.slice p42 ((Cb.recs ++ [str ((⟨(0 : UInt8), (0 : UInt8), zs38⟩ : KOp).body.take 300)])).length c43) 9 1 (((Cb.recs ++ [str ((⟨(0 : UInt8), (0 : UInt8), zs38⟩ : KOp).body.take 300)])).length) ((Cb.recs ++ [str ((⟨(0 : UInt8), (0 : UInt8), zs38⟩ : KOp).body.take 300)]).map (fun s : ByteArray => Value.string s)), pt b7 (.cells #[Nx (C4.epoch), Nx (C4.next), .string (C4.state), .slice p5 (C4.recs).length c6] 27), row (.slice p5 (C4.recs).length c6) 9 1 ((C4.recs).length) (C4.recs.map (fun s : ByteArray => Value.string s)), row (.slice pn (Cb.recs).length cn) 9 1 ((Cb.recs).length) (Cb.recs.map (fun s : ByteArray => Value.string s))]) (((((((perm_front 4 rfl).trans (perm_front 6 rfl)).trans (perm_front 6 rfl)).trans (perm_front 3 rfl)).trans (perm_front 6 rfl)).trans (perm_front 6 rfl)).trans (perm_front 6 rfl)) ?_
    refine f_mask (L' := [jourR J8 S1 (apI Ib zs38) false, storeR S1 (apS Kb Ib zs38), pt b16 (.cells #[Nx (Cb.epoch), Nx (Cb.next + 1), .string (Cb.state), .slice p42 ((Cb.recs ++ [str ((⟨(0 : UInt8), (0 : UInt8), zs38⟩ : KOp).body.take 300)])).length c43] 27), row (.slice p42 ((Cb.recs ++ [str ((⟨(0 : UInt8), (0 : UInt8), zs38⟩ : KOp).body.take 300)])).length c43) 9 1 (((Cb.recs ++ [str ((⟨(0 : UInt8), (0 : UInt8), zs38⟩ : KOp).body.take 300)])).length) ((Cb.recs ++ [str ((⟨(0 : UInt8), (0 : UInt8), zs38⟩ : KOp).body.take 300)]).map (fun s : ByteArray => Value.string s)), pt b7 (.cells #[Nx (C4.epoch), Nx (C4.next), .string (C4.state), .slice p5 (C4.recs).length c6] 27), row (.slice p5 (C4.recs).length c6) 9 1 ((C4.recs).length) (C4.recs.map (fun s : ByteArray => Value.string s))]) [true, true, true, true, true, true, false] rfl ?_
    exact f_cut ⟨(k + 1, (apS Kb Ib zs38), (apI Ib zs38), (⟨Cb.epoch, Cb.next + 1, Cb.state, (Cb.recs ++ [str ((⟨(0 : UInt8), (0 : UInt8), zs38⟩ : KOp).body.take 300)])⟩ : KC), p42, c43), ⟨⟨rfl, rfl, rfl, rfl, rfl, rfl, rfl, rfl, rfl⟩, rfl, ⟨by omega, (hI'.ap_ok (by omega) hbl2 hc2).mono (by omega), by rw [hb302]; exact isP_ap hC', apS_neg hP', headX_ap hX', he', ap_old ho' he'⟩⟩, (show 4 - (k + 1) < 4 - k from by omega)⟩
  ·
    refine c_exit ?_
    refine f_then_exit ?_
    refine f_then_exit ?_
    refine f_exit ?_
    refine f_then ?_
    refine c_seq ?_
    refine c_region ?_
    refine l_val (v := Bx (at_)) rfl rfl rfl (e_move) ?_
    refine l_val (v := Nx (at_.toNat)) rfl rfl rfl (e_conv (a := ((at_).toNat : Int)) rfl ⟨_, tf8⟩ tf1 (i64n rfl (by have := (at_).toNat_lt; omega))) ?_
    refine l_val (v := Nx (at_.toNat % 32)) rfl rfl rfl (e_rem (a := ((at_.toNat : Nat) : Int)) (b := (32 : Int)) rfl rfl (by decide) (nat_tmod _ 32)) ?_
    refine l_val (v := Nx (at_.toNat % 32)) rfl rfl rfl (e_assign) ?_
    refine l_nil ?_
    refine f_then ?_
    refine c_seq ?_
    have hC1b := hC'.1
    have hC2b := hC'.2.1
    have hC4b := congrArg List.length hC'.2.2.2
    rw [List.length_map] at hC4b
    have hhl := headX_len hX' (by omega)
    refine c_perm (L' := [storeR S1 Kb, jourR J8 S1 Ib false, pt b16 (.cells #[Nx (Cb.epoch), Nx (Cb.next), .string (Cb.state), .slice pn (Cb.recs).length cn] 27), row (.slice pn (Cb.recs).length cn) 9 1 ((Cb.recs).length) (Cb.recs.map (fun s : ByteArray => Value.string s)), pt b7 (.cells #[Nx (C4.epoch), Nx (C4.next), .string (C4.state), .slice p5 (C4.recs).length c6] 27), row (.slice p5 (C4.recs).length c6) 9 1 ((C4.recs).length) (C4.recs.map (fun s : ByteArray => Value.string s))]) (by exact ((((((perm_front 5 rfl).trans (perm_front 5 rfl)).trans (perm_front 5 rfl)).trans (perm_front 5 rfl)).trans (perm_front 4 rfl)).trans (perm_front 5 rfl))) ?_
    refine c_openStore rfl (fun pH44 pA45 pB46 cH47 cA48 cB49 => ?_)
    refine c_rowcap 1 rfl (fun hcl50 hcm51 => ?_)
    refine c_rowcap 2 rfl (fun hcl52 hcm53 => ?_)
    refine c_rowcap 3 rfl (fun hcl54 hcm55 => ?_)
    refine c_region ?_
    refine l_val (v := .pointer (some ⟨S1, 0, none⟩)) rfl rfl rfl (e_move) ?_
    refine l_val (v := .pointer (some ⟨S1, 0, none⟩)) rfl rfl rfl (e_nil (a := ⟨S1, 0, none⟩) rfl) ?_
    refine l_val (v := .pointer (some ⟨S1, 0, none⟩)) rfl rfl rfl (e_fieldPt (b := S1) (o := 0) rfl tf20) ?_
    refine l_val (v := .slice pH44 (Kb.head).length cH47) rfl rfl rfl (e_load1 tf21 (v := .slice pH44 (Kb.head).length cH47) rfl (k_pt 0 (cs := #[.slice pH44 (Kb.head).length cH47, .slice pA45 (Kb.a).length cA48, .slice pB46 (Kb.b).length cB49, Ix (Kb.power)]) (vs := [.slice pH44 (Kb.head).length cH47]) rfl rfl)) ?_
    refine l_val (v := Nx (at_.toNat % 32)) rfl rfl rfl (e_move) ?_
    refine l_val (v := .pointer (some ((ba pH44).add ((at_.toNat % 32) * 1)))) rfl rfl rfl (e_indexRow 1 (j := at_.toNat % 32) (len := (Kb.head).length) (cap := cH47) (p := pH44) rfl rfl tf12 (by omega) (by omega) rfl) ?_
    obtain ⟨c56, hc57⟩ : ∃ c, Kb.head[(at_.toNat % 32)]? = some c := ⟨_, List.getElem?_eq_getElem (by omega)⟩
    refine l_val (v := Bx (c56)) rfl rfl rfl (e_load1 tf13 (v := Bx (c56)) rfl (k_row 1 (o := (at_.toNat % 32) * 1) (us := [Bx (c56)]) rfl (bx_at hc57) (Nat.succ_pos _))) ?_
    refine l_val (v := Bx (by_)) rfl rfl rfl (e_move) ?_
    refine l_val (v := Bx (max by_ (1 : UInt8))) rfl rfl rfl (ev_eq (congrArg (Value.int .u8) (bx_max _ _)) (e_max (a := ((by_).toNat : Int)) (b := ((1 : UInt8).toNat : Int)) rfl rfl)) ?_
    refine l_val (v := Bx (c56 ^^^ (max by_ (1 : UInt8)))) rfl rfl rfl (e_xor (a := ((c56).toNat : Int)) (b := ((max by_ (1 : UInt8)).toNat : Int)) rfl rfl (bx_xor _ _)) ?_
    refine l_val (v := .pointer (some ((ba pH44).add ((at_.toNat % 32) * 1)))) rfl rfl rfl (e_indexRow 1 (j := at_.toNat % 32) (len := (Kb.head).length) (cap := cH47) (p := pH44) rfl rfl tf12 (by omega) (by omega) rfl) ?_
    refine l_mu rfl rfl (m_storeRow 1 tf13 (o := (at_.toNat % 32) * 1) (v := Bx (c56 ^^^ (max by_ (1 : UInt8)))) rfl rfl rfl rfl rfl (by omega) (by omega)) ?_
    refine l_re (L' := [pt S1 (.cells #[.slice pH44 ((Kb.head.set (at_.toNat % 32) (c56 ^^^ (max by_ (1 : UInt8))))).length cH47, .slice pA45 (Kb.a).length cA48, .slice pB46 (Kb.b).length cB49, Ix (Kb.power)] 32), row (.slice pH44 ((Kb.head.set (at_.toNat % 32) (c56 ^^^ (max by_ (1 : UInt8))))).length cH47) 5 1 (((Kb.head.set (at_.toNat % 32) (c56 ^^^ (max by_ (1 : UInt8))))).length) (BX (Kb.head.set (at_.toNat % 32) (c56 ^^^ (max by_ (1 : UInt8))))), row (.slice pA45 (Kb.a).length cA48) 5 1 ((Kb.a).length) (BX Kb.a), row (.slice pB46 (Kb.b).length cB49) 5 1 ((Kb.b).length) (BX Kb.b), jourR J8 S1 Ib false, pt b16 (.cells #[Nx (Cb.epoch), Nx (Cb.next), .string (Cb.state), .slice pn (Cb.recs).length cn] 27), row (.slice pn (Cb.recs).length cn) 9 1 ((Cb.recs).length) (Cb.recs.map (fun s : ByteArray => Value.string s)), pt b7 (.cells #[Nx (C4.epoch), Nx (C4.next), .string (C4.state), .slice p5 (C4.recs).length c6] 27), row (.slice p5 (C4.recs).length c6) 9 1 ((C4.recs).length) (C4.recs.map (fun s : ByteArray => Value.string s))]) (by show [pt S1 (.cells #[.slice pH44 (Kb.head).length cH47, .slice pA45 (Kb.a).length cA48, .slice pB46 (Kb.b).length cB49, Ix (Kb.power)] 32), row (.slice pH44 (Kb.head).length cH47) 5 1 ((Kb.head).length) ((overL (BX Kb.head) ((at_.toNat % 32) * 1) [Bx (c56 ^^^ (max by_ (1 : UInt8)))])), row (.slice pA45 (Kb.a).length cA48) 5 1 ((Kb.a).length) (BX Kb.a), row (.slice pB46 (Kb.b).length cB49) 5 1 ((Kb.b).length) (BX Kb.b), jourR J8 S1 Ib false, pt b16 (.cells #[Nx (Cb.epoch), Nx (Cb.next), .string (Cb.state), .slice pn (Cb.recs).length cn] 27), row (.slice pn (Cb.recs).length cn) 9 1 ((Cb.recs).length) (Cb.recs.map (fun s : ByteArray => Value.string s)), pt b7 (.cells #[Nx (C4.epoch), Nx (C4.next), .string (C4.state), .slice p5 (C4.recs).length c6] 27), row (.slice p5 (C4.recs).length c6) 9 1 ((C4.recs).length) (C4.recs.map (fun s : ByteArray => Value.string s))] = _; rw [overL_bx (by omega)]; simp only [List.length_set]) ?_
    refine l_nil ?_
    refine f_then ?_
    refine c_seq ?_
    have hne : c56 ≠ c56 ^^^ (max by_ (1 : UInt8)) := xor8_ne (max8_ne _)
    have hrd := heads_read hI hI' he' ho' (by omega) hX' (show at_.toNat % 32 < 32 by omega) hc57 hne
    have hok : (powS ({ Kb with head := Kb.head.set (at_.toNat % 32) (c56 ^^^ (max by_ (1 : UInt8))) } : KS)).okP := by have h0 := ((hI'.pow (p := -1) (by decide) (by decide)).okP (by omega)); unfold KS.okP at h0 ⊢; simpa [powS] using h0
    refine c_perm (L' := [pt S1 (.cells #[.slice pH44 ((Kb.head.set (at_.toNat % 32) (c56 ^^^ (max by_ (1 : UInt8))))).length cH47, .slice pA45 (Kb.a).length cA48, .slice pB46 (Kb.b).length cB49, Ix (Kb.power)] 32), row (.slice pH44 ((Kb.head.set (at_.toNat % 32) (c56 ^^^ (max by_ (1 : UInt8))))).length cH47) 5 1 (((Kb.head.set (at_.toNat % 32) (c56 ^^^ (max by_ (1 : UInt8))))).length) (BX (Kb.head.set (at_.toNat % 32) (c56 ^^^ (max by_ (1 : UInt8))))), row (.slice pA45 (Kb.a).length cA48) 5 1 ((Kb.a).length) (BX Kb.a), row (.slice pB46 (Kb.b).length cB49) 5 1 ((Kb.b).length) (BX Kb.b), jourR J8 S1 Ib false, pt b16 (.cells #[Nx (Cb.epoch), Nx (Cb.next), .string (Cb.state), .slice pn (Cb.recs).length cn] 27), row (.slice pn (Cb.recs).length cn) 9 1 ((Cb.recs).length) (Cb.recs.map (fun s : ByteArray => Value.string s)), pt b7 (.cells #[Nx (C4.epoch), Nx (C4.next), .string (C4.state), .slice p5 (C4.recs).length c6] 27), row (.slice p5 (C4.recs).length c6) 9 1 ((C4.recs).length) (C4.recs.map (fun s : ByteArray => Value.string s))]) (by exact (((((((((perm_front 8 rfl).trans (perm_front 8 rfl)).trans (perm_front 8 rfl)).trans (perm_front 8 rfl)).trans (perm_front 8 rfl)).trans (perm_front 8 rfl)).trans (perm_front 8 rfl)).trans (perm_front 8 rfl)).trans (perm_front 8 rfl))) ?_
    refine c_closeStore (S := S1) (k := ({ Kb with head := Kb.head.set (at_.toNat % 32) (c56 ^^^ (max by_ (1 : UInt8))) } : KS)) (pH := pH44) (pA := pA45) (pB := pB46) (cH := cH47) (cA := cA48) (cB := cB49) (M := (jourR J8 S1 Ib false :: pt b16 (.cells #[Nx (Cb.epoch), Nx (Cb.next), .string (Cb.state), .slice pn (Cb.recs).length cn] 27) :: row (.slice pn (Cb.recs).length cn) 9 1 ((Cb.recs).length) (Cb.recs.map (fun s : ByteArray => Value.string s)) :: pt b7 (.cells #[Nx (C4.epoch), Nx (C4.next), .string (C4.state), .slice p5 (C4.recs).length c6] 27) :: row (.slice p5 (C4.recs).length c6) 9 1 ((C4.recs).length) (C4.recs.map (fun s : ByteArray => Value.string s)) :: [])) rfl ?_
    refine c_region ?_
    refine l_val (v := .agg #[Nx (Cb.epoch), Nx (Cb.next), .string (Cb.state), .slice pn (Cb.recs).length cn]) rfl rfl rfl (e_load tf101 (cs := [Nx (Cb.epoch), Nx (Cb.next), .string (Cb.state), .slice pn (Cb.recs).length cn]) rfl (k_pt 2 (cs := #[Nx (Cb.epoch), Nx (Cb.next), .string (Cb.state), .slice pn (Cb.recs).length cn]) (vs := [Nx (Cb.epoch), Nx (Cb.next), .string (Cb.state), .slice pn (Cb.recs).length cn]) rfl rfl) rfl) ?_
    refine l_mv rfl rfl rfl (m_alloc tf112) ?_
    rintro _ _ ⟨b58, rfl, rfl⟩
    refine l_mu rfl rfl (m_store 0 tf101 (b := b58) (o := 0) (T := 27) (cs := #[.int .i64 (0), .int .i64 (0), .string ((⟨#[]⟩ : ByteArray)), .slice none 0 0]) (cs' := #[Nx (Cb.epoch), Nx (Cb.next), .string (Cb.state), .slice pn (Cb.recs).length cn]) (v := .agg #[Nx (Cb.epoch), Nx (Cb.next), .string (Cb.state), .slice pn (Cb.recs).length cn]) rfl rfl rfl rfl rfl rfl rfl) ?_
    refine l_nil ?_
    refine f_then ?_
    refine c_seq ?_
    refine c_seq ?_
    refine c_region ?_
    refine l_val (v := Nx (at_.toNat % 32)) rfl rfl rfl (e_move) ?_
    refine l_val (v := Nx ((at_.toNat % 32) / 16)) rfl rfl rfl (e_quo (a := ((at_.toNat % 32 : Nat) : Int)) (b := (16 : Int)) rfl rfl (by decide) (i64n (nat_tdiv _ 16) (by omega))) ?_
    refine l_val (v := .pointer (some ⟨b16, 0, none⟩)) rfl rfl rfl (e_fieldPt (b := b16) (o := 0) rfl tf89) ?_
    refine l_val (v := Nx (Cb.epoch)) rfl rfl rfl (e_load1 tf25 (v := Nx (Cb.epoch)) rfl (k_pt 3 (cs := #[Nx (Cb.epoch), Nx (Cb.next), .string (Cb.state), .slice pn (Cb.recs).length cn]) (vs := [Nx (Cb.epoch)]) rfl rfl)) ?_
    refine l_val (v := Nx (Cb.epoch % 2)) rfl rfl rfl (e_rem (a := ((Cb.epoch : Nat) : Int)) (b := (2 : Int)) rfl rfl (by decide) (nat_tmod _ 2)) ?_
    refine l_val (v := .bool (decide ((((at_.toNat % 32) / 16 : Nat) : Int) = ((Cb.epoch % 2 : Nat) : Int)))) rfl rfl rfl (e_eql (a := (((at_.toNat % 32) / 16 : Nat) : Int)) (b := ((Cb.epoch % 2 : Nat) : Int)) rfl rfl) ?_
    refine l_nil ?_
    refine f_then ?_
    refine c_if ((((at_.toNat % 32) / 16 : Nat) : Int) = ((Cb.epoch % 2 : Nat) : Int)) rfl (fun hc59 => ?_) (fun hc59 => ?_)
    ·
      have hpar : (at_.toNat % 32) / 16 = Ib.epoch % 2 := by omega
      refine c_region ?_
      refine l_val (v := .agg #[Nx (C4.epoch), Nx (C4.next), .string (C4.state), .slice p5 (C4.recs).length c6]) rfl rfl rfl (e_load tf101 (cs := [Nx (C4.epoch), Nx (C4.next), .string (C4.state), .slice p5 (C4.recs).length c6]) rfl (k_pt 5 (cs := #[Nx (C4.epoch), Nx (C4.next), .string (C4.state), .slice p5 (C4.recs).length c6]) (vs := [Nx (C4.epoch), Nx (C4.next), .string (C4.state), .slice p5 (C4.recs).length c6]) rfl rfl) rfl) ?_
      refine l_mu rfl rfl (m_store 0 tf101 (b := b58) (o := 0) (T := 27) (cs := #[Nx (Cb.epoch), Nx (Cb.next), .string (Cb.state), .slice pn (Cb.recs).length cn]) (cs' := #[Nx (C4.epoch), Nx (C4.next), .string (C4.state), .slice p5 (C4.recs).length c6]) (v := .agg #[Nx (C4.epoch), Nx (C4.next), .string (C4.state), .slice p5 (C4.recs).length c6]) rfl rfl rfl rfl rfl rfl rfl) ?_
      refine l_nil ?_
      refine f_then ?_
      refine c_seq ?_
      refine c_rowcap 6 rfl (fun hq60 hq61 => ?_)
      have hq62 : c6 ≤ 9223372036854775807 := by unfold maxLen at hq61; omega
      have hC1b := hC'.1
      have hC2b := hC'.2.1
      have hC4b := congrArg List.length hC'.2.2.2
      rw [List.length_map] at hC4b
      have hnN2 := hI'.nN
      have hrl2 := hI'.wf.next
      refine c_region ?_
      refine l_val (v := .pointer (some ⟨S1, 0, none⟩)) rfl rfl rfl (e_move) ?_
      refine l_call rfl rfl rfl (cl_value (fst := []) (cap := []) (vs := [.pointer (some ⟨S1, 0, none⟩)]) (all := [.pointer (some ⟨S1, 0, none⟩)]) tf107 rfl rfl rfl) ?_
      intro w hw
      replace hw := hw.perm (L' := _ :: _ :: _ :: _ :: _ :: _ :: _ :: []) (by exact (((((((perm_front 6 rfl).trans (perm_front 6 rfl)).trans (perm_front 6 rfl)).trans (perm_front 6 rfl)).trans (perm_front 6 rfl)).trans (perm_front 5 rfl)).trans (perm_front 6 rfl)))
      obtain ⟨β1, sb, kn, hw1, back⟩ := St.frame (L := [_]) (M := _ :: _ :: _ :: _ :: _ :: _ :: []) hw
      refine (again_ok β1 w S1 ({ Kb with head := Kb.head.set (at_.toNat % 32) (c56 ^^^ (max by_ (1 : UInt8))) } : KS) hok I3 (hrd.1 hpar) hw1).mono ?_
      rintro e w' ⟨J63, rfl, hw'⟩
      refine ⟨_, rfl, _, back _ _ hw', ?_⟩
      clear hw hw1 hw' back kn sb
      refine l_val (v := .tuple #[.pointer (some ⟨J63, 0, none⟩), .bool true]) rfl rfl rfl (e_move) ?_
      refine l_val (v := .pointer (some ⟨J63, 0, none⟩)) rfl rfl rfl (e_extract (vs := #[.pointer (some ⟨J63, 0, none⟩), .bool true]) rfl rfl) ?_
      refine l_val (v := .bool true) rfl rfl rfl (e_extract (vs := #[.pointer (some ⟨J63, 0, none⟩), .bool true]) rfl rfl) ?_
      refine l_val (v := .pointer (some ⟨J63, 0, none⟩)) rfl rfl rfl (e_assign) ?_
      refine l_val (v := .bool true) rfl rfl rfl (e_assign) ?_
      refine l_nil ?_
      refine f_then ?_
      refine c_seq ?_
      refine c_region ?_
      refine l_val (v := .bool true) rfl rfl rfl (e_move) ?_
      refine l_val (v := .bool true) rfl rfl rfl (e_move) ?_
      refine g_val (v := .agg #[Nx (C4.epoch), Nx (C4.next), .string (C4.state), .slice p5 (C4.recs).length c6]) rfl rfl rfl rfl rfl (e_load tf101 (cs := [Nx (C4.epoch), Nx (C4.next), .string (C4.state), .slice p5 (C4.recs).length c6]) rfl (k_pt 2 (cs := #[Nx (C4.epoch), Nx (C4.next), .string (C4.state), .slice p5 (C4.recs).length c6]) (vs := [Nx (C4.epoch), Nx (C4.next), .string (C4.state), .slice p5 (C4.recs).length c6]) rfl rfl) rfl) ?_
      refine g_val (v := .pointer (some ⟨J63, 0, none⟩)) rfl rfl rfl rfl rfl (e_move) ?_
      refine g_call rfl rfl rfl rfl rfl (cl_value (fst := []) (cap := []) (vs := [.agg #[Nx (C4.epoch), Nx (C4.next), .string (C4.state), .slice p5 (C4.recs).length c6], .pointer (some ⟨J63, 0, none⟩)]) (all := [.agg #[Nx (C4.epoch), Nx (C4.next), .string (C4.state), .slice p5 (C4.recs).length c6], .pointer (some ⟨J63, 0, none⟩)]) tf115 rfl rfl rfl) ?_
      intro w hw
      obtain ⟨β1, sb, kn, hw1, back⟩ := St.frame_all hw
      refine (is_ok β1 w hw1 C4 p5 c6 (by omega) (by omega) (kn _ (Knows.of_res 7 rfl (Elems.mono _ _ _) fun _ h => row_stre h)) J63 S1 I3 false (kn _ (Knows.of_res 0 rfl (JF.mono _ _ _ _) fun _ h => jour_jf h)) (by have := hI.st; omega) (by have := hI.wf.next; have := hI.nN; omega) (fun b hb => by have := hI.rs b hb; omega)).mono ?_
      rintro e w' ⟨rfl, hw'⟩
      refine ⟨_, rfl, _, back _ _ hw', ?_⟩
      clear hw hw1 hw' back kn sb
      refine l_val (v := .bool (decide (isP C4 I3))) rfl rfl rfl (e_pick_t rfl) ?_
      refine l_val (v := .bool (decide (isP C4 I3))) rfl rfl rfl (e_move) ?_
      refine l_split (s := 120) (p := isP C4 I3) rfl (fun h => ?_) (fun h => ?_)
      rotate_left; exact absurd hC h
      refine g_call rfl rfl rfl rfl rfl (cl_value (fst := []) (cap := []) (vs := []) (all := []) tf111 rfl rfl rfl) ?_
      intro w hw
      obtain ⟨β1, sb, kn, hw1, back⟩ := St.frame_all hw
      refine (awake_ok β1 w hw1).mono ?_
      rintro e w' ⟨rfl, hw'⟩
      refine ⟨_, rfl, _, back _ _ hw', ?_⟩
      clear hw hw1 hw' back kn sb
      refine l_val (v := .bool true) rfl rfl rfl (e_pick_t rfl) ?_
      refine l_val (v := .bool true) rfl rfl rfl (e_assign) ?_
      refine l_nil ?_
      refine f_then ?_
      refine c_ret ?_
      refine ret1 Try.results9 (v := .bool true) rfl ?_
      intro w hw
      exact ⟨rfl, st_mask [false, false, false, false, false, false, false, false] rfl hw⟩
    ·
      have hpar : (at_.toNat % 32) / 16 ≠ Ib.epoch % 2 := by omega
      refine c_skip ?_
      refine f_then ?_
      refine c_seq ?_
      refine c_rowcap 4 rfl (fun hq64 hq65 => ?_)
      have hq66 : cn ≤ 9223372036854775807 := by unfold maxLen at hq65; omega
      have hC1b := hC'.1
      have hC2b := hC'.2.1
      have hC4b := congrArg List.length hC'.2.2.2
      rw [List.length_map] at hC4b
      have hnN2 := hI'.nN
      have hrl2 := hI'.wf.next
      refine c_region ?_
      refine l_val (v := .pointer (some ⟨S1, 0, none⟩)) rfl rfl rfl (e_move) ?_
      refine l_call rfl rfl rfl (cl_value (fst := []) (cap := []) (vs := [.pointer (some ⟨S1, 0, none⟩)]) (all := [.pointer (some ⟨S1, 0, none⟩)]) tf107 rfl rfl rfl) ?_
      intro w hw
      replace hw := hw.perm (L' := _ :: _ :: _ :: _ :: _ :: _ :: _ :: []) (by exact (((((((perm_front 6 rfl).trans (perm_front 6 rfl)).trans (perm_front 6 rfl)).trans (perm_front 6 rfl)).trans (perm_front 6 rfl)).trans (perm_front 5 rfl)).trans (perm_front 6 rfl)))
      obtain ⟨β1, sb, kn, hw1, back⟩ := St.frame (L := [_]) (M := _ :: _ :: _ :: _ :: _ :: _ :: []) hw
      refine (again_ok β1 w S1 ({ Kb with head := Kb.head.set (at_.toNat % 32) (c56 ^^^ (max by_ (1 : UInt8))) } : KS) hok Ib (hrd.2 hpar) hw1).mono ?_
      rintro e w' ⟨J67, rfl, hw'⟩
      refine ⟨_, rfl, _, back _ _ hw', ?_⟩
      clear hw hw1 hw' back kn sb
      refine l_val (v := .tuple #[.pointer (some ⟨J67, 0, none⟩), .bool true]) rfl rfl rfl (e_move) ?_
      refine l_val (v := .pointer (some ⟨J67, 0, none⟩)) rfl rfl rfl (e_extract (vs := #[.pointer (some ⟨J67, 0, none⟩), .bool true]) rfl rfl) ?_
      refine l_val (v := .bool true) rfl rfl rfl (e_extract (vs := #[.pointer (some ⟨J67, 0, none⟩), .bool true]) rfl rfl) ?_
      refine l_val (v := .pointer (some ⟨J67, 0, none⟩)) rfl rfl rfl (e_assign) ?_
      refine l_val (v := .bool true) rfl rfl rfl (e_assign) ?_
      refine l_nil ?_
      refine f_then ?_
      refine c_seq ?_
      refine c_region ?_
      refine l_val (v := .bool true) rfl rfl rfl (e_move) ?_
      refine l_val (v := .bool true) rfl rfl rfl (e_move) ?_
      refine g_val (v := .agg #[Nx (Cb.epoch), Nx (Cb.next), .string (Cb.state), .slice pn (Cb.recs).length cn]) rfl rfl rfl rfl rfl (e_load tf101 (cs := [Nx (Cb.epoch), Nx (Cb.next), .string (Cb.state), .slice pn (Cb.recs).length cn]) rfl (k_pt 2 (cs := #[Nx (Cb.epoch), Nx (Cb.next), .string (Cb.state), .slice pn (Cb.recs).length cn]) (vs := [Nx (Cb.epoch), Nx (Cb.next), .string (Cb.state), .slice pn (Cb.recs).length cn]) rfl rfl) rfl) ?_
      refine g_val (v := .pointer (some ⟨J67, 0, none⟩)) rfl rfl rfl rfl rfl (e_move) ?_
      refine g_call rfl rfl rfl rfl rfl (cl_value (fst := []) (cap := []) (vs := [.agg #[Nx (Cb.epoch), Nx (Cb.next), .string (Cb.state), .slice pn (Cb.recs).length cn], .pointer (some ⟨J67, 0, none⟩)]) (all := [.agg #[Nx (Cb.epoch), Nx (Cb.next), .string (Cb.state), .slice pn (Cb.recs).length cn], .pointer (some ⟨J67, 0, none⟩)]) tf115 rfl rfl rfl) ?_
      intro w hw
      obtain ⟨β1, sb, kn, hw1, back⟩ := St.frame_all hw
      refine (is_ok β1 w hw1 Cb pn cn (by omega) (by omega) (kn _ (Knows.of_res 5 rfl (Elems.mono _ _ _) fun _ h => row_stre h)) J67 S1 Ib false (kn _ (Knows.of_res 0 rfl (JF.mono _ _ _ _) fun _ h => jour_jf h)) (by have := hI'.st; omega) (by have := hI'.wf.next; have := hI'.nN; omega) (fun b hb => by have := hI'.rs b hb; omega)).mono ?_
      rintro e w' ⟨rfl, hw'⟩
      refine ⟨_, rfl, _, back _ _ hw', ?_⟩
      clear hw hw1 hw' back kn sb
      refine l_val (v := .bool (decide (isP Cb Ib))) rfl rfl rfl (e_pick_t rfl) ?_
      refine l_val (v := .bool (decide (isP Cb Ib))) rfl rfl rfl (e_move) ?_
      refine l_split (s := 120) (p := isP Cb Ib) rfl (fun h => ?_) (fun h => ?_)
      rotate_left; exact absurd hC' h
      refine g_call rfl rfl rfl rfl rfl (cl_value (fst := []) (cap := []) (vs := []) (all := []) tf111 rfl rfl rfl) ?_
      intro w hw
      obtain ⟨β1, sb, kn, hw1, back⟩ := St.frame_all hw
      refine (awake_ok β1 w hw1).mono ?_
      rintro e w' ⟨rfl, hw'⟩
      refine ⟨_, rfl, _, back _ _ hw', ?_⟩
      clear hw hw1 hw' back kn sb
      refine l_val (v := .bool true) rfl rfl rfl (e_pick_t rfl) ?_
      refine l_val (v := .bool true) rfl rfl rfl (e_assign) ?_
      refine l_nil ?_
      refine f_then ?_
      refine c_ret ?_
      refine ret1 Try.results9 (v := .bool true) rfl ?_
      intro w hw
      exact ⟨rfl, st_mask [false, false, false, false, false, false, false, false] rfl hw⟩
end Go.Proofs
