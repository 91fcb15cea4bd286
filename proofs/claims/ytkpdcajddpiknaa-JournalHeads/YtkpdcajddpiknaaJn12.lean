/-
  grown, walked. Printed by a program of my own.
-/
import Derived.Test.YtkpdcajddpiknaaJn11
import Derived.Test.YtkpdcajddpiknaaJnLaw5
namespace Go.Proofs
open Go Go.Sl Go.Jn
theorem short_lt (o : KOp) : (shortO o).kind.toNat % 5 < 3 := by
  unfold shortO
  simp
  omega
theorem tf116 : cfB Try.prog 39 = true := by kernel_rfl
set_option maxHeartbeats 4000000 in
theorem grown_ok (β : Base) (w : World) (hw : St β [] w) (xs : List KOp) (v : Value) (hs : Sl OpR β.heap v xs) : Calls Try.prog 11 #[v] w fun r w' => ∃ S K I C p c, r = .returned (.tuple #[.pointer (some ⟨S, 0, none⟩), .agg #[Nx C.epoch, Nx C.next, .string C.state, .slice p C.recs.length c], .bool true]) ∧ Inv K I 8 true ∧ isP C I ∧ K.power = -1 ∧ HeadX K.head I.epoch ∧ St β [storeR S K, row (.slice p C.recs.length c) 9 1 C.recs.length (C.recs.map (fun s : ByteArray => Value.string s))] w' := by
  obtain ⟨va, vc, rfl, vl, vm, ve⟩ := hs.get
  refine enter (n := 46) Try.func11 rfl Try.ntmps11 rfl ?_ hw
  refine c_seq ?_
  refine c_region ?_
  refine l_val (v := .pointer none) rfl rfl rfl (e_assign) ?_
  refine l_mv rfl rfl rfl (m_alloc tf112) ?_
  rintro _ _ ⟨b1, rfl, rfl⟩
  refine l_val (v := .bool false) rfl rfl rfl (e_assign) ?_
  refine l_nil ?_
  refine f_then ?_
  refine c_seq ?_
  refine c_region ?_
  refine l_val (v := .agg #[.slice none 0 0, .slice none 0 0, .slice none 0 0, .int .i64 (-1)]) rfl rfl rfl (e_build tf106 tf105 (vs := [(3, .int .i64 (-1))]) (cells := #[.slice none 0 0, .slice none 0 0, .slice none 0 0, .int .i64 (-1)]) rfl rfl) ?_
  refine l_mv rfl rfl rfl (m_box (v := .agg #[.slice none 0 0, .slice none 0 0, .slice none 0 0, .int .i64 (-1)]) rfl) ?_
  rintro _ _ ⟨b2, rfl, rfl⟩
  refine l_val (v := .pointer (some ⟨b2, 0, none⟩)) rfl rfl rfl (e_assign) ?_
  refine l_nil ?_
  refine f_then ?_
  refine c_seq ?_
  refine c_emp (r := row (.slice none 0 0) 5 1 0 (BX [])) (row_nil _ _ _) ?_
  refine c_emp (r := row (.slice none 0 0) 5 1 0 (BX [])) (row_nil _ _ _) ?_
  refine c_emp (r := row (.slice none 0 0) 5 1 0 (BX [])) (row_nil _ _ _) ?_
  refine c_perm (L' := (pt b2 (.cells #[.slice none 0 0, .slice none 0 0, .slice none 0 0, .int .i64 (-1)] 32) :: row (.slice none 0 0) 5 1 0 (BX []) :: row (.slice none 0 0) 5 1 0 (BX []) :: row (.slice none 0 0) 5 1 0 (BX []) :: pt b1 (.cells #[.int .i64 (0), .int .i64 (0), .string ((⟨#[]⟩ : ByteArray)), .slice none 0 0] 27) :: [])) (by exact (((((perm_front 4 rfl).trans (perm_front 3 rfl)).trans (perm_front 3 rfl)).trans (perm_front 3 rfl)).trans (perm_front 4 rfl))) ?_
  refine c_closeStore (S := b2) (k := aK0) (pH := none) (pA := none) (pB := none) (cH := 0) (cA := 0) (cB := 0) (M := (pt b1 (.cells #[.int .i64 (0), .int .i64 (0), .string ((⟨#[]⟩ : ByteArray)), .slice none 0 0] 27) :: [])) (by rfl) ?_
  refine c_region ?_
  refine l_val (v := .pointer (some ⟨b2, 0, none⟩)) rfl rfl rfl (e_move) ?_
  refine l_call rfl rfl rfl (cl_value (fst := []) (cap := []) (vs := [.pointer (some ⟨b2, 0, none⟩)]) (all := [.pointer (some ⟨b2, 0, none⟩)]) tf107 rfl rfl rfl) ?_
  intro w hw
  replace hw := hw.perm (L' := _ :: _ :: []) (by exact ((perm_front 1 rfl).trans (perm_front 1 rfl)))
  obtain ⟨β1, sb, kn, hw1, back⟩ := St.frame (L := [_]) (M := _ :: []) hw
  refine (again_ok β1 w b2 aK0 ((aw_invz.pow (p := -1) (by decide) (by decide)).okP (by omega)) aI0 aw_invz.read hw1).mono ?_
  rintro e w' ⟨J3, rfl, hw'⟩
  refine ⟨_, rfl, _, back _ _ hw', ?_⟩
  clear hw hw1 hw' back kn sb
  refine l_val (v := .tuple #[.pointer (some ⟨J3, 0, none⟩), .bool true]) rfl rfl rfl (e_move) ?_
  refine l_val (v := .pointer (some ⟨J3, 0, none⟩)) rfl rfl rfl (e_extract (vs := #[.pointer (some ⟨J3, 0, none⟩), .bool true]) rfl rfl) ?_
  refine l_val (v := .bool true) rfl rfl rfl (e_extract (vs := #[.pointer (some ⟨J3, 0, none⟩), .bool true]) rfl rfl) ?_
  refine l_val (v := .pointer (some ⟨J3, 0, none⟩)) rfl rfl rfl (e_assign) ?_
  refine l_val (v := .bool true) rfl rfl rfl (e_assign) ?_
  refine l_nil ?_
  refine f_then ?_
  refine c_seq ?_
  refine c_region ?_
  refine l_mv rfl rfl rfl (m_alloc tf112) ?_
  rintro _ _ ⟨b4, rfl, rfl⟩
  refine l_nil ?_
  refine f_then ?_
  refine c_seq ?_
  refine c_seq ?_
  refine c_region ?_
  refine l_val (v := .int .i64 (0)) rfl rfl rfl (e_assign) ?_
  refine l_nil ?_
  refine f_then ?_
  refine c_block ?_
  refine c_emp (r := row (.slice none 0 0) 9 1 0 ([].map (fun s : ByteArray => Value.string s))) (row_nil _ _ _) ?_
  refine c_perm (L' := [jourR J3 b2 aI0 false, storeR b2 (cutS (powS aK0) aI0.epoch aI0.size), pt b4 (.cells #[.int .i64 (0), .int .i64 (0), .string ((⟨#[]⟩ : ByteArray)), .slice none 0 0] 27), row (.slice none 0 0) 9 1 (0) ([].map (fun s : ByteArray => Value.string s)), pt b1 (.cells #[.int .i64 (0), .int .i64 (0), .string ((⟨#[]⟩ : ByteArray)), .slice none 0 0] 27)]) (by exact (((((perm_front 4 rfl).trans (perm_front 1 rfl)).trans (perm_front 2 rfl)).trans (perm_front 4 rfl)).trans (perm_front 4 rfl))) ?_
  refine c_mask [true, true, true, true, true] rfl ?_
  refine c_loop (fun (x_ : Nat × KS × KI × Nat × KC × Option Addr × Nat) (f : Fm) (L : List Res) => match x_ with | (k, K, I, Jn, C, pn, cn) => (f 0 = .slice va (xs.length) (vc) ∧ f 3 = .pointer (some ⟨b1, 0, none⟩) ∧ f 5 = .pointer (some ⟨b2, 0, none⟩) ∧ f 6 = .pointer (some ⟨Jn, 0, none⟩) ∧ f 7 = .bool true ∧ f 8 = .pointer (some ⟨b4, 0, none⟩) ∧ f 9 = Nx (k)) ∧ L = [jourR Jn b2 I false, storeR b2 K, pt b4 (.cells #[Nx (C.epoch), Nx (C.next), .string (C.state), .slice pn (C.recs).length cn] 27), row (.slice pn (C.recs).length cn) 9 1 ((C.recs).length) (C.recs.map (fun s : ByteArray => Value.string s)), pt b1 (.cells #[.int .i64 (0), .int .i64 (0), .string ((⟨#[]⟩ : ByteArray)), .slice none 0 0] 27)] ∧ (k ≤ 8 ∧ Inv K I k true ∧ isP C I ∧ K.power = -1 ∧ HeadX K.head I.epoch)) (fun (x_ : Nat × KS × KI × Nat × KC × Option Addr × Nat) => match x_ with | (k, K, I, Jn, C, pn, cn) => 8 - k) (0, (cutS (powS aK0) aI0.epoch aI0.size), aI0, J3, (⟨0, 0, (⟨#[]⟩ : ByteArray), []⟩ : KC), none, 0) ?_ ?_
  · exact ⟨⟨rfl, rfl, rfl, rfl, rfl, rfl, rfl⟩, rfl, ⟨by omega, aw_inv0, by decide, by decide, headX_nil⟩⟩
  rintro ⟨k, K, I, Jn, C, pn, cn⟩ f0 L0 ⟨⟨hs0, hs3, hs5, hs6, hs7, hs8, hs9⟩, hL, ⟨hk, hI, hC, hP, hX⟩⟩
  subst L0
  refine rebase (d := 0) hs0 ?_
  refine rebase (d := 3) hs3 ?_
  refine rebase (d := 5) hs5 ?_
  refine rebase (d := 6) hs6 ?_
  refine rebase (d := 7) hs7 ?_
  refine rebase (d := 8) hs8 ?_
  refine rebase (d := 9) hs9 ?_
  clear hs0 hs3 hs5 hs6 hs7 hs8 hs9
  have hfit := hI.fits (show k ≤ 100 by omega)
  have hnN := hI.nN
  have hsz0 := hI.sz
  have heN := hI.eN
  have hrl0 := hI.wf.next
  refine c_seq ?_
  refine c_seq ?_
  refine c_region ?_
  refine l_val (v := Nx (k)) rfl rfl rfl (e_move) ?_
  refine l_val (v := .slice va (xs.length) (vc)) rfl rfl rfl (e_move) ?_
  refine l_val (v := Nx (xs.length)) rfl rfl rfl (e_len (a := va) (n := xs.length) (c := vc) rfl tf108) ?_
  refine l_val (v := .bool (decide (((k : Nat) : Int) < ((xs.length : Nat) : Int)))) rfl rfl rfl (e_lss (a := ((k : Nat) : Int)) (b := ((xs.length : Nat) : Int)) rfl rfl) ?_
  refine l_val (v := .bool (decide (((k : Nat) : Int) < ((xs.length : Nat) : Int)))) rfl rfl rfl (e_move) ?_
  refine l_split (s := 22) (p := ((k : Nat) : Int) < ((xs.length : Nat) : Int)) rfl (fun hg5 => ?_) (fun hg5 => ?_)
  ·
    refine g_val (v := Nx (k)) rfl rfl rfl rfl rfl (e_move) ?_
    refine g_val (v := .bool (decide (((k : Nat) : Int) < (8 : Int)))) rfl rfl rfl rfl rfl (e_lss (a := ((k : Nat) : Int)) (b := (8 : Int)) rfl rfl) ?_
    refine l_val (v := .bool (decide (((k : Nat) : Int) < (8 : Int)))) rfl rfl rfl (e_pick_t rfl) ?_
    refine l_val (v := .bool (decide (((k : Nat) : Int) < (8 : Int)))) rfl rfl rfl (e_move) ?_
    refine l_split (s := 26) (p := ((k : Nat) : Int) < (8 : Int)) rfl (fun hg6 => ?_) (fun hg6 => ?_)
    ·
      refine g_val (v := .bool true) rfl rfl rfl rfl rfl (e_move) ?_
      refine l_val (v := .bool true) rfl rfl rfl (e_pick_t rfl) ?_
      refine l_nil ?_
      refine f_then ?_
      refine c_yes rfl ?_
      refine c_skip ?_
      refine f_then ?_
      refine c_seq ?_
      refine c_block ?_
      refine c_seq ?_
      refine c_rowcap 3 rfl (fun hcl hcm => ?_)
      have hcm2 : cn ≤ 9223372036854775807 := by unfold maxLen at hcm; omega
      have hC1 := hC.1
      have hC2n := hC.2.1
      have hC4 := congrArg List.length hC.2.2.2
      rw [List.length_map] at hC4
      refine c_region ?_
      refine l_val (v := .slice va (xs.length) (vc)) rfl rfl rfl (e_move) ?_
      refine l_val (v := Nx (k)) rfl rfl rfl (e_move) ?_
      obtain ⟨x7, hx8⟩ : ∃ x_, (xs)[k]? = some x_ := ⟨_, List.getElem?_eq_getElem (by omega)⟩
      obtain ⟨ha9, cs10, hc11, hr12⟩ := ve _ _ hx8
      obtain ⟨v13, rfl, hv14⟩ := hr12
      obtain ⟨a15, c16, rfl, hl17, hm18, he19⟩ := (hv14).get
      refine l_val (v := .pointer (some ((ba va).add (k * 3)))) rfl rfl rfl (e_indexAddr (k := k) (len := xs.length) (cap := vc) (a := va) rfl rfl tf109 (by omega) ha9) ?_
      refine l_val (v := .agg #[Bx (x7.kind), Bx (x7.power), .slice a15 (x7.body.length) (c16)]) rfl rfl rfl (e_load tf87 (cs := [Bx (x7.kind), Bx (x7.power), .slice a15 (x7.body.length) (c16)]) rfl (Knows.of_base (Cs.mono _ _) hc11) rfl) ?_
      refine l_call rfl rfl rfl (cl_value (fst := []) (cap := []) (vs := [.agg #[Bx (x7.kind), Bx (x7.power), .slice a15 (x7.body.length) (c16)]]) (all := [.agg #[Bx (x7.kind), Bx (x7.power), .slice a15 (x7.body.length) (c16)]]) tf116 rfl rfl rfl) ?_
      intro w hw
      obtain ⟨β1, sb, kn, hw1, back⟩ := St.frame_all hw
      refine (short_ok β1 w hw1 x7 a15 c16 (by omega) (by omega) (Elems.mono _ _ _ _ _ sb he19)).mono ?_
      rintro e w' ⟨rfl, hw'⟩
      refine ⟨_, rfl, _, back _ _ hw', ?_⟩
      clear hw hw1 hw' back kn sb
      refine l_mv rfl rfl rfl (m_alloc tf84) ?_
      rintro _ _ ⟨b20, rfl, rfl⟩
      refine l_mu rfl rfl (m_store 0 tf87 (b := b20) (o := 0) (T := 47) (cs := #[.int .u8 (0), .int .u8 (0), .slice none 0 0]) (cs' := #[Bx ((shortO x7).kind), .int .u8 (0), .slice a15 ((x7.body.take 20).length) (c16)]) (v := .agg #[Bx ((shortO x7).kind), .int .u8 (0), .slice a15 ((x7.body.take 20).length) (c16)]) rfl rfl rfl rfl rfl rfl rfl) ?_
      refine l_nil ?_
      refine f_then ?_
      refine c_seq ?_
      have hsl := short_lt x7
      by_cases hkd : (shortO x7).kind.toNat % 5 = 2
      ·
        have hc : ckOk K (I.epoch + 1) I.next ((shortO x7).body.take 300) := ck_neg hP
        have hI2 := hI.ck_ok (by omega) (by simp; omega) hc
        have hC2 := isP_ck (b := ((shortO x7).body.take 300)) hC
        have hP2 : (ckS K (I.epoch + 1) I.next ((shortO x7).body.take 300)).power = -1 := ckS_neg hP
        have hX2 : HeadX (ckS K (I.epoch + 1) I.next ((shortO x7).body.take 300)).head (ckI I ((shortO x7).body.take 300)).epoch := hI.headX_ck hP (by omega) hX
        refine c_region ?_
        refine l_val (v := .pointer (some ⟨Jn, 0, none⟩)) rfl rfl rfl (e_move) ?_
        refine l_val (v := .agg #[Bx ((shortO x7).kind), .int .u8 (0), .slice a15 ((x7.body.take 20).length) (c16)]) rfl rfl rfl (e_load tf87 (cs := [Bx ((shortO x7).kind), .int .u8 (0), .slice a15 ((x7.body.take 20).length) (c16)]) rfl (k_pt 0 (cs := #[Bx ((shortO x7).kind), .int .u8 (0), .slice a15 ((x7.body.take 20).length) (c16)]) (vs := [Bx ((shortO x7).kind), .int .u8 (0), .slice a15 ((x7.body.take 20).length) (c16)]) rfl rfl) rfl) ?_
        refine l_call rfl rfl rfl (cl_value (fst := []) (cap := []) (vs := [.pointer (some ⟨Jn, 0, none⟩), .agg #[Bx ((shortO x7).kind), .int .u8 (0), .slice a15 ((x7.body.take 20).length) (c16)]]) (all := [.pointer (some ⟨Jn, 0, none⟩), .agg #[Bx ((shortO x7).kind), .int .u8 (0), .slice a15 ((x7.body.take 20).length) (c16)]]) tf113 rfl rfl rfl) ?_
        intro w hw
        replace hw := hw.perm (L' := _ :: _ :: _ :: _ :: _ :: _ :: []) (by exact ((((((perm_front 5 rfl).trans (perm_front 5 rfl)).trans (perm_front 5 rfl)).trans (perm_front 3 rfl)).trans (perm_front 5 rfl)).trans (perm_front 5 rfl)))
        obtain ⟨β1, sb, kn, hw1, back⟩ := St.frame (L := [_, _]) (M := _ :: _ :: _ :: _ :: []) hw
        refine (does_ck_ok β1 w Jn b2 K I hfit (by omega) (by omega) (by omega) (by omega) (shortO x7) a15 c16 (show ((x7.body.take 20) : Bs).length ≤ c16 by simp only [List.length_take]; omega) (by omega) (Elems.mono _ _ _ _ _ sb (Elems.take 20 he19)) hkd hc hw1).mono ?_
        rintro e w' ⟨rfl, hw'⟩
        refine ⟨_, rfl, _, back _ _ hw', ?_⟩
        clear hw hw1 hw' back kn sb
        refine l_val (v := .bool true) rfl rfl rfl (e_eql (a := (0 : Int)) (b := (0 : Int)) rfl rfl) ?_
        refine l_val (v := .bool true) rfl rfl rfl (e_assign) ?_
        refine l_nil ?_
        refine f_then ?_
        refine c_region ?_
        refine l_val (v := .agg #[Nx (C.epoch), Nx (C.next), .string (C.state), .slice pn (C.recs).length cn]) rfl rfl rfl (e_load tf101 (cs := [Nx (C.epoch), Nx (C.next), .string (C.state), .slice pn (C.recs).length cn]) rfl (k_pt 3 (cs := #[Nx (C.epoch), Nx (C.next), .string (C.state), .slice pn (C.recs).length cn]) (vs := [Nx (C.epoch), Nx (C.next), .string (C.state), .slice pn (C.recs).length cn]) rfl rfl) rfl) ?_
        refine l_val (v := .agg #[Bx ((shortO x7).kind), .int .u8 (0), .slice a15 ((x7.body.take 20).length) (c16)]) rfl rfl rfl (e_load tf87 (cs := [Bx ((shortO x7).kind), .int .u8 (0), .slice a15 ((x7.body.take 20).length) (c16)]) rfl (k_pt 2 (cs := #[Bx ((shortO x7).kind), .int .u8 (0), .slice a15 ((x7.body.take 20).length) (c16)]) (vs := [Bx ((shortO x7).kind), .int .u8 (0), .slice a15 ((x7.body.take 20).length) (c16)]) rfl rfl) rfl) ?_
        refine l_call rfl rfl rfl (cl_value (fst := []) (cap := []) (vs := [.agg #[Nx (C.epoch), Nx (C.next), .string (C.state), .slice pn (C.recs).length cn], .agg #[Bx ((shortO x7).kind), .int .u8 (0), .slice a15 ((x7.body.take 20).length) (c16)]]) (all := [.agg #[Nx (C.epoch), Nx (C.next), .string (C.state), .slice pn (C.recs).length cn], .agg #[Bx ((shortO x7).kind), .int .u8 (0), .slice a15 ((x7.body.take 20).length) (c16)]]) tf114 rfl rfl rfl) ?_
        intro w hw
        obtain ⟨β1, sb, kn, hw1, back⟩ := St.frame_all hw
        refine (with_2 β1 w hw1 C pn cn (by omega) (by omega) (kn _ (Knows.of_res 4 rfl (Elems.mono _ _ _) fun _ h => row_stre h)) (by first | omega | (simp only []; omega)) (shortO x7) a15 c16 (show ((x7.body.take 20) : Bs).length ≤ c16 by simp only [List.length_take]; omega) (by omega) (Elems.mono _ _ _ _ _ sb (Elems.take 20 he19)) (by omega)).mono ?_
        rintro e w' ⟨rfl, hw'⟩
        refine ⟨_, rfl, _, back _ _ hw', ?_⟩
        clear hw hw1 hw' back kn sb
        refine l_mu rfl rfl (m_store 3 tf101 (b := b4) (o := 0) (T := 27) (cs := #[Nx (C.epoch), Nx (C.next), .string (C.state), .slice pn (C.recs).length cn]) (cs' := #[Nx (C.epoch + 1), Nx (C.next), .string (str ((shortO x7).body.take 300)), .slice none 0 0]) (v := .agg #[Nx (C.epoch + 1), Nx (C.next), .string (str ((shortO x7).body.take 300)), .slice none 0 0]) rfl rfl rfl rfl rfl rfl rfl) ?_
        refine l_nil ?_
        refine f_block ?_
        refine f_then ?_
        refine c_region ?_
        refine l_val (v := Nx (k)) rfl rfl rfl (e_move) ?_
        refine l_val (v := Nx (k + 1)) rfl rfl rfl (e_add (a := ((k : Nat) : Int)) (b := (1 : Int)) rfl rfl (i64n (by omega) (by omega))) ?_
        refine l_val (v := Nx (k + 1)) rfl rfl rfl (e_assign) ?_
        refine l_nil ?_
        refine f_emp (r := row (.slice none 0 0) 9 1 0 ([].map (fun s : ByteArray => Value.string s))) (row_nil _ _ _) ?_
        refine f_perm (L' := [jourR Jn b2 (ckI I ((shortO x7).body.take 300)) false, storeR b2 (ckS K (I.epoch + 1) I.next ((shortO x7).body.take 300)), pt b4 (.cells #[Nx (C.epoch + 1), Nx (C.next), .string (str ((shortO x7).body.take 300)), .slice none 0 0] 27), row (.slice none 0 0) 9 1 (0) ([].map (fun s : ByteArray => Value.string s)), pt b1 (.cells #[.int .i64 (0), .int .i64 (0), .string ((⟨#[]⟩ : ByteArray)), .slice none 0 0] 27), pt b20 (.cells #[Bx ((shortO x7).kind), .int .u8 (0), .slice a15 ((x7.body.take 20).length) (c16)] 47), row (.slice pn (C.recs).length cn) 9 1 ((C.recs).length) (C.recs.map (fun s : ByteArray => Value.string s))]) (((((((perm_front 5 rfl).trans (perm_front 4 rfl)).trans (perm_front 6 rfl)).trans (perm_front 3 rfl)).trans (perm_front 6 rfl)).trans (perm_front 6 rfl)).trans (perm_front 6 rfl)) ?_
        refine f_mask (L' := [jourR Jn b2 (ckI I ((shortO x7).body.take 300)) false, storeR b2 (ckS K (I.epoch + 1) I.next ((shortO x7).body.take 300)), pt b4 (.cells #[Nx (C.epoch + 1), Nx (C.next), .string (str ((shortO x7).body.take 300)), .slice none 0 0] 27), row (.slice none 0 0) 9 1 (0) ([].map (fun s : ByteArray => Value.string s)), pt b1 (.cells #[.int .i64 (0), .int .i64 (0), .string ((⟨#[]⟩ : ByteArray)), .slice none 0 0] 27)]) [true, true, true, true, true, false, false] rfl ?_
        exact f_cut ⟨(k + 1, (ckS K (I.epoch + 1) I.next ((shortO x7).body.take 300)), (ckI I ((shortO x7).body.take 300)), Jn, (⟨C.epoch + 1, C.next, str ((shortO x7).body.take 300), []⟩ : KC), none, 0), ⟨⟨rfl, rfl, rfl, rfl, rfl, rfl, rfl⟩, rfl, ⟨by omega, hI2, hC2, hP2, hX2⟩⟩, (show 8 - (k + 1) < 8 - k from by omega)⟩
      ·
        have hc : apOk K I ((shortO x7).body.take 300) := ap_neg hP
        have hI2 := hI.ap_ok (by omega) (by simp; omega) hc
        have hC2 := isP_ap (b := ((shortO x7).body.take 300)) hC
        have hP2 : (apS K I ((shortO x7).body.take 300)).power = -1 := apS_neg hP
        have hX2 : HeadX (apS K I ((shortO x7).body.take 300)).head (apI I ((shortO x7).body.take 300)).epoch := headX_ap hX
        refine c_region ?_
        refine l_val (v := .pointer (some ⟨Jn, 0, none⟩)) rfl rfl rfl (e_move) ?_
        refine l_val (v := .agg #[Bx ((shortO x7).kind), .int .u8 (0), .slice a15 ((x7.body.take 20).length) (c16)]) rfl rfl rfl (e_load tf87 (cs := [Bx ((shortO x7).kind), .int .u8 (0), .slice a15 ((x7.body.take 20).length) (c16)]) rfl (k_pt 0 (cs := #[Bx ((shortO x7).kind), .int .u8 (0), .slice a15 ((x7.body.take 20).length) (c16)]) (vs := [Bx ((shortO x7).kind), .int .u8 (0), .slice a15 ((x7.body.take 20).length) (c16)]) rfl rfl) rfl) ?_
        refine l_call rfl rfl rfl (cl_value (fst := []) (cap := []) (vs := [.pointer (some ⟨Jn, 0, none⟩), .agg #[Bx ((shortO x7).kind), .int .u8 (0), .slice a15 ((x7.body.take 20).length) (c16)]]) (all := [.pointer (some ⟨Jn, 0, none⟩), .agg #[Bx ((shortO x7).kind), .int .u8 (0), .slice a15 ((x7.body.take 20).length) (c16)]]) tf113 rfl rfl rfl) ?_
        intro w hw
        replace hw := hw.perm (L' := _ :: _ :: _ :: _ :: _ :: _ :: []) (by exact ((((((perm_front 5 rfl).trans (perm_front 5 rfl)).trans (perm_front 5 rfl)).trans (perm_front 3 rfl)).trans (perm_front 5 rfl)).trans (perm_front 5 rfl)))
        obtain ⟨β1, sb, kn, hw1, back⟩ := St.frame (L := [_, _]) (M := _ :: _ :: _ :: _ :: []) hw
        refine (does_ap_ok β1 w Jn b2 K I hfit (by omega) (by omega) (by omega) (by omega) (shortO x7) a15 c16 (show ((x7.body.take 20) : Bs).length ≤ c16 by simp only [List.length_take]; omega) (by omega) (Elems.mono _ _ _ _ _ sb (Elems.take 20 he19)) hkd hc hw1).mono ?_
        rintro e w' ⟨rfl, hw'⟩
        refine ⟨_, rfl, _, back _ _ hw', ?_⟩
        clear hw hw1 hw' back kn sb
        refine l_val (v := .bool true) rfl rfl rfl (e_eql (a := (0 : Int)) (b := (0 : Int)) rfl rfl) ?_
        refine l_val (v := .bool true) rfl rfl rfl (e_assign) ?_
        refine l_nil ?_
        refine f_then ?_
        refine c_region ?_
        refine l_val (v := .agg #[Nx (C.epoch), Nx (C.next), .string (C.state), .slice pn (C.recs).length cn]) rfl rfl rfl (e_load tf101 (cs := [Nx (C.epoch), Nx (C.next), .string (C.state), .slice pn (C.recs).length cn]) rfl (k_pt 3 (cs := #[Nx (C.epoch), Nx (C.next), .string (C.state), .slice pn (C.recs).length cn]) (vs := [Nx (C.epoch), Nx (C.next), .string (C.state), .slice pn (C.recs).length cn]) rfl rfl) rfl) ?_
        refine l_val (v := .agg #[Bx ((shortO x7).kind), .int .u8 (0), .slice a15 ((x7.body.take 20).length) (c16)]) rfl rfl rfl (e_load tf87 (cs := [Bx ((shortO x7).kind), .int .u8 (0), .slice a15 ((x7.body.take 20).length) (c16)]) rfl (k_pt 2 (cs := #[Bx ((shortO x7).kind), .int .u8 (0), .slice a15 ((x7.body.take 20).length) (c16)]) (vs := [Bx ((shortO x7).kind), .int .u8 (0), .slice a15 ((x7.body.take 20).length) (c16)]) rfl rfl) rfl) ?_
        refine l_call rfl rfl rfl (cl_value (fst := []) (cap := []) (vs := [.agg #[Nx (C.epoch), Nx (C.next), .string (C.state), .slice pn (C.recs).length cn], .agg #[Bx ((shortO x7).kind), .int .u8 (0), .slice a15 ((x7.body.take 20).length) (c16)]]) (all := [.agg #[Nx (C.epoch), Nx (C.next), .string (C.state), .slice pn (C.recs).length cn], .agg #[Bx ((shortO x7).kind), .int .u8 (0), .slice a15 ((x7.body.take 20).length) (c16)]]) tf114 rfl rfl rfl) ?_
        intro w hw
        obtain ⟨β1, sb, kn, hw1, back⟩ := St.frame_all hw
        refine (with_app β1 w hw1 C pn cn (by omega) (by omega) (kn _ (Knows.of_res 4 rfl (Elems.mono _ _ _) fun _ h => row_stre h)) (by first | omega | (simp only []; omega)) (by first | omega | (simp only []; omega)) (shortO x7) a15 c16 (show ((x7.body.take 20) : Bs).length ≤ c16 by simp only [List.length_take]; omega) (by omega) (Elems.mono _ _ _ _ _ sb (Elems.take 20 he19)) (by omega)).mono ?_
        rintro e w' ⟨p21, c22, rfl, hw'⟩
        refine ⟨_, rfl, _, back _ _ hw', ?_⟩
        clear hw hw1 hw' back kn sb
        refine l_mu rfl rfl (m_store 4 tf101 (b := b4) (o := 0) (T := 27) (cs := #[Nx (C.epoch), Nx (C.next), .string (C.state), .slice pn (C.recs).length cn]) (cs' := #[Nx (C.epoch), Nx (C.next + 1), .string (C.state), .slice p21 ((C.recs ++ [str ((shortO x7).body.take 300)])).length c22]) (v := .agg #[Nx (C.epoch), Nx (C.next + 1), .string (C.state), .slice p21 ((C.recs ++ [str ((shortO x7).body.take 300)])).length c22]) rfl rfl rfl rfl rfl rfl rfl) ?_
        refine l_nil ?_
        refine f_block ?_
        refine f_then ?_
        refine c_region ?_
        refine l_val (v := Nx (k)) rfl rfl rfl (e_move) ?_
        refine l_val (v := Nx (k + 1)) rfl rfl rfl (e_add (a := ((k : Nat) : Int)) (b := (1 : Int)) rfl rfl (i64n (by omega) (by omega))) ?_
        refine l_val (v := Nx (k + 1)) rfl rfl rfl (e_assign) ?_
        refine l_nil ?_
        refine f_perm (L' := [jourR Jn b2 (apI I ((shortO x7).body.take 300)) false, storeR b2 (apS K I ((shortO x7).body.take 300)), pt b4 (.cells #[Nx (C.epoch), Nx (C.next + 1), .string (C.state), .slice p21 ((C.recs ++ [str ((shortO x7).body.take 300)])).length c22] 27), row (.slice p21 ((C.recs ++ [str ((shortO x7).body.take 300)])).length c22) 9 1 (((C.recs ++ [str ((shortO x7).body.take 300)])).length) ((C.recs ++ [str ((shortO x7).body.take 300)]).map (fun s : ByteArray => Value.string s)), pt b1 (.cells #[.int .i64 (0), .int .i64 (0), .string ((⟨#[]⟩ : ByteArray)), .slice none 0 0] 27), pt b20 (.cells #[Bx ((shortO x7).kind), .int .u8 (0), .slice a15 ((x7.body.take 20).length) (c16)] 47), row (.slice pn (C.recs).length cn) 9 1 ((C.recs).length) (C.recs.map (fun s : ByteArray => Value.string s))]) (((((((perm_front 5 rfl).trans (perm_front 4 rfl)).trans (perm_front 6 rfl)).trans (perm_front 3 rfl)).trans (perm_front 6 rfl)).trans (perm_front 6 rfl)).trans (perm_front 6 rfl)) ?_
        refine f_mask (L' := [jourR Jn b2 (apI I ((shortO x7).body.take 300)) false, storeR b2 (apS K I ((shortO x7).body.take 300)), pt b4 (.cells #[Nx (C.epoch), Nx (C.next + 1), .string (C.state), .slice p21 ((C.recs ++ [str ((shortO x7).body.take 300)])).length c22] 27), row (.slice p21 ((C.recs ++ [str ((shortO x7).body.take 300)])).length c22) 9 1 (((C.recs ++ [str ((shortO x7).body.take 300)])).length) ((C.recs ++ [str ((shortO x7).body.take 300)]).map (fun s : ByteArray => Value.string s)), pt b1 (.cells #[.int .i64 (0), .int .i64 (0), .string ((⟨#[]⟩ : ByteArray)), .slice none 0 0] 27)]) [true, true, true, true, true, false, false] rfl ?_
        exact f_cut ⟨(k + 1, (apS K I ((shortO x7).body.take 300)), (apI I ((shortO x7).body.take 300)), Jn, (⟨C.epoch, C.next + 1, C.state, (C.recs ++ [str ((shortO x7).body.take 300)])⟩ : KC), p21, c22), ⟨⟨rfl, rfl, rfl, rfl, rfl, rfl, rfl⟩, rfl, ⟨by omega, hI2, hC2, hP2, hX2⟩⟩, (show 8 - (k + 1) < 8 - k from by omega)⟩
    ·
      refine l_skip rfl rfl rfl rfl rfl rfl ?_
      refine l_val (v := .bool false) rfl rfl rfl (e_pick_f rfl) ?_
      refine l_nil ?_
      refine f_then ?_
      refine c_no rfl ?_
      refine c_exit ?_
      refine f_then_exit ?_
      refine f_then_exit ?_
      refine f_exit ?_
      refine f_then ?_
      refine c_seq ?_
      refine c_any [⟨[], [], [0], [43], fun f => f 43 = .pointer (some ⟨b2, 0, none⟩)⟩, ⟨[], [], [1], [44], fun f => f 44 = .agg #[Nx (C.epoch), Nx (C.next), .string (C.state), .slice pn (C.recs).length cn]⟩, ⟨[], [], [2], [45], fun f => f 45 = .bool true⟩, ⟨[0], [0], [], [2], fun f => f 2 = .pointer (some ⟨b2, 0, none⟩)⟩, ⟨[0, 1, 3], [1], [3], [], fun _ => True⟩, ⟨[0, 1, 2, 3, 4], [2], [], [4], fun f => f 4 = .bool true⟩] [⟨none, none, [], [], fun _ => jourR Jn b2 I false⟩, ⟨none, none, [], [], fun _ => storeR b2 K⟩, ⟨none, none, [1], [], fun _ => pt b4 (.cells #[Nx (C.epoch), Nx (C.next), .string (C.state), .slice pn (C.recs).length cn] 27)⟩, ⟨none, none, [], [], fun _ => row (.slice pn (C.recs).length cn) 9 1 ((C.recs).length) (C.recs.map (fun s : ByteArray => Value.string s))⟩, ⟨none, (some 4), [4], [], fun _ => pt b1 (.cells #[.int .i64 (0), .int .i64 (0), .string ((⟨#[]⟩ : ByteArray)), .slice none 0 0] 27)⟩, ⟨(some 4), none, [], [], fun _ => pt b1 (.cells #[Nx (C.epoch), Nx (C.next), .string (C.state), .slice pn (C.recs).length cn] 27)⟩] [(5, .pointer (some ⟨b2, 0, none⟩)), (8, .pointer (some ⟨b4, 0, none⟩)), (7, .bool true), (3, .pointer (some ⟨b1, 0, none⟩))] [3] [] (by kernel_rfl) (by kernel_rfl) (by kernel_rfl) (by kernel_rfl) rfl ⟨rfl, rfl, rfl, rfl, trivial⟩ ⟨?_, ?_, ?_, ?_, ?_, ?_, trivial⟩ ?_
      · rintro f M - ⟨i0, -⟩
        have hs5 : f 5 = .pointer (some ⟨b2, 0, none⟩) := i0
        refine ob_start (L' := M) (by rfl) (up_cons rfl hs5) ?_
        refine l_val (v := .pointer (some ⟨b2, 0, none⟩)) rfl rfl rfl (e_move) ?_
        refine l_nil ?_
        exact f_owes_d (up_cons rfl hs5) rfl (List.Perm.refl _)
      · rintro f M - ⟨i0, -⟩
        have hs8 : f 8 = .pointer (some ⟨b4, 0, none⟩) := i0
        refine ob_start (L' := pt b4 (.cells #[Nx (C.epoch), Nx (C.next), .string (C.state), .slice pn (C.recs).length cn] 27) :: M) (by rfl) (up_cons rfl hs8) ?_
        refine l_val (v := .agg #[Nx (C.epoch), Nx (C.next), .string (C.state), .slice pn (C.recs).length cn]) rfl rfl rfl (e_load tf101 (cs := [Nx (C.epoch), Nx (C.next), .string (C.state), .slice pn (C.recs).length cn]) rfl (k_pt 0 (cs := #[Nx (C.epoch), Nx (C.next), .string (C.state), .slice pn (C.recs).length cn]) (vs := [Nx (C.epoch), Nx (C.next), .string (C.state), .slice pn (C.recs).length cn]) rfl rfl) rfl) ?_
        refine l_nil ?_
        exact f_owes_d (up_cons rfl hs8) rfl (perm_front 0 rfl)
      · rintro f M - ⟨i0, -⟩
        have hs7 : f 7 = .bool true := i0
        refine ob_start (L' := M) (by rfl) (up_cons rfl hs7) ?_
        refine l_val (v := .bool true) rfl rfl rfl (e_move) ?_
        refine l_nil ?_
        exact f_owes_d (up_cons rfl hs7) rfl (List.Perm.refl _)
      · rintro f M ⟨k0, -⟩ -
        have hs43 : f 43 = .pointer (some ⟨b2, 0, none⟩) := k0
        refine ob_start (L' := M) (by rfl) (up_cons rfl hs43) ?_
        refine l_val (v := .pointer (some ⟨b2, 0, none⟩)) rfl rfl rfl (e_assign) ?_
        refine l_nil ?_
        exact f_owes_d (up_cons rfl hs43) rfl (List.Perm.refl _)
      · rintro f M ⟨k0, -⟩ ⟨i0, -⟩
        have hs3 : f 3 = .pointer (some ⟨b1, 0, none⟩) := i0
        have hs44 : f 44 = .agg #[Nx (C.epoch), Nx (C.next), .string (C.state), .slice pn (C.recs).length cn] := k0
        refine ob_start (L' := pt b1 (.cells #[.int .i64 (0), .int .i64 (0), .string ((⟨#[]⟩ : ByteArray)), .slice none 0 0] 27) :: M) (by rfl) (up_cons (up_cons rfl hs3) hs44) ?_
        refine l_mu rfl rfl (m_store 0 tf101 (b := b1) (o := 0) (T := 27) (cs := #[.int .i64 (0), .int .i64 (0), .string ((⟨#[]⟩ : ByteArray)), .slice none 0 0]) (cs' := #[Nx (C.epoch), Nx (C.next), .string (C.state), .slice pn (C.recs).length cn]) (v := .agg #[Nx (C.epoch), Nx (C.next), .string (C.state), .slice pn (C.recs).length cn]) rfl rfl rfl rfl rfl rfl rfl) ?_
        refine l_nil ?_
        exact f_owes_n (up_cons (up_cons rfl hs3) hs44) trivial (perm_front 0 rfl)
      · rintro f M ⟨k0, -⟩ -
        have hs45 : f 45 = .bool true := k0
        refine ob_start (L' := M) (by rfl) (up_cons rfl hs45) ?_
        refine l_val (v := .bool true) rfl rfl rfl (e_assign) ?_
        refine l_nil ?_
        exact f_owes_d (up_cons rfl hs45) rfl (List.Perm.refl _)
      rintro fa23 ⟨-, -, -, k3, -, k5, -⟩ ⟨j0, -⟩
      refine f_re (L' := [jourR Jn b2 I false, storeR b2 K, pt b4 (.cells #[Nx (C.epoch), Nx (C.next), .string (C.state), .slice pn (C.recs).length cn] 27), row (.slice pn (C.recs).length cn) 9 1 ((C.recs).length) (C.recs.map (fun s : ByteArray => Value.string s)), pt b1 (.cells #[Nx (C.epoch), Nx (C.next), .string (C.state), .slice pn (C.recs).length cn] 27)]) (by rfl) ?_
      refine f_rebase (d := 2) (v := .pointer (some ⟨b2, 0, none⟩)) k3 ?_
      refine f_rebase (d := 3) (v := .pointer (some ⟨b1, 0, none⟩)) j0 ?_
      refine f_rebase (d := 4) (v := .bool true) k5 ?_
      refine f_then ?_
      refine c_ret ?_
      refine retG (l := [.tmp 2, .cell 3 27, .tmp 4]) (m := [.pointer (some ⟨b2, 0, none⟩), .agg #[Nx (C.epoch), Nx (C.next), .string (C.state), .slice pn (C.recs).length cn], .bool true]) (v := .tuple #[.pointer (some ⟨b2, 0, none⟩), .agg #[Nx (C.epoch), Nx (C.next), .string (C.state), .slice pn (C.recs).length cn], .bool true]) Try.results11 ⟨rd_tmp (v := .pointer (some ⟨b2, 0, none⟩)) rfl, rd_cell tf101 (cs := [Nx (C.epoch), Nx (C.next), .string (C.state), .slice pn (C.recs).length cn]) rfl (k_pt 4 (cs := #[Nx (C.epoch), Nx (C.next), .string (C.state), .slice pn (C.recs).length cn]) (vs := [Nx (C.epoch), Nx (C.next), .string (C.state), .slice pn (C.recs).length cn]) rfl rfl) rfl, rd_tmp (v := .bool true) rfl, trivial⟩ rfl ?_
      intro w hw
      exact ⟨_, K, I, C, pn, cn, rfl, hI.mono (by omega), hC, hP, hX, st_mask [true, true, false, false, false] rfl (hw.perm (L' := [storeR b2 K, row (.slice pn (C.recs).length cn) 9 1 ((C.recs).length) (C.recs.map (fun s : ByteArray => Value.string s)), jourR Jn b2 I false, pt b4 (.cells #[Nx (C.epoch), Nx (C.next), .string (C.state), .slice pn (C.recs).length cn] 27), pt b1 (.cells #[Nx (C.epoch), Nx (C.next), .string (C.state), .slice pn (C.recs).length cn] 27)]) (by exact (((((perm_front 4 rfl).trans (perm_front 3 rfl)).trans (perm_front 2 rfl)).trans (perm_front 4 rfl)).trans (perm_front 4 rfl))))⟩
  ·
    refine l_skip rfl rfl rfl rfl rfl rfl ?_
    refine l_skip rfl rfl rfl rfl rfl rfl ?_
    refine l_val (v := .bool false) rfl rfl rfl (e_pick_f rfl) ?_
    refine l_val (v := .bool false) rfl rfl rfl (e_move) ?_
    refine l_skip rfl rfl rfl rfl rfl rfl ?_
    refine l_val (v := .bool false) rfl rfl rfl (e_pick_f rfl) ?_
    refine l_nil ?_
    refine f_then ?_
    refine c_no rfl ?_
    refine c_exit ?_
    refine f_then_exit ?_
    refine f_then_exit ?_
    refine f_exit ?_
    refine f_then ?_
    refine c_seq ?_
    refine c_any [⟨[], [], [0], [43], fun f => f 43 = .pointer (some ⟨b2, 0, none⟩)⟩, ⟨[], [], [1], [44], fun f => f 44 = .agg #[Nx (C.epoch), Nx (C.next), .string (C.state), .slice pn (C.recs).length cn]⟩, ⟨[], [], [2], [45], fun f => f 45 = .bool true⟩, ⟨[0], [0], [], [2], fun f => f 2 = .pointer (some ⟨b2, 0, none⟩)⟩, ⟨[0, 1, 3], [1], [3], [], fun _ => True⟩, ⟨[0, 1, 2, 3, 4], [2], [], [4], fun f => f 4 = .bool true⟩] [⟨none, none, [], [], fun _ => jourR Jn b2 I false⟩, ⟨none, none, [], [], fun _ => storeR b2 K⟩, ⟨none, none, [1], [], fun _ => pt b4 (.cells #[Nx (C.epoch), Nx (C.next), .string (C.state), .slice pn (C.recs).length cn] 27)⟩, ⟨none, none, [], [], fun _ => row (.slice pn (C.recs).length cn) 9 1 ((C.recs).length) (C.recs.map (fun s : ByteArray => Value.string s))⟩, ⟨none, (some 4), [4], [], fun _ => pt b1 (.cells #[.int .i64 (0), .int .i64 (0), .string ((⟨#[]⟩ : ByteArray)), .slice none 0 0] 27)⟩, ⟨(some 4), none, [], [], fun _ => pt b1 (.cells #[Nx (C.epoch), Nx (C.next), .string (C.state), .slice pn (C.recs).length cn] 27)⟩] [(5, .pointer (some ⟨b2, 0, none⟩)), (8, .pointer (some ⟨b4, 0, none⟩)), (7, .bool true), (3, .pointer (some ⟨b1, 0, none⟩))] [3] [] (by kernel_rfl) (by kernel_rfl) (by kernel_rfl) (by kernel_rfl) rfl ⟨rfl, rfl, rfl, rfl, trivial⟩ ⟨?_, ?_, ?_, ?_, ?_, ?_, trivial⟩ ?_
    · rintro f M - ⟨i0, -⟩
      have hs5 : f 5 = .pointer (some ⟨b2, 0, none⟩) := i0
      refine ob_start (L' := M) (by rfl) (up_cons rfl hs5) ?_
      refine l_val (v := .pointer (some ⟨b2, 0, none⟩)) rfl rfl rfl (e_move) ?_
      refine l_nil ?_
      exact f_owes_d (up_cons rfl hs5) rfl (List.Perm.refl _)
    · rintro f M - ⟨i0, -⟩
      have hs8 : f 8 = .pointer (some ⟨b4, 0, none⟩) := i0
      refine ob_start (L' := pt b4 (.cells #[Nx (C.epoch), Nx (C.next), .string (C.state), .slice pn (C.recs).length cn] 27) :: M) (by rfl) (up_cons rfl hs8) ?_
      refine l_val (v := .agg #[Nx (C.epoch), Nx (C.next), .string (C.state), .slice pn (C.recs).length cn]) rfl rfl rfl (e_load tf101 (cs := [Nx (C.epoch), Nx (C.next), .string (C.state), .slice pn (C.recs).length cn]) rfl (k_pt 0 (cs := #[Nx (C.epoch), Nx (C.next), .string (C.state), .slice pn (C.recs).length cn]) (vs := [Nx (C.epoch), Nx (C.next), .string (C.state), .slice pn (C.recs).length cn]) rfl rfl) rfl) ?_
      refine l_nil ?_
      exact f_owes_d (up_cons rfl hs8) rfl (perm_front 0 rfl)
    · rintro f M - ⟨i0, -⟩
      have hs7 : f 7 = .bool true := i0
      refine ob_start (L' := M) (by rfl) (up_cons rfl hs7) ?_
      refine l_val (v := .bool true) rfl rfl rfl (e_move) ?_
      refine l_nil ?_
      exact f_owes_d (up_cons rfl hs7) rfl (List.Perm.refl _)
    · rintro f M ⟨k0, -⟩ -
      have hs43 : f 43 = .pointer (some ⟨b2, 0, none⟩) := k0
      refine ob_start (L' := M) (by rfl) (up_cons rfl hs43) ?_
      refine l_val (v := .pointer (some ⟨b2, 0, none⟩)) rfl rfl rfl (e_assign) ?_
      refine l_nil ?_
      exact f_owes_d (up_cons rfl hs43) rfl (List.Perm.refl _)
    · rintro f M ⟨k0, -⟩ ⟨i0, -⟩
      have hs3 : f 3 = .pointer (some ⟨b1, 0, none⟩) := i0
      have hs44 : f 44 = .agg #[Nx (C.epoch), Nx (C.next), .string (C.state), .slice pn (C.recs).length cn] := k0
      refine ob_start (L' := pt b1 (.cells #[.int .i64 (0), .int .i64 (0), .string ((⟨#[]⟩ : ByteArray)), .slice none 0 0] 27) :: M) (by rfl) (up_cons (up_cons rfl hs3) hs44) ?_
      refine l_mu rfl rfl (m_store 0 tf101 (b := b1) (o := 0) (T := 27) (cs := #[.int .i64 (0), .int .i64 (0), .string ((⟨#[]⟩ : ByteArray)), .slice none 0 0]) (cs' := #[Nx (C.epoch), Nx (C.next), .string (C.state), .slice pn (C.recs).length cn]) (v := .agg #[Nx (C.epoch), Nx (C.next), .string (C.state), .slice pn (C.recs).length cn]) rfl rfl rfl rfl rfl rfl rfl) ?_
      refine l_nil ?_
      exact f_owes_n (up_cons (up_cons rfl hs3) hs44) trivial (perm_front 0 rfl)
    · rintro f M ⟨k0, -⟩ -
      have hs45 : f 45 = .bool true := k0
      refine ob_start (L' := M) (by rfl) (up_cons rfl hs45) ?_
      refine l_val (v := .bool true) rfl rfl rfl (e_assign) ?_
      refine l_nil ?_
      exact f_owes_d (up_cons rfl hs45) rfl (List.Perm.refl _)
    rintro fa24 ⟨-, -, -, k3, -, k5, -⟩ ⟨j0, -⟩
    refine f_re (L' := [jourR Jn b2 I false, storeR b2 K, pt b4 (.cells #[Nx (C.epoch), Nx (C.next), .string (C.state), .slice pn (C.recs).length cn] 27), row (.slice pn (C.recs).length cn) 9 1 ((C.recs).length) (C.recs.map (fun s : ByteArray => Value.string s)), pt b1 (.cells #[Nx (C.epoch), Nx (C.next), .string (C.state), .slice pn (C.recs).length cn] 27)]) (by rfl) ?_
    refine f_rebase (d := 2) (v := .pointer (some ⟨b2, 0, none⟩)) k3 ?_
    refine f_rebase (d := 3) (v := .pointer (some ⟨b1, 0, none⟩)) j0 ?_
    refine f_rebase (d := 4) (v := .bool true) k5 ?_
    refine f_then ?_
    refine c_ret ?_
    refine retG (l := [.tmp 2, .cell 3 27, .tmp 4]) (m := [.pointer (some ⟨b2, 0, none⟩), .agg #[Nx (C.epoch), Nx (C.next), .string (C.state), .slice pn (C.recs).length cn], .bool true]) (v := .tuple #[.pointer (some ⟨b2, 0, none⟩), .agg #[Nx (C.epoch), Nx (C.next), .string (C.state), .slice pn (C.recs).length cn], .bool true]) Try.results11 ⟨rd_tmp (v := .pointer (some ⟨b2, 0, none⟩)) rfl, rd_cell tf101 (cs := [Nx (C.epoch), Nx (C.next), .string (C.state), .slice pn (C.recs).length cn]) rfl (k_pt 4 (cs := #[Nx (C.epoch), Nx (C.next), .string (C.state), .slice pn (C.recs).length cn]) (vs := [Nx (C.epoch), Nx (C.next), .string (C.state), .slice pn (C.recs).length cn]) rfl rfl) rfl, rd_tmp (v := .bool true) rfl, trivial⟩ rfl ?_
    intro w hw
    exact ⟨_, K, I, C, pn, cn, rfl, hI.mono (by omega), hC, hP, hX, st_mask [true, true, false, false, false] rfl (hw.perm (L' := [storeR b2 K, row (.slice pn (C.recs).length cn) 9 1 ((C.recs).length) (C.recs.map (fun s : ByteArray => Value.string s)), jourR Jn b2 I false, pt b4 (.cells #[Nx (C.epoch), Nx (C.next), .string (C.state), .slice pn (C.recs).length cn] 27), pt b1 (.cells #[Nx (C.epoch), Nx (C.next), .string (C.state), .slice pn (C.recs).length cn] 27)]) (by exact (((((perm_front 4 rfl).trans (perm_front 3 rfl)).trans (perm_front 2 rfl)).trans (perm_front 4 rfl)).trans (perm_front 4 rfl))))⟩
end Go.Proofs
