/-
  JournalKeeps, walked. Printed by a program of my own.
-/
import Derived.Test.YtkpdcajddpiknaaJn10
namespace Go.Proofs
open Go Go.Sl Go.Jn
theorem isP_ap {C : KC} {I : KI} {b : Bs} (h : isP C I) : isP (⟨C.epoch, C.next + 1, C.state, (C.recs ++ [str b])⟩ : KC) (apI I b) := by
  obtain ⟨h1, h2, h3, h4⟩ := h
  refine ⟨h1, ?_, h3, ?_⟩
  · show I.next + 1 = C.next + 1; omega
  · show (I.recs ++ [b]).map str = _; rw [List.map_append, h4]; rfl
theorem isP_ck {C : KC} {I : KI} {b : Bs} (h : isP C I) : isP (⟨C.epoch + 1, C.next, str b, []⟩ : KC) (ckI I b) := by
  obtain ⟨h1, h2, _, _⟩ := h
  exact ⟨by show I.epoch + 1 = C.epoch + 1; omega, h2, rfl, rfl⟩
theorem isP_not_ap {C : KC} {I : KI} {b : Bs} (h : isP C I) : ¬ isP (⟨C.epoch, C.next + 1, C.state, (C.recs ++ [str b])⟩ : KC) I := fun q => by
  have h1 := h.2.1
  have h2 : I.next = C.next + 1 := q.2.1
  omega
theorem isP_not_ck {C : KC} {I : KI} {b : Bs} (h : isP C I) : ¬ isP (⟨C.epoch + 1, C.next, str b, []⟩ : KC) I := fun q => by
  have h1 := h.1
  have h2 : I.epoch = C.epoch + 1 := q.1
  omega
theorem isP_old_ck {C : KC} {I : KI} {b : Bs} (h : isP C I) : ¬ isP C (ckI I b) := fun q => by
  have h1 := h.1
  have h2 : I.epoch + 1 = C.epoch := q.1
  omega
theorem tf112 : (Try.prog.info? 27).bind (·.zero) = some (.agg #[.int .i64 (0), .int .i64 (0), .string ((⟨#[]⟩ : ByteArray)), .slice none 0 0]) := by kernel_rfl
theorem tf113 : cfB Try.prog 36 = true := by kernel_rfl
theorem tf114 : cfB Try.prog 37 = true := by kernel_rfl
theorem tf115 : cfB Try.prog 38 = true := by kernel_rfl
set_option maxHeartbeats 4000000 in
theorem keeps_ok (β : Base) (w : World) (hw : St β [] w) (xs : List KOp) (v : Value) (hs : Sl OpR β.heap v xs) : Calls Try.prog 7 #[v] w fun r w' => r = .returned (.bool true) ∧ St β [] w' := by
  obtain ⟨va, vc, rfl, vl, vm, ve⟩ := hs.get
  refine enter (n := 122) Try.func7 rfl Try.ntmps7 rfl ?_ hw
  refine c_seq ?_
  refine c_region ?_
  refine l_val (v := .bool false) rfl rfl rfl (e_assign) ?_
  refine l_nil ?_
  refine f_then ?_
  refine c_seq ?_
  refine c_region ?_
  refine l_val (v := .agg #[.slice none 0 0, .slice none 0 0, .slice none 0 0, .int .i64 (-1)]) rfl rfl rfl (e_build tf106 tf105 (vs := [(3, .int .i64 (-1))]) (cells := #[.slice none 0 0, .slice none 0 0, .slice none 0 0, .int .i64 (-1)]) rfl rfl) ?_
  refine l_mv rfl rfl rfl (m_box (v := .agg #[.slice none 0 0, .slice none 0 0, .slice none 0 0, .int .i64 (-1)]) rfl) ?_
  rintro _ _ ⟨b1, rfl, rfl⟩
  refine l_val (v := .pointer (some ⟨b1, 0, none⟩)) rfl rfl rfl (e_assign) ?_
  refine l_nil ?_
  refine f_then ?_
  refine c_seq ?_
  refine c_emp (r := row (.slice none 0 0) 5 1 0 (BX [])) (row_nil _ _ _) ?_
  refine c_emp (r := row (.slice none 0 0) 5 1 0 (BX [])) (row_nil _ _ _) ?_
  refine c_emp (r := row (.slice none 0 0) 5 1 0 (BX [])) (row_nil _ _ _) ?_
  refine c_perm (L' := (pt b1 (.cells #[.slice none 0 0, .slice none 0 0, .slice none 0 0, .int .i64 (-1)] 32) :: row (.slice none 0 0) 5 1 0 (BX []) :: row (.slice none 0 0) 5 1 0 (BX []) :: row (.slice none 0 0) 5 1 0 (BX []) :: [])) (by exact ((((perm_front 2 rfl).trans (perm_front 2 rfl)).trans (perm_front 2 rfl)).trans (perm_front 3 rfl))) ?_
  refine c_closeStore (S := b1) (k := aK0) (pH := none) (pA := none) (pB := none) (cH := 0) (cA := 0) (cB := 0) (M := ([])) (by rfl) ?_
  refine c_region ?_
  refine l_val (v := .pointer (some ⟨b1, 0, none⟩)) rfl rfl rfl (e_move) ?_
  refine l_call rfl rfl rfl (cl_value (fst := []) (cap := []) (vs := [.pointer (some ⟨b1, 0, none⟩)]) (all := [.pointer (some ⟨b1, 0, none⟩)]) tf107 rfl rfl rfl) ?_
  intro w hw
  replace hw := hw.perm (L' := _ :: []) (by exact (perm_front 0 rfl))
  obtain ⟨β1, sb, kn, hw1, back⟩ := St.frame (L := [_]) (M := []) hw
  refine (again_ok β1 w b1 aK0 ((aw_invz.pow (p := -1) (by decide) (by decide)).okP (by omega)) aI0 aw_invz.read hw1).mono ?_
  rintro e w' ⟨J2, rfl, hw'⟩
  refine ⟨_, rfl, _, back _ _ hw', ?_⟩
  clear hw hw1 hw' back kn sb
  refine l_val (v := .tuple #[.pointer (some ⟨J2, 0, none⟩), .bool true]) rfl rfl rfl (e_move) ?_
  refine l_val (v := .pointer (some ⟨J2, 0, none⟩)) rfl rfl rfl (e_extract (vs := #[.pointer (some ⟨J2, 0, none⟩), .bool true]) rfl rfl) ?_
  refine l_val (v := .bool true) rfl rfl rfl (e_extract (vs := #[.pointer (some ⟨J2, 0, none⟩), .bool true]) rfl rfl) ?_
  refine l_val (v := .pointer (some ⟨J2, 0, none⟩)) rfl rfl rfl (e_assign) ?_
  refine l_val (v := .bool true) rfl rfl rfl (e_assign) ?_
  refine l_nil ?_
  refine f_then ?_
  refine c_seq ?_
  refine c_seq ?_
  refine c_region ?_
  refine l_val (v := .bool true) rfl rfl rfl (e_move) ?_
  refine l_val (v := .bool false) rfl rfl rfl (e_not (a := true) rfl) ?_
  refine l_nil ?_
  refine f_then ?_
  refine c_no rfl ?_
  refine c_skip ?_
  refine f_then ?_
  refine c_seq ?_
  refine c_region ?_
  refine l_mv rfl rfl rfl (m_alloc tf112) ?_
  rintro _ _ ⟨b3, rfl, rfl⟩
  refine l_mv rfl rfl rfl (m_alloc tf112) ?_
  rintro _ _ ⟨b4, rfl, rfl⟩
  refine l_nil ?_
  refine f_then ?_
  refine c_seq ?_
  refine c_seq ?_
  refine c_region ?_
  refine l_val (v := .slice va (xs.length) (vc)) rfl rfl rfl (e_move) ?_
  refine l_val (v := .slice va (xs.length) (vc)) rfl rfl rfl (e_move) ?_
  refine l_val (v := Nx (xs.length)) rfl rfl rfl (e_len (a := va) (n := xs.length) (c := vc) rfl tf108) ?_
  refine l_val (v := Nx (min xs.length 60)) rfl rfl rfl (ev_eq (congrArg (Value.int .i64) (by omega)) (e_min (a := ((xs.length : Nat) : Int)) (b := (60 : Int)) rfl rfl)) ?_
  obtain ⟨zs5, hz6⟩ : ∃ zs, zs = (xs.take (min xs.length 60)) := ⟨_, rfl⟩
  have zl7 : zs5.length = min (min xs.length 60) (xs).length - 0 := by rw [hz6]; simp; try omega
  have ze8 := (Elems.take (min xs.length 60) ve)
  rw [← hz6] at ze8
  refine l_val (v := .slice va (zs5.length) (vc)) rfl rfl rfl (ev_eq (by rw [show zs5.length = min xs.length 60 by omega]) (e_slice_hi (a := va) (len := xs.length) (cap := vc) (h := min xs.length 60) tf109 rfl rfl (by omega))) ?_
  refine l_val (v := Nx (zs5.length)) rfl rfl rfl (e_len (a := va) (n := zs5.length) (c := vc) rfl tf108) ?_
  refine l_val (v := .int .i64 (0)) rfl rfl rfl (e_move) ?_
  refine l_nil ?_
  refine f_then ?_
  refine c_block ?_
  refine c_emp (r := row (.slice none 0 0) 9 1 0 ([].map (fun s : ByteArray => Value.string s))) (row_nil _ _ _) ?_
  refine c_perm (L' := [jourR J2 b1 aI0 false, storeR b1 (cutS (powS aK0) aI0.epoch aI0.size), pt b3 (.cells #[.int .i64 (0), .int .i64 (0), .string ((⟨#[]⟩ : ByteArray)), .slice none 0 0] 27), pt b4 (.cells #[.int .i64 (0), .int .i64 (0), .string ((⟨#[]⟩ : ByteArray)), .slice none 0 0] 27), row (.slice none 0 0) 9 1 (0) ([].map (fun s : ByteArray => Value.string s))]) (by exact (((((perm_front 0 rfl).trans (perm_front 1 rfl)).trans (perm_front 2 rfl)).trans (perm_front 4 rfl)).trans (perm_front 4 rfl))) ?_
  refine c_mask [true, true, true, true, true] rfl ?_
  refine c_loop (fun (x_ : Nat × KS × KI × Nat × KC × Option Addr × Nat × Value × Value × Value × Value) (f : Fm) (L : List Res) => match x_ with | (k, K, I, Jn, C, pn, cn, y0, y1, y2, y3) => (f 3 = .pointer (some ⟨b1, 0, none⟩) ∧ f 4 = .pointer (some ⟨Jn, 0, none⟩) ∧ f 6 = .pointer (some ⟨b3, 0, none⟩) ∧ f 7 = .pointer (some ⟨b4, 0, none⟩) ∧ f 26 = .slice va (zs5.length) (vc) ∧ f 27 = Nx (zs5.length) ∧ f 28 = Nx (k)) ∧ L = [jourR Jn b1 I false, storeR b1 K, pt b3 (.cells #[Nx (C.epoch), Nx (C.next), .string (C.state), .slice pn (C.recs).length cn] 27), pt b4 (.cells #[y0, y1, y2, y3] 27), row (.slice pn (C.recs).length cn) 9 1 ((C.recs).length) (C.recs.map (fun s : ByteArray => Value.string s))] ∧ (k ≤ zs5.length ∧ Inv K I k true ∧ isP C I)) (fun (x_ : Nat × KS × KI × Nat × KC × Option Addr × Nat × Value × Value × Value × Value) => match x_ with | (k, K, I, Jn, C, pn, cn, y0, y1, y2, y3) => zs5.length - k) (0, (cutS (powS aK0) aI0.epoch aI0.size), aI0, J2, (⟨0, 0, (⟨#[]⟩ : ByteArray), []⟩ : KC), none, 0, (.int .i64 0), (.int .i64 0), (.string ⟨#[]⟩), (.slice none 0 0)) ?_ ?_
  · exact ⟨⟨rfl, rfl, rfl, rfl, rfl, rfl, rfl⟩, rfl, ⟨by omega, aw_inv0, by decide⟩⟩
  rintro ⟨k, K, I, Jn, C, pn, cn, y0, y1, y2, y3⟩ f0 L0 ⟨⟨hs3, hs4, hs6, hs7, hs26, hs27, hs28⟩, hL, ⟨hk, hI, hC⟩⟩
  subst L0
  refine rebase (d := 3) hs3 ?_
  refine rebase (d := 4) hs4 ?_
  refine rebase (d := 6) hs6 ?_
  refine rebase (d := 7) hs7 ?_
  refine rebase (d := 26) hs26 ?_
  refine rebase (d := 27) hs27 ?_
  refine rebase (d := 28) hs28 ?_
  clear hs3 hs4 hs6 hs7 hs26 hs27 hs28
  have hk60 : k ≤ 60 := by omega
  have hfit := hI.fits (show k ≤ 100 by omega)
  have hnN := hI.nN
  have hsz0 := hI.sz
  have heN := hI.eN
  have hrl0 := hI.wf.next
  refine c_seq ?_
  refine c_region ?_
  refine l_val (v := .bool (decide (((k : Nat) : Int) < ((zs5.length : Nat) : Int)))) rfl rfl rfl (e_lss (a := ((k : Nat) : Int)) (b := ((zs5.length : Nat) : Int)) rfl rfl) ?_
  refine l_nil ?_
  refine f_then ?_
  refine c_seq ?_
  refine c_if (((k : Nat) : Int) < ((zs5.length : Nat) : Int)) rfl (fun hc9 => ?_) (fun hc9 => ?_)
  ·
    refine c_skip ?_
    refine f_then ?_
    refine c_seq ?_
    refine c_block ?_
    refine c_seq ?_
    refine c_rowcap 4 rfl (fun hcl hcm => ?_)
    have hcm2 : cn ≤ 9223372036854775807 := by unfold maxLen at hcm; omega
    have hC1 := hC.1
    have hC2n := hC.2.1
    have hC4 := congrArg List.length hC.2.2.2
    rw [List.length_map] at hC4
    refine c_region ?_
    obtain ⟨x10, hx11⟩ : ∃ x_, (zs5)[k]? = some x_ := ⟨_, List.getElem?_eq_getElem (by omega)⟩
    obtain ⟨ha12, cs13, hc14, hr15⟩ := ze8 _ _ hx11
    obtain ⟨v16, rfl, hv17⟩ := hr15
    obtain ⟨a18, c19, rfl, hl20, hm21, he22⟩ := (hv17).get
    refine l_val (v := .pointer (some ((ba va).add (k * 3)))) rfl rfl rfl (e_indexAddr (k := k) (len := zs5.length) (cap := vc) (a := va) rfl rfl tf109 (by omega) ha12) ?_
    refine l_val (v := .agg #[Bx (x10.kind), Bx (x10.power), .slice a18 (x10.body.length) (c19)]) rfl rfl rfl (e_load tf87 (cs := [Bx (x10.kind), Bx (x10.power), .slice a18 (x10.body.length) (c19)]) rfl (Knows.of_base (Cs.mono _ _) hc14) rfl) ?_
    refine l_mv rfl rfl rfl (m_alloc tf84) ?_
    rintro _ _ ⟨b23, rfl, rfl⟩
    refine l_mu rfl rfl (m_store 0 tf87 (b := b23) (o := 0) (T := 47) (cs := #[.int .u8 (0), .int .u8 (0), .slice none 0 0]) (cs' := #[Bx (x10.kind), Bx (x10.power), .slice a18 (x10.body.length) (c19)]) (v := .agg #[Bx (x10.kind), Bx (x10.power), .slice a18 (x10.body.length) (c19)]) rfl rfl rfl rfl rfl rfl rfl) ?_
    refine l_nil ?_
    refine f_then ?_
    refine c_seq ?_
    refine c_region ?_
    refine l_val (v := .pointer (some ⟨b23, 0, none⟩)) rfl rfl rfl (e_fieldPt (b := b23) (o := 0) rfl tf85) ?_
    refine l_val (v := Bx (x10.kind)) rfl rfl rfl (e_load1 tf13 (v := Bx (x10.kind)) rfl (k_pt 0 (cs := #[Bx (x10.kind), Bx (x10.power), .slice a18 (x10.body.length) (c19)]) (vs := [Bx (x10.kind)]) rfl rfl)) ?_
    refine l_val (v := .int .u8 (((x10.kind.toNat % 5 : Nat)) : Int)) rfl rfl rfl (e_rem (a := ((x10.kind).toNat : Int)) (b := ((5 : Nat) : Int)) rfl rfl (by decide) (nat_tmod _ _)) ?_
    refine l_nil ?_
    refine f_then ?_
    refine c_block ?_
    refine c_seq ?_
    refine c_seq ?_
    refine c_region ?_
    refine l_val (v := .bool (decide (((x10.kind.toNat % 5 : Nat) : Int) = (0 : Int)))) rfl rfl rfl (e_eql (a := ((x10.kind.toNat % 5 : Nat) : Int)) (b := (0 : Int)) rfl rfl) ?_
    refine l_val (v := .bool (decide (((x10.kind.toNat % 5 : Nat) : Int) = (0 : Int)))) rfl rfl rfl (e_assign) ?_
    refine l_nil ?_
    refine f_then ?_
    refine c_if (((x10.kind.toNat % 5 : Nat) : Int) = (0 : Int)) rfl (fun hc24 => ?_) (fun hc24 => ?_)
    ·
      refine c_skip ?_
      refine f_then ?_
      refine c_if (((x10.kind.toNat % 5 : Nat) : Int) = (0 : Int)) rfl (fun hc25 => ?_) (fun hc25 => ?_)
      ·
        refine c_seq ?_
        by_cases hc : apOk K I (x10.body.take 300)
        ·
          have hI2 := hI.ap_ok (by omega) (by simp; omega) hc
          have hC2 := isP_ap (b := (x10.body.take 300)) hC
          refine c_region ?_
          refine l_val (v := .pointer (some ⟨Jn, 0, none⟩)) rfl rfl rfl (e_move) ?_
          refine l_val (v := .agg #[Bx (x10.kind), Bx (x10.power), .slice a18 (x10.body.length) (c19)]) rfl rfl rfl (e_load tf87 (cs := [Bx (x10.kind), Bx (x10.power), .slice a18 (x10.body.length) (c19)]) rfl (k_pt 0 (cs := #[Bx (x10.kind), Bx (x10.power), .slice a18 (x10.body.length) (c19)]) (vs := [Bx (x10.kind), Bx (x10.power), .slice a18 (x10.body.length) (c19)]) rfl rfl) rfl) ?_
          refine l_call rfl rfl rfl (cl_value (fst := []) (cap := []) (vs := [.pointer (some ⟨Jn, 0, none⟩), .agg #[Bx (x10.kind), Bx (x10.power), .slice a18 (x10.body.length) (c19)]]) (all := [.pointer (some ⟨Jn, 0, none⟩), .agg #[Bx (x10.kind), Bx (x10.power), .slice a18 (x10.body.length) (c19)]]) tf113 rfl rfl rfl) ?_
          intro w hw
          replace hw := hw.perm (L' := _ :: _ :: _ :: _ :: _ :: _ :: []) (by exact ((((((perm_front 5 rfl).trans (perm_front 5 rfl)).trans (perm_front 5 rfl)).trans (perm_front 3 rfl)).trans (perm_front 5 rfl)).trans (perm_front 5 rfl)))
          obtain ⟨β1, sb, kn, hw1, back⟩ := St.frame (L := [_, _]) (M := _ :: _ :: _ :: _ :: []) hw
          refine (does_ap_ok β1 w Jn b1 K I hfit (by omega) (by omega) (by omega) (by omega) x10 a18 c19 (by omega) (by omega) (Elems.mono _ _ _ _ _ sb he22) (by omega) hc hw1).mono ?_
          rintro e w' ⟨rfl, hw'⟩
          refine ⟨_, rfl, _, back _ _ hw', ?_⟩
          clear hw hw1 hw' back kn sb
          refine l_val (v := .int .i64 (0)) rfl rfl rfl (e_assign) ?_
          refine l_nil ?_
          refine f_then ?_
          refine c_seq ?_
          refine c_seq ?_
          refine c_region ?_
          refine l_val (v := .int .i64 (0)) rfl rfl rfl (e_move) ?_
          refine l_val (v := .bool true) rfl rfl rfl (e_eql (a := (0 : Int)) (b := (0 : Int)) rfl rfl) ?_
          refine l_nil ?_
          refine f_then ?_
          refine c_yes rfl ?_
          refine c_seq ?_
          refine c_region ?_
          refine l_val (v := .agg #[Nx (C.epoch), Nx (C.next), .string (C.state), .slice pn (C.recs).length cn]) rfl rfl rfl (e_load tf101 (cs := [Nx (C.epoch), Nx (C.next), .string (C.state), .slice pn (C.recs).length cn]) rfl (k_pt 3 (cs := #[Nx (C.epoch), Nx (C.next), .string (C.state), .slice pn (C.recs).length cn]) (vs := [Nx (C.epoch), Nx (C.next), .string (C.state), .slice pn (C.recs).length cn]) rfl rfl) rfl) ?_
          refine l_val (v := .agg #[Bx (x10.kind), Bx (x10.power), .slice a18 (x10.body.length) (c19)]) rfl rfl rfl (e_load tf87 (cs := [Bx (x10.kind), Bx (x10.power), .slice a18 (x10.body.length) (c19)]) rfl (k_pt 2 (cs := #[Bx (x10.kind), Bx (x10.power), .slice a18 (x10.body.length) (c19)]) (vs := [Bx (x10.kind), Bx (x10.power), .slice a18 (x10.body.length) (c19)]) rfl rfl) rfl) ?_
          refine l_call rfl rfl rfl (cl_value (fst := []) (cap := []) (vs := [.agg #[Nx (C.epoch), Nx (C.next), .string (C.state), .slice pn (C.recs).length cn], .agg #[Bx (x10.kind), Bx (x10.power), .slice a18 (x10.body.length) (c19)]]) (all := [.agg #[Nx (C.epoch), Nx (C.next), .string (C.state), .slice pn (C.recs).length cn], .agg #[Bx (x10.kind), Bx (x10.power), .slice a18 (x10.body.length) (c19)]]) tf114 rfl rfl rfl) ?_
          intro w hw
          obtain ⟨β1, sb, kn, hw1, back⟩ := St.frame_all hw
          refine (with_app β1 w hw1 C pn cn (by omega) (by omega) (kn _ (Knows.of_res 5 rfl (Elems.mono _ _ _) fun _ h => row_stre h)) (by first | omega | (simp only []; omega)) (by first | omega | (simp only []; omega)) x10 a18 c19 (by omega) (by omega) (Elems.mono _ _ _ _ _ sb he22) (by omega)).mono ?_
          rintro e w' ⟨p26, c27, rfl, hw'⟩
          refine ⟨_, rfl, _, back _ _ hw', ?_⟩
          clear hw hw1 hw' back kn sb
          refine l_mu rfl rfl (m_store 4 tf101 (b := b3) (o := 0) (T := 27) (cs := #[Nx (C.epoch), Nx (C.next), .string (C.state), .slice pn (C.recs).length cn]) (cs' := #[Nx (C.epoch), Nx (C.next + 1), .string (C.state), .slice p26 ((C.recs ++ [str (x10.body.take 300)])).length c27]) (v := .agg #[Nx (C.epoch), Nx (C.next + 1), .string (C.state), .slice p26 ((C.recs ++ [str (x10.body.take 300)])).length c27]) rfl rfl rfl rfl rfl rfl rfl) ?_
          refine l_nil ?_
          refine f_then ?_
          refine c_region ?_
          refine l_val (v := .agg #[Nx (C.epoch), Nx (C.next + 1), .string (C.state), .slice p26 ((C.recs ++ [str (x10.body.take 300)])).length c27]) rfl rfl rfl (e_load tf101 (cs := [Nx (C.epoch), Nx (C.next + 1), .string (C.state), .slice p26 ((C.recs ++ [str (x10.body.take 300)])).length c27]) rfl (k_pt 4 (cs := #[Nx (C.epoch), Nx (C.next + 1), .string (C.state), .slice p26 ((C.recs ++ [str (x10.body.take 300)])).length c27]) (vs := [Nx (C.epoch), Nx (C.next + 1), .string (C.state), .slice p26 ((C.recs ++ [str (x10.body.take 300)])).length c27]) rfl rfl) rfl) ?_
          refine l_mu rfl rfl (m_store 5 tf101 (b := b4) (o := 0) (T := 27) (cs := #[y0, y1, y2, y3]) (cs' := #[Nx (C.epoch), Nx (C.next + 1), .string (C.state), .slice p26 ((C.recs ++ [str (x10.body.take 300)])).length c27]) (v := .agg #[Nx (C.epoch), Nx (C.next + 1), .string (C.state), .slice p26 ((C.recs ++ [str (x10.body.take 300)])).length c27]) rfl rfl rfl rfl rfl rfl rfl) ?_
          refine l_nil ?_
          refine f_then ?_
          refine c_seq ?_
          refine c_seq ?_
          refine c_rowcap 0 rfl (fun hq28 hq29 => ?_)
          have hq30 : c27 ≤ 9223372036854775807 := by unfold maxLen at hq29; omega
          refine c_region ?_
          refine l_val (v := .int .i64 (0)) rfl rfl rfl (e_move) ?_
          refine l_val (v := .bool false) rfl rfl rfl (e_neq (a := (0 : Int)) (b := (0 : Int)) rfl rfl) ?_
          refine l_val (v := .bool false) rfl rfl rfl (e_move) ?_
          refine l_skip rfl rfl rfl rfl rfl rfl ?_
          refine l_skip rfl rfl rfl rfl rfl rfl ?_
          refine l_val (v := .bool false) rfl rfl rfl (e_pick_f rfl) ?_
          refine l_val (v := .bool false) rfl rfl rfl (e_move) ?_
          refine g_val (v := .agg #[Nx (C.epoch), Nx (C.next + 1), .string (C.state), .slice p26 ((C.recs ++ [str (x10.body.take 300)])).length c27]) rfl rfl rfl rfl rfl (e_load tf101 (cs := [Nx (C.epoch), Nx (C.next + 1), .string (C.state), .slice p26 ((C.recs ++ [str (x10.body.take 300)])).length c27]) rfl (k_pt 4 (cs := #[Nx (C.epoch), Nx (C.next + 1), .string (C.state), .slice p26 ((C.recs ++ [str (x10.body.take 300)])).length c27]) (vs := [Nx (C.epoch), Nx (C.next + 1), .string (C.state), .slice p26 ((C.recs ++ [str (x10.body.take 300)])).length c27]) rfl rfl) rfl) ?_
          refine g_val (v := .pointer (some ⟨Jn, 0, none⟩)) rfl rfl rfl rfl rfl (e_move) ?_
          refine g_call rfl rfl rfl rfl rfl (cl_value (fst := []) (cap := []) (vs := [.agg #[Nx (C.epoch), Nx (C.next + 1), .string (C.state), .slice p26 ((C.recs ++ [str (x10.body.take 300)])).length c27], .pointer (some ⟨Jn, 0, none⟩)]) (all := [.agg #[Nx (C.epoch), Nx (C.next + 1), .string (C.state), .slice p26 ((C.recs ++ [str (x10.body.take 300)])).length c27], .pointer (some ⟨Jn, 0, none⟩)]) tf115 rfl rfl rfl) ?_
          intro w hw
          obtain ⟨β1, sb, kn, hw1, back⟩ := St.frame_all hw
          refine (is_ok β1 w hw1 (⟨C.epoch, C.next + 1, C.state, (C.recs ++ [str (x10.body.take 300)])⟩ : KC) p26 c27 (by omega) (by omega) (kn _ (Knows.of_res 0 rfl (Elems.mono _ _ _) fun _ h => row_stre h)) Jn b1 (apI I (x10.body.take 300)) false (kn _ (Knows.of_res 1 rfl (JF.mono _ _ _ _) fun _ h => jour_jf h)) (by have := hI2.st; omega) (by have := hI2.wf.next; have := hI2.nN; omega) (fun b hb => by have := hI2.rs b hb; omega)).mono ?_
          rintro e w' ⟨rfl, hw'⟩
          refine ⟨_, rfl, _, back _ _ hw', ?_⟩
          clear hw hw1 hw' back kn sb
          refine g_val (v := .bool (decide (¬ (isP (⟨C.epoch, C.next + 1, C.state, (C.recs ++ [str (x10.body.take 300)])⟩ : KC) (apI I (x10.body.take 300)))))) rfl rfl rfl rfl rfl (e_not_p (p := isP (⟨C.epoch, C.next + 1, C.state, (C.recs ++ [str (x10.body.take 300)])⟩ : KC) (apI I (x10.body.take 300))) rfl) ?_
          refine l_val (v := .bool (decide (¬ (isP (⟨C.epoch, C.next + 1, C.state, (C.recs ++ [str (x10.body.take 300)])⟩ : KC) (apI I (x10.body.take 300)))))) rfl rfl rfl (e_pick_f rfl) ?_
          refine l_nil ?_
          refine f_then ?_
          refine c_if (¬ (isP (⟨C.epoch, C.next + 1, C.state, (C.recs ++ [str (x10.body.take 300)])⟩ : KC) (apI I (x10.body.take 300)))) rfl (fun hc31 => ?_) (fun hc31 => ?_)
          ·
            exact absurd hc31 (Decidable.not_not.2 hC2)
          ·
            refine c_skip ?_
            refine f_then ?_
            refine c_seq ?_
            refine c_region ?_
            refine l_val (v := .int .i64 (0)) rfl rfl rfl (e_move) ?_
            refine l_val (v := .bool false) rfl rfl rfl (e_eql (a := (0 : Int)) (b := (310 : Int)) rfl rfl) ?_
            refine l_nil ?_
            refine f_then ?_
            refine c_no rfl ?_
            refine c_skip ?_
            refine f_block ?_
            refine f_block ?_
            refine f_then ?_
            refine c_region ?_
            refine l_val (v := Nx (k + 1)) rfl rfl rfl (e_add (a := ((k : Nat) : Int)) (b := (1 : Int)) rfl rfl (i64n (by omega) (by omega))) ?_
            refine l_val (v := Nx (k + 1)) rfl rfl rfl (e_move) ?_
            refine l_nil ?_
            refine f_perm (L' := [jourR Jn b1 (apI I (x10.body.take 300)) false, storeR b1 (apS K I (x10.body.take 300)), pt b3 (.cells #[Nx (C.epoch), Nx (C.next + 1), .string (C.state), .slice p26 ((C.recs ++ [str (x10.body.take 300)])).length c27] 27), pt b4 (.cells #[Nx (C.epoch), Nx (C.next + 1), .string (C.state), .slice p26 ((C.recs ++ [str (x10.body.take 300)])).length c27] 27), row (.slice p26 ((C.recs ++ [str (x10.body.take 300)])).length c27) 9 1 (((C.recs ++ [str (x10.body.take 300)])).length) ((C.recs ++ [str (x10.body.take 300)]).map (fun s : ByteArray => Value.string s)), pt b23 (.cells #[Bx (x10.kind), Bx (x10.power), .slice a18 (x10.body.length) (c19)] 47), row (.slice pn (C.recs).length cn) 9 1 ((C.recs).length) (C.recs.map (fun s : ByteArray => Value.string s))]) (((((((perm_front 6 rfl).trans (perm_front 4 rfl)).trans (perm_front 2 rfl)).trans (perm_front 6 rfl)).trans (perm_front 6 rfl)).trans (perm_front 6 rfl)).trans (perm_front 6 rfl)) ?_
            refine f_mask (L' := [jourR Jn b1 (apI I (x10.body.take 300)) false, storeR b1 (apS K I (x10.body.take 300)), pt b3 (.cells #[Nx (C.epoch), Nx (C.next + 1), .string (C.state), .slice p26 ((C.recs ++ [str (x10.body.take 300)])).length c27] 27), pt b4 (.cells #[Nx (C.epoch), Nx (C.next + 1), .string (C.state), .slice p26 ((C.recs ++ [str (x10.body.take 300)])).length c27] 27), row (.slice p26 ((C.recs ++ [str (x10.body.take 300)])).length c27) 9 1 (((C.recs ++ [str (x10.body.take 300)])).length) ((C.recs ++ [str (x10.body.take 300)]).map (fun s : ByteArray => Value.string s))]) [true, true, true, true, true, false, false] rfl ?_
            exact f_cut ⟨(k + 1, (apS K I (x10.body.take 300)), (apI I (x10.body.take 300)), Jn, (⟨C.epoch, C.next + 1, C.state, (C.recs ++ [str (x10.body.take 300)])⟩ : KC), p26, c27, (Nx (C.epoch)), (Nx (C.next + 1)), (.string (C.state)), (.slice p26 ((C.recs ++ [str (x10.body.take 300)])).length c27)), ⟨⟨rfl, rfl, rfl, rfl, rfl, rfl, rfl⟩, rfl, ⟨by omega, hI2, hC2⟩⟩, (show zs5.length - (k + 1) < zs5.length - k from by omega)⟩
        ·
          have hI2 := hI.ap_no (by simp; omega) hc
          have hN2 := isP_not_ap (b := (x10.body.take 300)) hC
          refine c_region ?_
          refine l_val (v := .pointer (some ⟨Jn, 0, none⟩)) rfl rfl rfl (e_move) ?_
          refine l_val (v := .agg #[Bx (x10.kind), Bx (x10.power), .slice a18 (x10.body.length) (c19)]) rfl rfl rfl (e_load tf87 (cs := [Bx (x10.kind), Bx (x10.power), .slice a18 (x10.body.length) (c19)]) rfl (k_pt 0 (cs := #[Bx (x10.kind), Bx (x10.power), .slice a18 (x10.body.length) (c19)]) (vs := [Bx (x10.kind), Bx (x10.power), .slice a18 (x10.body.length) (c19)]) rfl rfl) rfl) ?_
          refine l_call rfl rfl rfl (cl_value (fst := []) (cap := []) (vs := [.pointer (some ⟨Jn, 0, none⟩), .agg #[Bx (x10.kind), Bx (x10.power), .slice a18 (x10.body.length) (c19)]]) (all := [.pointer (some ⟨Jn, 0, none⟩), .agg #[Bx (x10.kind), Bx (x10.power), .slice a18 (x10.body.length) (c19)]]) tf113 rfl rfl rfl) ?_
          intro w hw
          replace hw := hw.perm (L' := _ :: _ :: _ :: _ :: _ :: _ :: []) (by exact ((((((perm_front 5 rfl).trans (perm_front 5 rfl)).trans (perm_front 5 rfl)).trans (perm_front 3 rfl)).trans (perm_front 5 rfl)).trans (perm_front 5 rfl)))
          obtain ⟨β1, sb, kn, hw1, back⟩ := St.frame (L := [_, _]) (M := _ :: _ :: _ :: _ :: []) hw
          refine (does_ap_no β1 w Jn b1 K I hfit (by omega) (by omega) (by omega) (by omega) x10 a18 c19 (by omega) (by omega) (Elems.mono _ _ _ _ _ sb he22) (by omega) hc hw1).mono ?_
          rintro e w' ⟨rfl, hw'⟩
          refine ⟨_, rfl, _, back _ _ hw', ?_⟩
          clear hw hw1 hw' back kn sb
          refine l_val (v := .int .i64 (310)) rfl rfl rfl (e_assign) ?_
          refine l_nil ?_
          refine f_then ?_
          refine c_seq ?_
          refine c_seq ?_
          refine c_region ?_
          refine l_val (v := .int .i64 (310)) rfl rfl rfl (e_move) ?_
          refine l_val (v := .bool false) rfl rfl rfl (e_eql (a := (310 : Int)) (b := (0 : Int)) rfl rfl) ?_
          refine l_nil ?_
          refine f_then ?_
          refine c_no rfl ?_
          refine c_skip ?_
          refine f_then ?_
          refine c_seq ?_
          refine c_seq ?_
          refine c_rowcap 5 rfl (fun hq32 hq33 => ?_)
          have hq34 : cn ≤ 9223372036854775807 := by unfold maxLen at hq33; omega
          refine c_region ?_
          refine l_val (v := .int .i64 (310)) rfl rfl rfl (e_move) ?_
          refine l_val (v := .bool true) rfl rfl rfl (e_neq (a := (310 : Int)) (b := (0 : Int)) rfl rfl) ?_
          refine l_val (v := .bool true) rfl rfl rfl (e_move) ?_
          refine g_val (v := .int .i64 (310)) rfl rfl rfl rfl rfl (e_move) ?_
          refine g_val (v := .bool false) rfl rfl rfl rfl rfl (e_neq (a := (310 : Int)) (b := (310 : Int)) rfl rfl) ?_
          refine l_val (v := .bool false) rfl rfl rfl (e_pick_t rfl) ?_
          refine l_val (v := .bool false) rfl rfl rfl (e_move) ?_
          refine g_val (v := .agg #[Nx (C.epoch), Nx (C.next), .string (C.state), .slice pn (C.recs).length cn]) rfl rfl rfl rfl rfl (e_load tf101 (cs := [Nx (C.epoch), Nx (C.next), .string (C.state), .slice pn (C.recs).length cn]) rfl (k_pt 3 (cs := #[Nx (C.epoch), Nx (C.next), .string (C.state), .slice pn (C.recs).length cn]) (vs := [Nx (C.epoch), Nx (C.next), .string (C.state), .slice pn (C.recs).length cn]) rfl rfl) rfl) ?_
          refine g_val (v := .pointer (some ⟨Jn, 0, none⟩)) rfl rfl rfl rfl rfl (e_move) ?_
          refine g_call rfl rfl rfl rfl rfl (cl_value (fst := []) (cap := []) (vs := [.agg #[Nx (C.epoch), Nx (C.next), .string (C.state), .slice pn (C.recs).length cn], .pointer (some ⟨Jn, 0, none⟩)]) (all := [.agg #[Nx (C.epoch), Nx (C.next), .string (C.state), .slice pn (C.recs).length cn], .pointer (some ⟨Jn, 0, none⟩)]) tf115 rfl rfl rfl) ?_
          intro w hw
          obtain ⟨β1, sb, kn, hw1, back⟩ := St.frame_all hw
          refine (is_ok β1 w hw1 C pn cn (by omega) (by omega) (kn _ (Knows.of_res 5 rfl (Elems.mono _ _ _) fun _ h => row_stre h)) Jn b1 I true (kn _ (Knows.of_res 0 rfl (JF.mono _ _ _ _) fun _ h => jour_jf h)) (by have := hI2.st; omega) (by have := hI2.wf.next; have := hI2.nN; omega) (fun b hb => by have := hI2.rs b hb; omega)).mono ?_
          rintro e w' ⟨rfl, hw'⟩
          refine ⟨_, rfl, _, back _ _ hw', ?_⟩
          clear hw hw1 hw' back kn sb
          refine g_val (v := .bool (decide (¬ (isP C I)))) rfl rfl rfl rfl rfl (e_not_p (p := isP C I) rfl) ?_
          refine l_val (v := .bool (decide (¬ (isP C I)))) rfl rfl rfl (e_pick_f rfl) ?_
          refine l_nil ?_
          refine f_then ?_
          refine c_if (¬ (isP C I)) rfl (fun hc35 => ?_) (fun hc35 => ?_)
          ·
            exact absurd hc35 (Decidable.not_not.2 hC)
          ·
            refine c_skip ?_
            refine f_then ?_
            refine c_seq ?_
            refine c_region ?_
            refine l_val (v := .int .i64 (310)) rfl rfl rfl (e_move) ?_
            refine l_val (v := .bool true) rfl rfl rfl (e_eql (a := (310 : Int)) (b := (310 : Int)) rfl rfl) ?_
            refine l_nil ?_
            refine f_then ?_
            refine c_yes rfl ?_
            refine c_seq ?_
            refine c_region ?_
            refine l_val (v := .agg #[Nx (C.epoch), Nx (C.next), .string (C.state), .slice pn (C.recs).length cn]) rfl rfl rfl (e_load tf101 (cs := [Nx (C.epoch), Nx (C.next), .string (C.state), .slice pn (C.recs).length cn]) rfl (k_pt 3 (cs := #[Nx (C.epoch), Nx (C.next), .string (C.state), .slice pn (C.recs).length cn]) (vs := [Nx (C.epoch), Nx (C.next), .string (C.state), .slice pn (C.recs).length cn]) rfl rfl) rfl) ?_
            refine l_val (v := .agg #[Bx (x10.kind), Bx (x10.power), .slice a18 (x10.body.length) (c19)]) rfl rfl rfl (e_load tf87 (cs := [Bx (x10.kind), Bx (x10.power), .slice a18 (x10.body.length) (c19)]) rfl (k_pt 2 (cs := #[Bx (x10.kind), Bx (x10.power), .slice a18 (x10.body.length) (c19)]) (vs := [Bx (x10.kind), Bx (x10.power), .slice a18 (x10.body.length) (c19)]) rfl rfl) rfl) ?_
            refine l_call rfl rfl rfl (cl_value (fst := []) (cap := []) (vs := [.agg #[Nx (C.epoch), Nx (C.next), .string (C.state), .slice pn (C.recs).length cn], .agg #[Bx (x10.kind), Bx (x10.power), .slice a18 (x10.body.length) (c19)]]) (all := [.agg #[Nx (C.epoch), Nx (C.next), .string (C.state), .slice pn (C.recs).length cn], .agg #[Bx (x10.kind), Bx (x10.power), .slice a18 (x10.body.length) (c19)]]) tf114 rfl rfl rfl) ?_
            intro w hw
            obtain ⟨β1, sb, kn, hw1, back⟩ := St.frame_all hw
            refine (with_app β1 w hw1 C pn cn (by omega) (by omega) (kn _ (Knows.of_res 5 rfl (Elems.mono _ _ _) fun _ h => row_stre h)) (by first | omega | (simp only []; omega)) (by first | omega | (simp only []; omega)) x10 a18 c19 (by omega) (by omega) (Elems.mono _ _ _ _ _ sb he22) (by omega)).mono ?_
            rintro e w' ⟨p36, c37, rfl, hw'⟩
            refine ⟨_, rfl, _, back _ _ hw', ?_⟩
            clear hw hw1 hw' back kn sb
            refine l_mu rfl rfl (m_store 5 tf101 (b := b4) (o := 0) (T := 27) (cs := #[y0, y1, y2, y3]) (cs' := #[Nx (C.epoch), Nx (C.next + 1), .string (C.state), .slice p36 ((C.recs ++ [str (x10.body.take 300)])).length c37]) (v := .agg #[Nx (C.epoch), Nx (C.next + 1), .string (C.state), .slice p36 ((C.recs ++ [str (x10.body.take 300)])).length c37]) rfl rfl rfl rfl rfl rfl rfl) ?_
            refine l_nil ?_
            refine f_then ?_
            refine c_seq ?_
            refine c_seq ?_
            refine c_region ?_
            refine l_val (v := .pointer (some ⟨Jn, 0, none⟩)) rfl rfl rfl (e_move) ?_
            refine l_call rfl rfl rfl (cl_value (fst := []) (cap := []) (vs := [.pointer (some ⟨Jn, 0, none⟩), .slice none 0 0]) (all := [.pointer (some ⟨Jn, 0, none⟩), .slice none 0 0]) tf102 rfl rfl rfl) ?_
            intro w hw
            replace hw := hw.perm (L' := _ :: _ :: _ :: _ :: _ :: _ :: _ :: []) (by exact (((((((perm_front 6 rfl).trans (perm_front 6 rfl)).trans (perm_front 6 rfl)).trans (perm_front 6 rfl)).trans (perm_front 6 rfl)).trans (perm_front 5 rfl)).trans (perm_front 6 rfl)))
            obtain ⟨β1, sb, kn, hw1, back⟩ := St.frame (L := [_]) (M := _ :: _ :: _ :: _ :: _ :: _ :: []) hw
            refine (append_down β1 w Jn b1 (apS K I (x10.body.take 300)) I [] (show ([] : Bs).length ≤ 65536 by simp) _ (Sl.nil U8R _) hw1).mono ?_
            rintro e w' ⟨rfl, hw'⟩
            refine ⟨_, rfl, _, back _ _ hw', ?_⟩
            clear hw hw1 hw' back kn sb
            refine l_val (v := .tuple #[.int .i64 (0), .int .i64 (310)]) rfl rfl rfl (e_move) ?_
            refine l_val (v := .int .i64 (0)) rfl rfl rfl (e_extract (vs := #[.int .i64 (0), .int .i64 (310)]) rfl rfl) ?_
            refine l_val (v := .int .i64 (310)) rfl rfl rfl (e_extract (vs := #[.int .i64 (0), .int .i64 (310)]) rfl rfl) ?_
            refine l_val (v := .int .i64 (0)) rfl rfl rfl (e_assign) ?_
            refine l_val (v := .int .i64 (310)) rfl rfl rfl (e_assign) ?_
            refine l_nil ?_
            refine f_then ?_
            refine c_seq ?_
            refine c_region ?_
            refine l_val (v := .int .i64 (310)) rfl rfl rfl (e_move) ?_
            refine l_val (v := .bool false) rfl rfl rfl (e_neq (a := (310 : Int)) (b := (310 : Int)) rfl rfl) ?_
            refine l_val (v := .bool false) rfl rfl rfl (e_move) ?_
            refine g_val (v := .pointer (some ⟨Jn, 0, none⟩)) rfl rfl rfl rfl rfl (e_move) ?_
            refine g_call rfl rfl rfl rfl rfl (cl_value (fst := []) (cap := []) (vs := [.pointer (some ⟨Jn, 0, none⟩), .slice none 0 0]) (all := [.pointer (some ⟨Jn, 0, none⟩), .slice none 0 0]) tf103 rfl rfl rfl) ?_
            intro w hw
            replace hw := hw.perm (L' := _ :: _ :: _ :: _ :: _ :: _ :: _ :: []) (by exact (((((((perm_front 6 rfl).trans (perm_front 6 rfl)).trans (perm_front 6 rfl)).trans (perm_front 6 rfl)).trans (perm_front 6 rfl)).trans (perm_front 6 rfl)).trans (perm_front 6 rfl)))
            obtain ⟨β1, sb, kn, hw1, back⟩ := St.frame (L := [_]) (M := _ :: _ :: _ :: _ :: _ :: _ :: []) hw
            refine (checkp_down β1 w Jn b1 (apS K I (x10.body.take 300)) I [] (show ([] : Bs).length ≤ 65536 by simp) _ (Sl.nil U8R _) hw1).mono ?_
            rintro e w' ⟨rfl, hw'⟩
            refine ⟨_, rfl, _, back _ _ hw', ?_⟩
            clear hw hw1 hw' back kn sb
            refine g_val (v := .bool false) rfl rfl rfl rfl rfl (e_neq (a := (310 : Int)) (b := (310 : Int)) rfl rfl) ?_
            refine l_val (v := .bool false) rfl rfl rfl (e_pick_f rfl) ?_
            refine l_nil ?_
            refine f_then ?_
            refine c_no rfl ?_
            refine c_skip ?_
            refine f_then ?_
            refine c_seq ?_
            refine c_seq ?_
            refine c_region ?_
            refine l_val (v := .pointer (some ⟨b1, 0, none⟩)) rfl rfl rfl (e_move) ?_
            refine l_call rfl rfl rfl (cl_value (fst := []) (cap := []) (vs := [.pointer (some ⟨b1, 0, none⟩)]) (all := [.pointer (some ⟨b1, 0, none⟩)]) tf107 rfl rfl rfl) ?_
            intro w hw
            replace hw := hw.perm (L' := _ :: _ :: _ :: _ :: _ :: _ :: _ :: []) (by exact (((((((perm_front 6 rfl).trans (perm_front 6 rfl)).trans (perm_front 6 rfl)).trans (perm_front 6 rfl)).trans (perm_front 5 rfl)).trans (perm_front 5 rfl)).trans (perm_front 6 rfl)))
            obtain ⟨β1, sb, kn, hw1, back⟩ := St.frame (L := [_]) (M := _ :: _ :: _ :: _ :: _ :: _ :: []) hw
            refine (again_ok β1 w b1 (apS K I (x10.body.take 300)) ((hI2.pow (p := -1) (by decide) (by decide)).okP (by omega)) I hI2.read hw1).mono ?_
            rintro e w' ⟨J38, rfl, hw'⟩
            refine ⟨_, rfl, _, back _ _ hw', ?_⟩
            clear hw hw1 hw' back kn sb
            refine l_val (v := .tuple #[.pointer (some ⟨J38, 0, none⟩), .bool true]) rfl rfl rfl (e_move) ?_
            refine l_val (v := .pointer (some ⟨J38, 0, none⟩)) rfl rfl rfl (e_extract (vs := #[.pointer (some ⟨J38, 0, none⟩), .bool true]) rfl rfl) ?_
            refine l_val (v := .bool true) rfl rfl rfl (e_extract (vs := #[.pointer (some ⟨J38, 0, none⟩), .bool true]) rfl rfl) ?_
            refine l_val (v := .pointer (some ⟨J38, 0, none⟩)) rfl rfl rfl (e_assign) ?_
            refine l_val (v := .bool true) rfl rfl rfl (e_assign) ?_
            refine l_nil ?_
            refine f_then ?_
            refine c_seq ?_
            refine c_rowcap 3 rfl (fun hq39 hq40 => ?_)
            have hq41 : c37 ≤ 9223372036854775807 := by unfold maxLen at hq40; omega
            refine c_region ?_
            refine l_val (v := .bool true) rfl rfl rfl (e_move) ?_
            refine l_val (v := .bool false) rfl rfl rfl (e_not (a := true) rfl) ?_
            refine l_val (v := .bool false) rfl rfl rfl (e_move) ?_
            refine g_val (v := .agg #[Nx (C.epoch), Nx (C.next), .string (C.state), .slice pn (C.recs).length cn]) rfl rfl rfl rfl rfl (e_load tf101 (cs := [Nx (C.epoch), Nx (C.next), .string (C.state), .slice pn (C.recs).length cn]) rfl (k_pt 5 (cs := #[Nx (C.epoch), Nx (C.next), .string (C.state), .slice pn (C.recs).length cn]) (vs := [Nx (C.epoch), Nx (C.next), .string (C.state), .slice pn (C.recs).length cn]) rfl rfl) rfl) ?_
            refine g_val (v := .pointer (some ⟨J38, 0, none⟩)) rfl rfl rfl rfl rfl (e_move) ?_
            refine g_call rfl rfl rfl rfl rfl (cl_value (fst := []) (cap := []) (vs := [.agg #[Nx (C.epoch), Nx (C.next), .string (C.state), .slice pn (C.recs).length cn], .pointer (some ⟨J38, 0, none⟩)]) (all := [.agg #[Nx (C.epoch), Nx (C.next), .string (C.state), .slice pn (C.recs).length cn], .pointer (some ⟨J38, 0, none⟩)]) tf115 rfl rfl rfl) ?_
            intro w hw
            obtain ⟨β1, sb, kn, hw1, back⟩ := St.frame_all hw
            refine (is_ok β1 w hw1 C pn cn (by omega) (by omega) (kn _ (Knows.of_res 7 rfl (Elems.mono _ _ _) fun _ h => row_stre h)) J38 b1 I false (kn _ (Knows.of_res 0 rfl (JF.mono _ _ _ _) fun _ h => jour_jf h)) (by have := hI2.st; omega) (by have := hI2.wf.next; have := hI2.nN; omega) (fun b hb => by have := hI2.rs b hb; omega)).mono ?_
            rintro e w' ⟨rfl, hw'⟩
            refine ⟨_, rfl, _, back _ _ hw', ?_⟩
            clear hw hw1 hw' back kn sb
            refine g_val (v := .bool (decide (¬ (isP C I)))) rfl rfl rfl rfl rfl (e_not_p (p := isP C I) rfl) ?_
            refine g_val (v := .bool (decide (¬ (isP C I)))) rfl rfl rfl rfl rfl (e_move) ?_
            refine l_split (s := 102) (p := ¬ (isP C I)) rfl (fun h => ?_) (fun h => ?_)
            exact absurd h (Decidable.not_not.2 hC)
            refine l_skip rfl rfl rfl rfl rfl rfl ?_
            refine l_skip rfl rfl rfl rfl rfl rfl ?_
            refine l_skip rfl rfl rfl rfl rfl rfl ?_
            refine l_skip rfl rfl rfl rfl rfl rfl ?_
            refine g_val (v := .bool false) rfl rfl rfl rfl rfl (e_pick_f rfl) ?_
            refine l_val (v := .bool false) rfl rfl rfl (e_pick_f rfl) ?_
            refine l_nil ?_
            refine f_then ?_
            refine c_no rfl ?_
            refine c_skip ?_
            refine f_then ?_
            refine c_seq ?_
            refine c_region ?_
            refine l_val (v := .agg #[Nx (C.epoch), Nx (C.next + 1), .string (C.state), .slice p36 ((C.recs ++ [str (x10.body.take 300)])).length c37]) rfl rfl rfl (e_load tf101 (cs := [Nx (C.epoch), Nx (C.next + 1), .string (C.state), .slice p36 ((C.recs ++ [str (x10.body.take 300)])).length c37]) rfl (k_pt 6 (cs := #[Nx (C.epoch), Nx (C.next + 1), .string (C.state), .slice p36 ((C.recs ++ [str (x10.body.take 300)])).length c37]) (vs := [Nx (C.epoch), Nx (C.next + 1), .string (C.state), .slice p36 ((C.recs ++ [str (x10.body.take 300)])).length c37]) rfl rfl) rfl) ?_
            refine l_val (v := .pointer (some ⟨J38, 0, none⟩)) rfl rfl rfl (e_move) ?_
            refine l_call rfl rfl rfl (cl_value (fst := []) (cap := []) (vs := [.agg #[Nx (C.epoch), Nx (C.next + 1), .string (C.state), .slice p36 ((C.recs ++ [str (x10.body.take 300)])).length c37], .pointer (some ⟨J38, 0, none⟩)]) (all := [.agg #[Nx (C.epoch), Nx (C.next + 1), .string (C.state), .slice p36 ((C.recs ++ [str (x10.body.take 300)])).length c37], .pointer (some ⟨J38, 0, none⟩)]) tf115 rfl rfl rfl) ?_
            intro w hw
            obtain ⟨β1, sb, kn, hw1, back⟩ := St.frame_all hw
            refine (is_ok β1 w hw1 (⟨C.epoch, C.next + 1, C.state, (C.recs ++ [str (x10.body.take 300)])⟩ : KC) p36 c37 (by omega) (by omega) (kn _ (Knows.of_res 3 rfl (Elems.mono _ _ _) fun _ h => row_stre h)) J38 b1 I false (kn _ (Knows.of_res 0 rfl (JF.mono _ _ _ _) fun _ h => jour_jf h)) (by have := hI2.st; omega) (by have := hI2.wf.next; have := hI2.nN; omega) (fun b hb => by have := hI2.rs b hb; omega)).mono ?_
            rintro e w' ⟨rfl, hw'⟩
            refine ⟨_, rfl, _, back _ _ hw', ?_⟩
            clear hw hw1 hw' back kn sb
            refine l_nil ?_
            refine f_then ?_
            refine c_if (isP (⟨C.epoch, C.next + 1, C.state, (C.recs ++ [str (x10.body.take 300)])⟩ : KC) I) rfl (fun hc42 => ?_) (fun hc42 => ?_)
            ·
              exact absurd hc42 hN2
            ·
              refine c_skip ?_
              refine f_block ?_
              refine f_block ?_
              refine f_then ?_
              refine c_region ?_
              refine l_val (v := Nx (k + 1)) rfl rfl rfl (e_add (a := ((k : Nat) : Int)) (b := (1 : Int)) rfl rfl (i64n (by omega) (by omega))) ?_
              refine l_val (v := Nx (k + 1)) rfl rfl rfl (e_move) ?_
              refine l_nil ?_
              refine f_mask (L' := [jourR J38 b1 I false, storeR b1 (cutS (powS (apS K I (x10.body.take 300))) I.epoch I.size), pt b3 (.cells #[Nx (C.epoch), Nx (C.next), .string (C.state), .slice pn (C.recs).length cn] 27), pt b4 (.cells #[Nx (C.epoch), Nx (C.next + 1), .string (C.state), .slice p36 ((C.recs ++ [str (x10.body.take 300)])).length c37] 27), row (.slice pn (C.recs).length cn) 9 1 ((C.recs).length) (C.recs.map (fun s : ByteArray => Value.string s))]) [true, true, false, false, false, true, true, true] rfl ?_
              exact f_cut ⟨(k + 1, (cutS (powS (apS K I (x10.body.take 300))) I.epoch I.size), I, J38, C, pn, cn, (Nx (C.epoch)), (Nx (C.next + 1)), (.string (C.state)), (.slice p36 ((C.recs ++ [str (x10.body.take 300)])).length c37)), ⟨⟨rfl, rfl, rfl, rfl, rfl, rfl, rfl⟩, rfl, ⟨by omega, ((hI2.pow (p := -1) (by decide) (by decide)).cut (show (-1 : Int) ≠ 0 by decide)).mono (by omega), hC⟩⟩, (show zs5.length - (k + 1) < zs5.length - k from by omega)⟩
      ·
        refine c_seq ?_
        refine c_region ?_
        refine l_val (v := .bool (decide (((x10.kind.toNat % 5 : Nat) : Int) = (3 : Int)))) rfl rfl rfl (e_eql (a := ((x10.kind.toNat % 5 : Nat) : Int)) (b := (3 : Int)) rfl rfl) ?_
        refine l_val (v := .bool (decide (((x10.kind.toNat % 5 : Nat) : Int) = (3 : Int)))) rfl rfl rfl (e_assign) ?_
        refine l_nil ?_
        refine f_then ?_
        refine c_if (((x10.kind.toNat % 5 : Nat) : Int) = (3 : Int)) rfl (fun hc43 => ?_) (fun hc43 => ?_)
        ·
          refine c_perm (L' := [storeR b1 K, pt b23 (.cells #[Bx (x10.kind), Bx (x10.power), .slice a18 (x10.body.length) (c19)] 47), jourR Jn b1 I false, pt b3 (.cells #[Nx (C.epoch), Nx (C.next), .string (C.state), .slice pn (C.recs).length cn] 27), pt b4 (.cells #[y0, y1, y2, y3] 27), row (.slice pn (C.recs).length cn) 9 1 ((C.recs).length) (C.recs.map (fun s : ByteArray => Value.string s))]) (by exact ((((((perm_front 5 rfl).trans (perm_front 5 rfl)).trans (perm_front 5 rfl)).trans (perm_front 4 rfl)).trans (perm_front 4 rfl)).trans (perm_front 5 rfl))) ?_
          refine c_openStore rfl (fun pH44 pA45 pB46 cH47 cA48 cB49 => ?_)
          refine c_rowcap 1 rfl (fun hcl50 hcm51 => ?_)
          refine c_rowcap 2 rfl (fun hcl52 hcm53 => ?_)
          refine c_rowcap 3 rfl (fun hcl54 hcm55 => ?_)
          refine c_region ?_
          refine l_val (v := .pointer (some ⟨b1, 0, none⟩)) rfl rfl rfl (e_move) ?_
          refine l_val (v := .agg #[Bx (x10.kind), Bx (x10.power), .slice a18 (x10.body.length) (c19)]) rfl rfl rfl (e_load tf87 (cs := [Bx (x10.kind), Bx (x10.power), .slice a18 (x10.body.length) (c19)]) rfl (k_pt 4 (cs := #[Bx (x10.kind), Bx (x10.power), .slice a18 (x10.body.length) (c19)]) (vs := [Bx (x10.kind), Bx (x10.power), .slice a18 (x10.body.length) (c19)]) rfl rfl) rfl) ?_
          refine l_call rfl rfl rfl (cl_value (fst := []) (cap := []) (vs := [.agg #[Bx (x10.kind), Bx (x10.power), .slice a18 (x10.body.length) (c19)]]) (all := [.agg #[Bx (x10.kind), Bx (x10.power), .slice a18 (x10.body.length) (c19)]]) tf110 rfl rfl rfl) ?_
          intro w hw
          obtain ⟨β1, sb, kn, hw1, back⟩ := St.frame_all hw
          refine (power_ok β1 w hw1 x10 a18 c19 (by omega) (by omega) (Elems.mono _ _ _ _ _ sb he22)).mono ?_
          rintro e w' ⟨rfl, hw'⟩
          refine ⟨_, rfl, _, back _ _ hw', ?_⟩
          clear hw hw1 hw' back kn sb
          refine l_val (v := .pointer (some ⟨b1, 0, none⟩)) rfl rfl rfl (e_nil (a := ⟨b1, 0, none⟩) rfl) ?_
          refine l_val (v := .pointer (some ⟨b1, 3, none⟩)) rfl rfl rfl (e_fieldPt (b := b1) (o := 0) rfl tf24) ?_
          refine l_mu rfl rfl (m_store 0 tf25 (b := b1) (o := 3) (T := 32) (cs := #[.slice pH44 (K.head).length cH47, .slice pA45 (K.a).length cA48, .slice pB46 (K.b).length cB49, Ix (K.power)]) (cs' := #[.slice pH44 (K.head).length cH47, .slice pA45 (K.a).length cA48, .slice pB46 (K.b).length cB49, Ix (powerF x10)]) (v := Ix (powerF x10)) rfl rfl rfl rfl rfl rfl rfl) ?_
          refine l_nil ?_
          refine f_block ?_
          refine f_block ?_
          refine f_then ?_
          refine c_perm (L' := [pt b1 (.cells #[.slice pH44 (K.head).length cH47, .slice pA45 (K.a).length cA48, .slice pB46 (K.b).length cB49, Ix (powerF x10)] 32), row (.slice pH44 (K.head).length cH47) 5 1 ((K.head).length) (BX K.head), row (.slice pA45 (K.a).length cA48) 5 1 ((K.a).length) (BX K.a), row (.slice pB46 (K.b).length cB49) 5 1 ((K.b).length) (BX K.b), pt b23 (.cells #[Bx (x10.kind), Bx (x10.power), .slice a18 (x10.body.length) (c19)] 47), jourR Jn b1 I false, pt b3 (.cells #[Nx (C.epoch), Nx (C.next), .string (C.state), .slice pn (C.recs).length cn] 27), pt b4 (.cells #[y0, y1, y2, y3] 27), row (.slice pn (C.recs).length cn) 9 1 ((C.recs).length) (C.recs.map (fun s : ByteArray => Value.string s))]) (by exact (((((((((perm_front 8 rfl).trans (perm_front 8 rfl)).trans (perm_front 8 rfl)).trans (perm_front 8 rfl)).trans (perm_front 8 rfl)).trans (perm_front 8 rfl)).trans (perm_front 8 rfl)).trans (perm_front 8 rfl)).trans (perm_front 8 rfl))) ?_
          refine c_closeStore (S := b1) (k := ({ K with power := powerF x10 } : KS)) (pH := pH44) (pA := pA45) (pB := pB46) (cH := cH47) (cA := cA48) (cB := cB49) (M := (pt b23 (.cells #[Bx (x10.kind), Bx (x10.power), .slice a18 (x10.body.length) (c19)] 47) :: jourR Jn b1 I false :: pt b3 (.cells #[Nx (C.epoch), Nx (C.next), .string (C.state), .slice pn (C.recs).length cn] 27) :: pt b4 (.cells #[y0, y1, y2, y3] 27) :: row (.slice pn (C.recs).length cn) 9 1 ((C.recs).length) (C.recs.map (fun s : ByteArray => Value.string s)) :: [])) rfl ?_
          refine c_region ?_
          refine l_val (v := Nx (k + 1)) rfl rfl rfl (e_add (a := ((k : Nat) : Int)) (b := (1 : Int)) rfl rfl (i64n (by omega) (by omega))) ?_
          refine l_val (v := Nx (k + 1)) rfl rfl rfl (e_move) ?_
          refine l_nil ?_
          refine f_perm (L' := [jourR Jn b1 I false, storeR b1 ({ K with power := powerF x10 } : KS), pt b3 (.cells #[Nx (C.epoch), Nx (C.next), .string (C.state), .slice pn (C.recs).length cn] 27), pt b4 (.cells #[y0, y1, y2, y3] 27), row (.slice pn (C.recs).length cn) 9 1 ((C.recs).length) (C.recs.map (fun s : ByteArray => Value.string s)), pt b23 (.cells #[Bx (x10.kind), Bx (x10.power), .slice a18 (x10.body.length) (c19)] 47)]) ((((((perm_front 1 rfl).trans (perm_front 5 rfl)).trans (perm_front 5 rfl)).trans (perm_front 5 rfl)).trans (perm_front 4 rfl)).trans (perm_front 5 rfl)) ?_
          refine f_mask (L' := [jourR Jn b1 I false, storeR b1 ({ K with power := powerF x10 } : KS), pt b3 (.cells #[Nx (C.epoch), Nx (C.next), .string (C.state), .slice pn (C.recs).length cn] 27), pt b4 (.cells #[y0, y1, y2, y3] 27), row (.slice pn (C.recs).length cn) 9 1 ((C.recs).length) (C.recs.map (fun s : ByteArray => Value.string s))]) [true, true, true, true, true, false] rfl ?_
          exact f_cut ⟨(k + 1, ({ K with power := powerF x10 } : KS), I, Jn, C, pn, cn, y0, y1, y2, y3), ⟨⟨rfl, rfl, rfl, rfl, rfl, rfl, rfl⟩, rfl, ⟨by omega, (hI.pow (powerF_ge _) (powerF_le _)).mono (by omega), hC⟩⟩, (show zs5.length - (k + 1) < zs5.length - k from by omega)⟩
        ·
          refine c_seq ?_
          refine c_region ?_
          refine l_val (v := .pointer (some ⟨b1, 0, none⟩)) rfl rfl rfl (e_move) ?_
          refine l_call rfl rfl rfl (cl_value (fst := []) (cap := []) (vs := [.pointer (some ⟨b1, 0, none⟩)]) (all := [.pointer (some ⟨b1, 0, none⟩)]) tf107 rfl rfl rfl) ?_
          intro w hw
          replace hw := hw.perm (L' := _ :: _ :: _ :: _ :: _ :: _ :: []) (by exact ((((((perm_front 5 rfl).trans (perm_front 5 rfl)).trans (perm_front 5 rfl)).trans (perm_front 4 rfl)).trans (perm_front 4 rfl)).trans (perm_front 5 rfl)))
          obtain ⟨β1, sb, kn, hw1, back⟩ := St.frame (L := [_]) (M := _ :: _ :: _ :: _ :: _ :: []) hw
          refine (again_ok β1 w b1 K ((hI.pow (p := -1) (by decide) (by decide)).okP (by omega)) I hI.read hw1).mono ?_
          rintro e w' ⟨J56, rfl, hw'⟩
          refine ⟨_, rfl, _, back _ _ hw', ?_⟩
          clear hw hw1 hw' back kn sb
          refine l_val (v := .tuple #[.pointer (some ⟨J56, 0, none⟩), .bool true]) rfl rfl rfl (e_move) ?_
          refine l_val (v := .pointer (some ⟨J56, 0, none⟩)) rfl rfl rfl (e_extract (vs := #[.pointer (some ⟨J56, 0, none⟩), .bool true]) rfl rfl) ?_
          refine l_val (v := .bool true) rfl rfl rfl (e_extract (vs := #[.pointer (some ⟨J56, 0, none⟩), .bool true]) rfl rfl) ?_
          refine l_val (v := .pointer (some ⟨J56, 0, none⟩)) rfl rfl rfl (e_assign) ?_
          refine l_val (v := .bool true) rfl rfl rfl (e_assign) ?_
          refine l_nil ?_
          refine f_then ?_
          refine c_seq ?_
          refine c_region ?_
          refine l_val (v := .bool true) rfl rfl rfl (e_move) ?_
          refine l_val (v := .bool false) rfl rfl rfl (e_not (a := true) rfl) ?_
          refine l_val (v := .bool false) rfl rfl rfl (e_move) ?_
          refine g_val (v := .agg #[Nx (C.epoch), Nx (C.next), .string (C.state), .slice pn (C.recs).length cn]) rfl rfl rfl rfl rfl (e_load tf101 (cs := [Nx (C.epoch), Nx (C.next), .string (C.state), .slice pn (C.recs).length cn]) rfl (k_pt 4 (cs := #[Nx (C.epoch), Nx (C.next), .string (C.state), .slice pn (C.recs).length cn]) (vs := [Nx (C.epoch), Nx (C.next), .string (C.state), .slice pn (C.recs).length cn]) rfl rfl) rfl) ?_
          refine g_val (v := .pointer (some ⟨J56, 0, none⟩)) rfl rfl rfl rfl rfl (e_move) ?_
          refine g_call rfl rfl rfl rfl rfl (cl_value (fst := []) (cap := []) (vs := [.agg #[Nx (C.epoch), Nx (C.next), .string (C.state), .slice pn (C.recs).length cn], .pointer (some ⟨J56, 0, none⟩)]) (all := [.agg #[Nx (C.epoch), Nx (C.next), .string (C.state), .slice pn (C.recs).length cn], .pointer (some ⟨J56, 0, none⟩)]) tf115 rfl rfl rfl) ?_
          intro w hw
          obtain ⟨β1, sb, kn, hw1, back⟩ := St.frame_all hw
          refine (is_ok β1 w hw1 C pn cn (by omega) (by omega) (kn _ (Knows.of_res 6 rfl (Elems.mono _ _ _) fun _ h => row_stre h)) J56 b1 I false (kn _ (Knows.of_res 0 rfl (JF.mono _ _ _ _) fun _ h => jour_jf h)) (by have := hI.st; omega) (by have := hI.wf.next; have := hI.nN; omega) (fun b hb => by have := hI.rs b hb; omega)).mono ?_
          rintro e w' ⟨rfl, hw'⟩
          refine ⟨_, rfl, _, back _ _ hw', ?_⟩
          clear hw hw1 hw' back kn sb
          refine g_val (v := .bool (decide (¬ (isP C I)))) rfl rfl rfl rfl rfl (e_not_p (p := isP C I) rfl) ?_
          refine l_val (v := .bool (decide (¬ (isP C I)))) rfl rfl rfl (e_pick_f rfl) ?_
          refine l_nil ?_
          refine f_then ?_
          refine c_if (¬ (isP C I)) rfl (fun hc57 => ?_) (fun hc57 => ?_)
          ·
            exact absurd hc57 (Decidable.not_not.2 hC)
          ·
            refine c_skip ?_
            refine f_block ?_
            refine f_block ?_
            refine f_then ?_
            refine c_region ?_
            refine l_val (v := Nx (k + 1)) rfl rfl rfl (e_add (a := ((k : Nat) : Int)) (b := (1 : Int)) rfl rfl (i64n (by omega) (by omega))) ?_
            refine l_val (v := Nx (k + 1)) rfl rfl rfl (e_move) ?_
            refine l_nil ?_
            refine f_mask (L' := [jourR J56 b1 I false, storeR b1 (cutS (powS K) I.epoch I.size), pt b3 (.cells #[Nx (C.epoch), Nx (C.next), .string (C.state), .slice pn (C.recs).length cn] 27), pt b4 (.cells #[y0, y1, y2, y3] 27), row (.slice pn (C.recs).length cn) 9 1 ((C.recs).length) (C.recs.map (fun s : ByteArray => Value.string s))]) [true, true, false, false, true, true, true] rfl ?_
            exact f_cut ⟨(k + 1, (cutS (powS K) I.epoch I.size), I, J56, C, pn, cn, y0, y1, y2, y3), ⟨⟨rfl, rfl, rfl, rfl, rfl, rfl, rfl⟩, rfl, ⟨by omega, ((hI.pow (p := -1) (by decide) (by decide)).cut (show (-1 : Int) ≠ 0 by decide)).mono (by omega), hC⟩⟩, (show zs5.length - (k + 1) < zs5.length - k from by omega)⟩
    ·
      refine c_seq ?_
      refine c_region ?_
      refine l_val (v := .bool (decide (((x10.kind.toNat % 5 : Nat) : Int) = (1 : Int)))) rfl rfl rfl (e_eql (a := ((x10.kind.toNat % 5 : Nat) : Int)) (b := (1 : Int)) rfl rfl) ?_
      refine l_val (v := .bool (decide (((x10.kind.toNat % 5 : Nat) : Int) = (1 : Int)))) rfl rfl rfl (e_assign) ?_
      refine l_nil ?_
      refine f_then ?_
      refine c_if (((x10.kind.toNat % 5 : Nat) : Int) = (1 : Int)) rfl (fun hc58 => ?_) (fun hc58 => ?_)
      ·
        refine c_skip ?_
        refine f_then ?_
        refine c_if (((x10.kind.toNat % 5 : Nat) : Int) = (1 : Int)) rfl (fun hc59 => ?_) (fun hc59 => ?_)
        ·
          refine c_seq ?_
          by_cases hc : apOk K I (x10.body.take 300)
          ·
            have hI2 := hI.ap_ok (by omega) (by simp; omega) hc
            have hC2 := isP_ap (b := (x10.body.take 300)) hC
            refine c_region ?_
            refine l_val (v := .pointer (some ⟨Jn, 0, none⟩)) rfl rfl rfl (e_move) ?_
            refine l_val (v := .agg #[Bx (x10.kind), Bx (x10.power), .slice a18 (x10.body.length) (c19)]) rfl rfl rfl (e_load tf87 (cs := [Bx (x10.kind), Bx (x10.power), .slice a18 (x10.body.length) (c19)]) rfl (k_pt 0 (cs := #[Bx (x10.kind), Bx (x10.power), .slice a18 (x10.body.length) (c19)]) (vs := [Bx (x10.kind), Bx (x10.power), .slice a18 (x10.body.length) (c19)]) rfl rfl) rfl) ?_
            refine l_call rfl rfl rfl (cl_value (fst := []) (cap := []) (vs := [.pointer (some ⟨Jn, 0, none⟩), .agg #[Bx (x10.kind), Bx (x10.power), .slice a18 (x10.body.length) (c19)]]) (all := [.pointer (some ⟨Jn, 0, none⟩), .agg #[Bx (x10.kind), Bx (x10.power), .slice a18 (x10.body.length) (c19)]]) tf113 rfl rfl rfl) ?_
            intro w hw
            replace hw := hw.perm (L' := _ :: _ :: _ :: _ :: _ :: _ :: []) (by exact ((((((perm_front 5 rfl).trans (perm_front 5 rfl)).trans (perm_front 5 rfl)).trans (perm_front 3 rfl)).trans (perm_front 5 rfl)).trans (perm_front 5 rfl)))
            obtain ⟨β1, sb, kn, hw1, back⟩ := St.frame (L := [_, _]) (M := _ :: _ :: _ :: _ :: []) hw
            refine (does_ap_ok β1 w Jn b1 K I hfit (by omega) (by omega) (by omega) (by omega) x10 a18 c19 (by omega) (by omega) (Elems.mono _ _ _ _ _ sb he22) (by omega) hc hw1).mono ?_
            rintro e w' ⟨rfl, hw'⟩
            refine ⟨_, rfl, _, back _ _ hw', ?_⟩
            clear hw hw1 hw' back kn sb
            refine l_val (v := .int .i64 (0)) rfl rfl rfl (e_assign) ?_
            refine l_nil ?_
            refine f_then ?_
            refine c_seq ?_
            refine c_seq ?_
            refine c_region ?_
            refine l_val (v := .int .i64 (0)) rfl rfl rfl (e_move) ?_
            refine l_val (v := .bool true) rfl rfl rfl (e_eql (a := (0 : Int)) (b := (0 : Int)) rfl rfl) ?_
            refine l_nil ?_
            refine f_then ?_
            refine c_yes rfl ?_
            refine c_seq ?_
            refine c_region ?_
            refine l_val (v := .agg #[Nx (C.epoch), Nx (C.next), .string (C.state), .slice pn (C.recs).length cn]) rfl rfl rfl (e_load tf101 (cs := [Nx (C.epoch), Nx (C.next), .string (C.state), .slice pn (C.recs).length cn]) rfl (k_pt 3 (cs := #[Nx (C.epoch), Nx (C.next), .string (C.state), .slice pn (C.recs).length cn]) (vs := [Nx (C.epoch), Nx (C.next), .string (C.state), .slice pn (C.recs).length cn]) rfl rfl) rfl) ?_
            refine l_val (v := .agg #[Bx (x10.kind), Bx (x10.power), .slice a18 (x10.body.length) (c19)]) rfl rfl rfl (e_load tf87 (cs := [Bx (x10.kind), Bx (x10.power), .slice a18 (x10.body.length) (c19)]) rfl (k_pt 2 (cs := #[Bx (x10.kind), Bx (x10.power), .slice a18 (x10.body.length) (c19)]) (vs := [Bx (x10.kind), Bx (x10.power), .slice a18 (x10.body.length) (c19)]) rfl rfl) rfl) ?_
            refine l_call rfl rfl rfl (cl_value (fst := []) (cap := []) (vs := [.agg #[Nx (C.epoch), Nx (C.next), .string (C.state), .slice pn (C.recs).length cn], .agg #[Bx (x10.kind), Bx (x10.power), .slice a18 (x10.body.length) (c19)]]) (all := [.agg #[Nx (C.epoch), Nx (C.next), .string (C.state), .slice pn (C.recs).length cn], .agg #[Bx (x10.kind), Bx (x10.power), .slice a18 (x10.body.length) (c19)]]) tf114 rfl rfl rfl) ?_
            intro w hw
            obtain ⟨β1, sb, kn, hw1, back⟩ := St.frame_all hw
            refine (with_app β1 w hw1 C pn cn (by omega) (by omega) (kn _ (Knows.of_res 5 rfl (Elems.mono _ _ _) fun _ h => row_stre h)) (by first | omega | (simp only []; omega)) (by first | omega | (simp only []; omega)) x10 a18 c19 (by omega) (by omega) (Elems.mono _ _ _ _ _ sb he22) (by omega)).mono ?_
            rintro e w' ⟨p60, c61, rfl, hw'⟩
            refine ⟨_, rfl, _, back _ _ hw', ?_⟩
            clear hw hw1 hw' back kn sb
            refine l_mu rfl rfl (m_store 4 tf101 (b := b3) (o := 0) (T := 27) (cs := #[Nx (C.epoch), Nx (C.next), .string (C.state), .slice pn (C.recs).length cn]) (cs' := #[Nx (C.epoch), Nx (C.next + 1), .string (C.state), .slice p60 ((C.recs ++ [str (x10.body.take 300)])).length c61]) (v := .agg #[Nx (C.epoch), Nx (C.next + 1), .string (C.state), .slice p60 ((C.recs ++ [str (x10.body.take 300)])).length c61]) rfl rfl rfl rfl rfl rfl rfl) ?_
            refine l_nil ?_
            refine f_then ?_
            refine c_region ?_
            refine l_val (v := .agg #[Nx (C.epoch), Nx (C.next + 1), .string (C.state), .slice p60 ((C.recs ++ [str (x10.body.take 300)])).length c61]) rfl rfl rfl (e_load tf101 (cs := [Nx (C.epoch), Nx (C.next + 1), .string (C.state), .slice p60 ((C.recs ++ [str (x10.body.take 300)])).length c61]) rfl (k_pt 4 (cs := #[Nx (C.epoch), Nx (C.next + 1), .string (C.state), .slice p60 ((C.recs ++ [str (x10.body.take 300)])).length c61]) (vs := [Nx (C.epoch), Nx (C.next + 1), .string (C.state), .slice p60 ((C.recs ++ [str (x10.body.take 300)])).length c61]) rfl rfl) rfl) ?_
            refine l_mu rfl rfl (m_store 5 tf101 (b := b4) (o := 0) (T := 27) (cs := #[y0, y1, y2, y3]) (cs' := #[Nx (C.epoch), Nx (C.next + 1), .string (C.state), .slice p60 ((C.recs ++ [str (x10.body.take 300)])).length c61]) (v := .agg #[Nx (C.epoch), Nx (C.next + 1), .string (C.state), .slice p60 ((C.recs ++ [str (x10.body.take 300)])).length c61]) rfl rfl rfl rfl rfl rfl rfl) ?_
            refine l_nil ?_
            refine f_then ?_
            refine c_seq ?_
            refine c_seq ?_
            refine c_rowcap 0 rfl (fun hq62 hq63 => ?_)
            have hq64 : c61 ≤ 9223372036854775807 := by unfold maxLen at hq63; omega
            refine c_region ?_
            refine l_val (v := .int .i64 (0)) rfl rfl rfl (e_move) ?_
            refine l_val (v := .bool false) rfl rfl rfl (e_neq (a := (0 : Int)) (b := (0 : Int)) rfl rfl) ?_
            refine l_val (v := .bool false) rfl rfl rfl (e_move) ?_
            refine l_skip rfl rfl rfl rfl rfl rfl ?_
            refine l_skip rfl rfl rfl rfl rfl rfl ?_
            refine l_val (v := .bool false) rfl rfl rfl (e_pick_f rfl) ?_
            refine l_val (v := .bool false) rfl rfl rfl (e_move) ?_
            refine g_val (v := .agg #[Nx (C.epoch), Nx (C.next + 1), .string (C.state), .slice p60 ((C.recs ++ [str (x10.body.take 300)])).length c61]) rfl rfl rfl rfl rfl (e_load tf101 (cs := [Nx (C.epoch), Nx (C.next + 1), .string (C.state), .slice p60 ((C.recs ++ [str (x10.body.take 300)])).length c61]) rfl (k_pt 4 (cs := #[Nx (C.epoch), Nx (C.next + 1), .string (C.state), .slice p60 ((C.recs ++ [str (x10.body.take 300)])).length c61]) (vs := [Nx (C.epoch), Nx (C.next + 1), .string (C.state), .slice p60 ((C.recs ++ [str (x10.body.take 300)])).length c61]) rfl rfl) rfl) ?_
            refine g_val (v := .pointer (some ⟨Jn, 0, none⟩)) rfl rfl rfl rfl rfl (e_move) ?_
            refine g_call rfl rfl rfl rfl rfl (cl_value (fst := []) (cap := []) (vs := [.agg #[Nx (C.epoch), Nx (C.next + 1), .string (C.state), .slice p60 ((C.recs ++ [str (x10.body.take 300)])).length c61], .pointer (some ⟨Jn, 0, none⟩)]) (all := [.agg #[Nx (C.epoch), Nx (C.next + 1), .string (C.state), .slice p60 ((C.recs ++ [str (x10.body.take 300)])).length c61], .pointer (some ⟨Jn, 0, none⟩)]) tf115 rfl rfl rfl) ?_
            intro w hw
            obtain ⟨β1, sb, kn, hw1, back⟩ := St.frame_all hw
            refine (is_ok β1 w hw1 (⟨C.epoch, C.next + 1, C.state, (C.recs ++ [str (x10.body.take 300)])⟩ : KC) p60 c61 (by omega) (by omega) (kn _ (Knows.of_res 0 rfl (Elems.mono _ _ _) fun _ h => row_stre h)) Jn b1 (apI I (x10.body.take 300)) false (kn _ (Knows.of_res 1 rfl (JF.mono _ _ _ _) fun _ h => jour_jf h)) (by have := hI2.st; omega) (by have := hI2.wf.next; have := hI2.nN; omega) (fun b hb => by have := hI2.rs b hb; omega)).mono ?_
            rintro e w' ⟨rfl, hw'⟩
            refine ⟨_, rfl, _, back _ _ hw', ?_⟩
            clear hw hw1 hw' back kn sb
            refine g_val (v := .bool (decide (¬ (isP (⟨C.epoch, C.next + 1, C.state, (C.recs ++ [str (x10.body.take 300)])⟩ : KC) (apI I (x10.body.take 300)))))) rfl rfl rfl rfl rfl (e_not_p (p := isP (⟨C.epoch, C.next + 1, C.state, (C.recs ++ [str (x10.body.take 300)])⟩ : KC) (apI I (x10.body.take 300))) rfl) ?_
            refine l_val (v := .bool (decide (¬ (isP (⟨C.epoch, C.next + 1, C.state, (C.recs ++ [str (x10.body.take 300)])⟩ : KC) (apI I (x10.body.take 300)))))) rfl rfl rfl (e_pick_f rfl) ?_
            refine l_nil ?_
            refine f_then ?_
            refine c_if (¬ (isP (⟨C.epoch, C.next + 1, C.state, (C.recs ++ [str (x10.body.take 300)])⟩ : KC) (apI I (x10.body.take 300)))) rfl (fun hc65 => ?_) (fun hc65 => ?_)
            ·
              exact absurd hc65 (Decidable.not_not.2 hC2)
            ·
              refine c_skip ?_
              refine f_then ?_
              refine c_seq ?_
              refine c_region ?_
              refine l_val (v := .int .i64 (0)) rfl rfl rfl (e_move) ?_
              refine l_val (v := .bool false) rfl rfl rfl (e_eql (a := (0 : Int)) (b := (310 : Int)) rfl rfl) ?_
              refine l_nil ?_
              refine f_then ?_
              refine c_no rfl ?_
              refine c_skip ?_
              refine f_block ?_
              refine f_block ?_
              refine f_then ?_
              refine c_region ?_
              refine l_val (v := Nx (k + 1)) rfl rfl rfl (e_add (a := ((k : Nat) : Int)) (b := (1 : Int)) rfl rfl (i64n (by omega) (by omega))) ?_
              refine l_val (v := Nx (k + 1)) rfl rfl rfl (e_move) ?_
              refine l_nil ?_
              refine f_perm (L' := [jourR Jn b1 (apI I (x10.body.take 300)) false, storeR b1 (apS K I (x10.body.take 300)), pt b3 (.cells #[Nx (C.epoch), Nx (C.next + 1), .string (C.state), .slice p60 ((C.recs ++ [str (x10.body.take 300)])).length c61] 27), pt b4 (.cells #[Nx (C.epoch), Nx (C.next + 1), .string (C.state), .slice p60 ((C.recs ++ [str (x10.body.take 300)])).length c61] 27), row (.slice p60 ((C.recs ++ [str (x10.body.take 300)])).length c61) 9 1 (((C.recs ++ [str (x10.body.take 300)])).length) ((C.recs ++ [str (x10.body.take 300)]).map (fun s : ByteArray => Value.string s)), pt b23 (.cells #[Bx (x10.kind), Bx (x10.power), .slice a18 (x10.body.length) (c19)] 47), row (.slice pn (C.recs).length cn) 9 1 ((C.recs).length) (C.recs.map (fun s : ByteArray => Value.string s))]) (((((((perm_front 6 rfl).trans (perm_front 4 rfl)).trans (perm_front 2 rfl)).trans (perm_front 6 rfl)).trans (perm_front 6 rfl)).trans (perm_front 6 rfl)).trans (perm_front 6 rfl)) ?_
              refine f_mask (L' := [jourR Jn b1 (apI I (x10.body.take 300)) false, storeR b1 (apS K I (x10.body.take 300)), pt b3 (.cells #[Nx (C.epoch), Nx (C.next + 1), .string (C.state), .slice p60 ((C.recs ++ [str (x10.body.take 300)])).length c61] 27), pt b4 (.cells #[Nx (C.epoch), Nx (C.next + 1), .string (C.state), .slice p60 ((C.recs ++ [str (x10.body.take 300)])).length c61] 27), row (.slice p60 ((C.recs ++ [str (x10.body.take 300)])).length c61) 9 1 (((C.recs ++ [str (x10.body.take 300)])).length) ((C.recs ++ [str (x10.body.take 300)]).map (fun s : ByteArray => Value.string s))]) [true, true, true, true, true, false, false] rfl ?_
              exact f_cut ⟨(k + 1, (apS K I (x10.body.take 300)), (apI I (x10.body.take 300)), Jn, (⟨C.epoch, C.next + 1, C.state, (C.recs ++ [str (x10.body.take 300)])⟩ : KC), p60, c61, (Nx (C.epoch)), (Nx (C.next + 1)), (.string (C.state)), (.slice p60 ((C.recs ++ [str (x10.body.take 300)])).length c61)), ⟨⟨rfl, rfl, rfl, rfl, rfl, rfl, rfl⟩, rfl, ⟨by omega, hI2, hC2⟩⟩, (show zs5.length - (k + 1) < zs5.length - k from by omega)⟩
          ·
            have hI2 := hI.ap_no (by simp; omega) hc
            have hN2 := isP_not_ap (b := (x10.body.take 300)) hC
            refine c_region ?_
            refine l_val (v := .pointer (some ⟨Jn, 0, none⟩)) rfl rfl rfl (e_move) ?_
            refine l_val (v := .agg #[Bx (x10.kind), Bx (x10.power), .slice a18 (x10.body.length) (c19)]) rfl rfl rfl (e_load tf87 (cs := [Bx (x10.kind), Bx (x10.power), .slice a18 (x10.body.length) (c19)]) rfl (k_pt 0 (cs := #[Bx (x10.kind), Bx (x10.power), .slice a18 (x10.body.length) (c19)]) (vs := [Bx (x10.kind), Bx (x10.power), .slice a18 (x10.body.length) (c19)]) rfl rfl) rfl) ?_
            refine l_call rfl rfl rfl (cl_value (fst := []) (cap := []) (vs := [.pointer (some ⟨Jn, 0, none⟩), .agg #[Bx (x10.kind), Bx (x10.power), .slice a18 (x10.body.length) (c19)]]) (all := [.pointer (some ⟨Jn, 0, none⟩), .agg #[Bx (x10.kind), Bx (x10.power), .slice a18 (x10.body.length) (c19)]]) tf113 rfl rfl rfl) ?_
            intro w hw
            replace hw := hw.perm (L' := _ :: _ :: _ :: _ :: _ :: _ :: []) (by exact ((((((perm_front 5 rfl).trans (perm_front 5 rfl)).trans (perm_front 5 rfl)).trans (perm_front 3 rfl)).trans (perm_front 5 rfl)).trans (perm_front 5 rfl)))
            obtain ⟨β1, sb, kn, hw1, back⟩ := St.frame (L := [_, _]) (M := _ :: _ :: _ :: _ :: []) hw
            refine (does_ap_no β1 w Jn b1 K I hfit (by omega) (by omega) (by omega) (by omega) x10 a18 c19 (by omega) (by omega) (Elems.mono _ _ _ _ _ sb he22) (by omega) hc hw1).mono ?_
            rintro e w' ⟨rfl, hw'⟩
            refine ⟨_, rfl, _, back _ _ hw', ?_⟩
            clear hw hw1 hw' back kn sb
            refine l_val (v := .int .i64 (310)) rfl rfl rfl (e_assign) ?_
            refine l_nil ?_
            refine f_then ?_
            refine c_seq ?_
            refine c_seq ?_
            refine c_region ?_
            refine l_val (v := .int .i64 (310)) rfl rfl rfl (e_move) ?_
            refine l_val (v := .bool false) rfl rfl rfl (e_eql (a := (310 : Int)) (b := (0 : Int)) rfl rfl) ?_
            refine l_nil ?_
            refine f_then ?_
            refine c_no rfl ?_
            refine c_skip ?_
            refine f_then ?_
            refine c_seq ?_
            refine c_seq ?_
            refine c_rowcap 5 rfl (fun hq66 hq67 => ?_)
            have hq68 : cn ≤ 9223372036854775807 := by unfold maxLen at hq67; omega
            refine c_region ?_
            refine l_val (v := .int .i64 (310)) rfl rfl rfl (e_move) ?_
            refine l_val (v := .bool true) rfl rfl rfl (e_neq (a := (310 : Int)) (b := (0 : Int)) rfl rfl) ?_
            refine l_val (v := .bool true) rfl rfl rfl (e_move) ?_
            refine g_val (v := .int .i64 (310)) rfl rfl rfl rfl rfl (e_move) ?_
            refine g_val (v := .bool false) rfl rfl rfl rfl rfl (e_neq (a := (310 : Int)) (b := (310 : Int)) rfl rfl) ?_
            refine l_val (v := .bool false) rfl rfl rfl (e_pick_t rfl) ?_
            refine l_val (v := .bool false) rfl rfl rfl (e_move) ?_
            refine g_val (v := .agg #[Nx (C.epoch), Nx (C.next), .string (C.state), .slice pn (C.recs).length cn]) rfl rfl rfl rfl rfl (e_load tf101 (cs := [Nx (C.epoch), Nx (C.next), .string (C.state), .slice pn (C.recs).length cn]) rfl (k_pt 3 (cs := #[Nx (C.epoch), Nx (C.next), .string (C.state), .slice pn (C.recs).length cn]) (vs := [Nx (C.epoch), Nx (C.next), .string (C.state), .slice pn (C.recs).length cn]) rfl rfl) rfl) ?_
            refine g_val (v := .pointer (some ⟨Jn, 0, none⟩)) rfl rfl rfl rfl rfl (e_move) ?_
            refine g_call rfl rfl rfl rfl rfl (cl_value (fst := []) (cap := []) (vs := [.agg #[Nx (C.epoch), Nx (C.next), .string (C.state), .slice pn (C.recs).length cn], .pointer (some ⟨Jn, 0, none⟩)]) (all := [.agg #[Nx (C.epoch), Nx (C.next), .string (C.state), .slice pn (C.recs).length cn], .pointer (some ⟨Jn, 0, none⟩)]) tf115 rfl rfl rfl) ?_
            intro w hw
            obtain ⟨β1, sb, kn, hw1, back⟩ := St.frame_all hw
            refine (is_ok β1 w hw1 C pn cn (by omega) (by omega) (kn _ (Knows.of_res 5 rfl (Elems.mono _ _ _) fun _ h => row_stre h)) Jn b1 I true (kn _ (Knows.of_res 0 rfl (JF.mono _ _ _ _) fun _ h => jour_jf h)) (by have := hI2.st; omega) (by have := hI2.wf.next; have := hI2.nN; omega) (fun b hb => by have := hI2.rs b hb; omega)).mono ?_
            rintro e w' ⟨rfl, hw'⟩
            refine ⟨_, rfl, _, back _ _ hw', ?_⟩
            clear hw hw1 hw' back kn sb
            refine g_val (v := .bool (decide (¬ (isP C I)))) rfl rfl rfl rfl rfl (e_not_p (p := isP C I) rfl) ?_
            refine l_val (v := .bool (decide (¬ (isP C I)))) rfl rfl rfl (e_pick_f rfl) ?_
            refine l_nil ?_
            refine f_then ?_
            refine c_if (¬ (isP C I)) rfl (fun hc69 => ?_) (fun hc69 => ?_)
            ·
              exact absurd hc69 (Decidable.not_not.2 hC)
            ·
              refine c_skip ?_
              refine f_then ?_
              refine c_seq ?_
              refine c_region ?_
              refine l_val (v := .int .i64 (310)) rfl rfl rfl (e_move) ?_
              refine l_val (v := .bool true) rfl rfl rfl (e_eql (a := (310 : Int)) (b := (310 : Int)) rfl rfl) ?_
              refine l_nil ?_
              refine f_then ?_
              refine c_yes rfl ?_
              refine c_seq ?_
              refine c_region ?_
              refine l_val (v := .agg #[Nx (C.epoch), Nx (C.next), .string (C.state), .slice pn (C.recs).length cn]) rfl rfl rfl (e_load tf101 (cs := [Nx (C.epoch), Nx (C.next), .string (C.state), .slice pn (C.recs).length cn]) rfl (k_pt 3 (cs := #[Nx (C.epoch), Nx (C.next), .string (C.state), .slice pn (C.recs).length cn]) (vs := [Nx (C.epoch), Nx (C.next), .string (C.state), .slice pn (C.recs).length cn]) rfl rfl) rfl) ?_
              refine l_val (v := .agg #[Bx (x10.kind), Bx (x10.power), .slice a18 (x10.body.length) (c19)]) rfl rfl rfl (e_load tf87 (cs := [Bx (x10.kind), Bx (x10.power), .slice a18 (x10.body.length) (c19)]) rfl (k_pt 2 (cs := #[Bx (x10.kind), Bx (x10.power), .slice a18 (x10.body.length) (c19)]) (vs := [Bx (x10.kind), Bx (x10.power), .slice a18 (x10.body.length) (c19)]) rfl rfl) rfl) ?_
              refine l_call rfl rfl rfl (cl_value (fst := []) (cap := []) (vs := [.agg #[Nx (C.epoch), Nx (C.next), .string (C.state), .slice pn (C.recs).length cn], .agg #[Bx (x10.kind), Bx (x10.power), .slice a18 (x10.body.length) (c19)]]) (all := [.agg #[Nx (C.epoch), Nx (C.next), .string (C.state), .slice pn (C.recs).length cn], .agg #[Bx (x10.kind), Bx (x10.power), .slice a18 (x10.body.length) (c19)]]) tf114 rfl rfl rfl) ?_
              intro w hw
              obtain ⟨β1, sb, kn, hw1, back⟩ := St.frame_all hw
              refine (with_app β1 w hw1 C pn cn (by omega) (by omega) (kn _ (Knows.of_res 5 rfl (Elems.mono _ _ _) fun _ h => row_stre h)) (by first | omega | (simp only []; omega)) (by first | omega | (simp only []; omega)) x10 a18 c19 (by omega) (by omega) (Elems.mono _ _ _ _ _ sb he22) (by omega)).mono ?_
              rintro e w' ⟨p70, c71, rfl, hw'⟩
              refine ⟨_, rfl, _, back _ _ hw', ?_⟩
              clear hw hw1 hw' back kn sb
              refine l_mu rfl rfl (m_store 5 tf101 (b := b4) (o := 0) (T := 27) (cs := #[y0, y1, y2, y3]) (cs' := #[Nx (C.epoch), Nx (C.next + 1), .string (C.state), .slice p70 ((C.recs ++ [str (x10.body.take 300)])).length c71]) (v := .agg #[Nx (C.epoch), Nx (C.next + 1), .string (C.state), .slice p70 ((C.recs ++ [str (x10.body.take 300)])).length c71]) rfl rfl rfl rfl rfl rfl rfl) ?_
              refine l_nil ?_
              refine f_then ?_
              refine c_seq ?_
              refine c_seq ?_
              refine c_region ?_
              refine l_val (v := .pointer (some ⟨Jn, 0, none⟩)) rfl rfl rfl (e_move) ?_
              refine l_call rfl rfl rfl (cl_value (fst := []) (cap := []) (vs := [.pointer (some ⟨Jn, 0, none⟩), .slice none 0 0]) (all := [.pointer (some ⟨Jn, 0, none⟩), .slice none 0 0]) tf102 rfl rfl rfl) ?_
              intro w hw
              replace hw := hw.perm (L' := _ :: _ :: _ :: _ :: _ :: _ :: _ :: []) (by exact (((((((perm_front 6 rfl).trans (perm_front 6 rfl)).trans (perm_front 6 rfl)).trans (perm_front 6 rfl)).trans (perm_front 6 rfl)).trans (perm_front 5 rfl)).trans (perm_front 6 rfl)))
              obtain ⟨β1, sb, kn, hw1, back⟩ := St.frame (L := [_]) (M := _ :: _ :: _ :: _ :: _ :: _ :: []) hw
              refine (append_down β1 w Jn b1 (apS K I (x10.body.take 300)) I [] (show ([] : Bs).length ≤ 65536 by simp) _ (Sl.nil U8R _) hw1).mono ?_
              rintro e w' ⟨rfl, hw'⟩
              refine ⟨_, rfl, _, back _ _ hw', ?_⟩
              clear hw hw1 hw' back kn sb
              refine l_val (v := .tuple #[.int .i64 (0), .int .i64 (310)]) rfl rfl rfl (e_move) ?_
              refine l_val (v := .int .i64 (0)) rfl rfl rfl (e_extract (vs := #[.int .i64 (0), .int .i64 (310)]) rfl rfl) ?_
              refine l_val (v := .int .i64 (310)) rfl rfl rfl (e_extract (vs := #[.int .i64 (0), .int .i64 (310)]) rfl rfl) ?_
              refine l_val (v := .int .i64 (0)) rfl rfl rfl (e_assign) ?_
              refine l_val (v := .int .i64 (310)) rfl rfl rfl (e_assign) ?_
              refine l_nil ?_
              refine f_then ?_
              refine c_seq ?_
              refine c_region ?_
              refine l_val (v := .int .i64 (310)) rfl rfl rfl (e_move) ?_
              refine l_val (v := .bool false) rfl rfl rfl (e_neq (a := (310 : Int)) (b := (310 : Int)) rfl rfl) ?_
              refine l_val (v := .bool false) rfl rfl rfl (e_move) ?_
              refine g_val (v := .pointer (some ⟨Jn, 0, none⟩)) rfl rfl rfl rfl rfl (e_move) ?_
              refine g_call rfl rfl rfl rfl rfl (cl_value (fst := []) (cap := []) (vs := [.pointer (some ⟨Jn, 0, none⟩), .slice none 0 0]) (all := [.pointer (some ⟨Jn, 0, none⟩), .slice none 0 0]) tf103 rfl rfl rfl) ?_
              intro w hw
              replace hw := hw.perm (L' := _ :: _ :: _ :: _ :: _ :: _ :: _ :: []) (by exact (((((((perm_front 6 rfl).trans (perm_front 6 rfl)).trans (perm_front 6 rfl)).trans (perm_front 6 rfl)).trans (perm_front 6 rfl)).trans (perm_front 6 rfl)).trans (perm_front 6 rfl)))
              obtain ⟨β1, sb, kn, hw1, back⟩ := St.frame (L := [_]) (M := _ :: _ :: _ :: _ :: _ :: _ :: []) hw
              refine (checkp_down β1 w Jn b1 (apS K I (x10.body.take 300)) I [] (show ([] : Bs).length ≤ 65536 by simp) _ (Sl.nil U8R _) hw1).mono ?_
              rintro e w' ⟨rfl, hw'⟩
              refine ⟨_, rfl, _, back _ _ hw', ?_⟩
              clear hw hw1 hw' back kn sb
              refine g_val (v := .bool false) rfl rfl rfl rfl rfl (e_neq (a := (310 : Int)) (b := (310 : Int)) rfl rfl) ?_
              refine l_val (v := .bool false) rfl rfl rfl (e_pick_f rfl) ?_
              refine l_nil ?_
              refine f_then ?_
              refine c_no rfl ?_
              refine c_skip ?_
              refine f_then ?_
              refine c_seq ?_
              refine c_seq ?_
              refine c_region ?_
              refine l_val (v := .pointer (some ⟨b1, 0, none⟩)) rfl rfl rfl (e_move) ?_
              refine l_call rfl rfl rfl (cl_value (fst := []) (cap := []) (vs := [.pointer (some ⟨b1, 0, none⟩)]) (all := [.pointer (some ⟨b1, 0, none⟩)]) tf107 rfl rfl rfl) ?_
              intro w hw
              replace hw := hw.perm (L' := _ :: _ :: _ :: _ :: _ :: _ :: _ :: []) (by exact (((((((perm_front 6 rfl).trans (perm_front 6 rfl)).trans (perm_front 6 rfl)).trans (perm_front 6 rfl)).trans (perm_front 5 rfl)).trans (perm_front 5 rfl)).trans (perm_front 6 rfl)))
              obtain ⟨β1, sb, kn, hw1, back⟩ := St.frame (L := [_]) (M := _ :: _ :: _ :: _ :: _ :: _ :: []) hw
              refine (again_ok β1 w b1 (apS K I (x10.body.take 300)) ((hI2.pow (p := -1) (by decide) (by decide)).okP (by omega)) I hI2.read hw1).mono ?_
              rintro e w' ⟨J72, rfl, hw'⟩
              refine ⟨_, rfl, _, back _ _ hw', ?_⟩
              clear hw hw1 hw' back kn sb
              refine l_val (v := .tuple #[.pointer (some ⟨J72, 0, none⟩), .bool true]) rfl rfl rfl (e_move) ?_
              refine l_val (v := .pointer (some ⟨J72, 0, none⟩)) rfl rfl rfl (e_extract (vs := #[.pointer (some ⟨J72, 0, none⟩), .bool true]) rfl rfl) ?_
              refine l_val (v := .bool true) rfl rfl rfl (e_extract (vs := #[.pointer (some ⟨J72, 0, none⟩), .bool true]) rfl rfl) ?_
              refine l_val (v := .pointer (some ⟨J72, 0, none⟩)) rfl rfl rfl (e_assign) ?_
              refine l_val (v := .bool true) rfl rfl rfl (e_assign) ?_
              refine l_nil ?_
              refine f_then ?_
              refine c_seq ?_
              refine c_rowcap 3 rfl (fun hq73 hq74 => ?_)
              have hq75 : c71 ≤ 9223372036854775807 := by unfold maxLen at hq74; omega
              refine c_region ?_
              refine l_val (v := .bool true) rfl rfl rfl (e_move) ?_
              refine l_val (v := .bool false) rfl rfl rfl (e_not (a := true) rfl) ?_
              refine l_val (v := .bool false) rfl rfl rfl (e_move) ?_
              refine g_val (v := .agg #[Nx (C.epoch), Nx (C.next), .string (C.state), .slice pn (C.recs).length cn]) rfl rfl rfl rfl rfl (e_load tf101 (cs := [Nx (C.epoch), Nx (C.next), .string (C.state), .slice pn (C.recs).length cn]) rfl (k_pt 5 (cs := #[Nx (C.epoch), Nx (C.next), .string (C.state), .slice pn (C.recs).length cn]) (vs := [Nx (C.epoch), Nx (C.next), .string (C.state), .slice pn (C.recs).length cn]) rfl rfl) rfl) ?_
              refine g_val (v := .pointer (some ⟨J72, 0, none⟩)) rfl rfl rfl rfl rfl (e_move) ?_
              refine g_call rfl rfl rfl rfl rfl (cl_value (fst := []) (cap := []) (vs := [.agg #[Nx (C.epoch), Nx (C.next), .string (C.state), .slice pn (C.recs).length cn], .pointer (some ⟨J72, 0, none⟩)]) (all := [.agg #[Nx (C.epoch), Nx (C.next), .string (C.state), .slice pn (C.recs).length cn], .pointer (some ⟨J72, 0, none⟩)]) tf115 rfl rfl rfl) ?_
              intro w hw
              obtain ⟨β1, sb, kn, hw1, back⟩ := St.frame_all hw
              refine (is_ok β1 w hw1 C pn cn (by omega) (by omega) (kn _ (Knows.of_res 7 rfl (Elems.mono _ _ _) fun _ h => row_stre h)) J72 b1 I false (kn _ (Knows.of_res 0 rfl (JF.mono _ _ _ _) fun _ h => jour_jf h)) (by have := hI2.st; omega) (by have := hI2.wf.next; have := hI2.nN; omega) (fun b hb => by have := hI2.rs b hb; omega)).mono ?_
              rintro e w' ⟨rfl, hw'⟩
              refine ⟨_, rfl, _, back _ _ hw', ?_⟩
              clear hw hw1 hw' back kn sb
              refine g_val (v := .bool (decide (¬ (isP C I)))) rfl rfl rfl rfl rfl (e_not_p (p := isP C I) rfl) ?_
              refine g_val (v := .bool (decide (¬ (isP C I)))) rfl rfl rfl rfl rfl (e_move) ?_
              refine l_split (s := 102) (p := ¬ (isP C I)) rfl (fun h => ?_) (fun h => ?_)
              exact absurd h (Decidable.not_not.2 hC)
              refine l_skip rfl rfl rfl rfl rfl rfl ?_
              refine l_skip rfl rfl rfl rfl rfl rfl ?_
              refine l_skip rfl rfl rfl rfl rfl rfl ?_
              refine l_skip rfl rfl rfl rfl rfl rfl ?_
              refine g_val (v := .bool false) rfl rfl rfl rfl rfl (e_pick_f rfl) ?_
              refine l_val (v := .bool false) rfl rfl rfl (e_pick_f rfl) ?_
              refine l_nil ?_
              refine f_then ?_
              refine c_no rfl ?_
              refine c_skip ?_
              refine f_then ?_
              refine c_seq ?_
              refine c_region ?_
              refine l_val (v := .agg #[Nx (C.epoch), Nx (C.next + 1), .string (C.state), .slice p70 ((C.recs ++ [str (x10.body.take 300)])).length c71]) rfl rfl rfl (e_load tf101 (cs := [Nx (C.epoch), Nx (C.next + 1), .string (C.state), .slice p70 ((C.recs ++ [str (x10.body.take 300)])).length c71]) rfl (k_pt 6 (cs := #[Nx (C.epoch), Nx (C.next + 1), .string (C.state), .slice p70 ((C.recs ++ [str (x10.body.take 300)])).length c71]) (vs := [Nx (C.epoch), Nx (C.next + 1), .string (C.state), .slice p70 ((C.recs ++ [str (x10.body.take 300)])).length c71]) rfl rfl) rfl) ?_
              refine l_val (v := .pointer (some ⟨J72, 0, none⟩)) rfl rfl rfl (e_move) ?_
              refine l_call rfl rfl rfl (cl_value (fst := []) (cap := []) (vs := [.agg #[Nx (C.epoch), Nx (C.next + 1), .string (C.state), .slice p70 ((C.recs ++ [str (x10.body.take 300)])).length c71], .pointer (some ⟨J72, 0, none⟩)]) (all := [.agg #[Nx (C.epoch), Nx (C.next + 1), .string (C.state), .slice p70 ((C.recs ++ [str (x10.body.take 300)])).length c71], .pointer (some ⟨J72, 0, none⟩)]) tf115 rfl rfl rfl) ?_
              intro w hw
              obtain ⟨β1, sb, kn, hw1, back⟩ := St.frame_all hw
              refine (is_ok β1 w hw1 (⟨C.epoch, C.next + 1, C.state, (C.recs ++ [str (x10.body.take 300)])⟩ : KC) p70 c71 (by omega) (by omega) (kn _ (Knows.of_res 3 rfl (Elems.mono _ _ _) fun _ h => row_stre h)) J72 b1 I false (kn _ (Knows.of_res 0 rfl (JF.mono _ _ _ _) fun _ h => jour_jf h)) (by have := hI2.st; omega) (by have := hI2.wf.next; have := hI2.nN; omega) (fun b hb => by have := hI2.rs b hb; omega)).mono ?_
              rintro e w' ⟨rfl, hw'⟩
              refine ⟨_, rfl, _, back _ _ hw', ?_⟩
              clear hw hw1 hw' back kn sb
              refine l_nil ?_
              refine f_then ?_
              refine c_if (isP (⟨C.epoch, C.next + 1, C.state, (C.recs ++ [str (x10.body.take 300)])⟩ : KC) I) rfl (fun hc76 => ?_) (fun hc76 => ?_)
              ·
                exact absurd hc76 hN2
              ·
                refine c_skip ?_
                refine f_block ?_
                refine f_block ?_
                refine f_then ?_
                refine c_region ?_
                refine l_val (v := Nx (k + 1)) rfl rfl rfl (e_add (a := ((k : Nat) : Int)) (b := (1 : Int)) rfl rfl (i64n (by omega) (by omega))) ?_
                refine l_val (v := Nx (k + 1)) rfl rfl rfl (e_move) ?_
                refine l_nil ?_
                refine f_mask (L' := [jourR J72 b1 I false, storeR b1 (cutS (powS (apS K I (x10.body.take 300))) I.epoch I.size), pt b3 (.cells #[Nx (C.epoch), Nx (C.next), .string (C.state), .slice pn (C.recs).length cn] 27), pt b4 (.cells #[Nx (C.epoch), Nx (C.next + 1), .string (C.state), .slice p70 ((C.recs ++ [str (x10.body.take 300)])).length c71] 27), row (.slice pn (C.recs).length cn) 9 1 ((C.recs).length) (C.recs.map (fun s : ByteArray => Value.string s))]) [true, true, false, false, false, true, true, true] rfl ?_
                exact f_cut ⟨(k + 1, (cutS (powS (apS K I (x10.body.take 300))) I.epoch I.size), I, J72, C, pn, cn, (Nx (C.epoch)), (Nx (C.next + 1)), (.string (C.state)), (.slice p70 ((C.recs ++ [str (x10.body.take 300)])).length c71)), ⟨⟨rfl, rfl, rfl, rfl, rfl, rfl, rfl⟩, rfl, ⟨by omega, ((hI2.pow (p := -1) (by decide) (by decide)).cut (show (-1 : Int) ≠ 0 by decide)).mono (by omega), hC⟩⟩, (show zs5.length - (k + 1) < zs5.length - k from by omega)⟩
        ·
          refine c_seq ?_
          refine c_region ?_
          refine l_val (v := .bool (decide (((x10.kind.toNat % 5 : Nat) : Int) = (3 : Int)))) rfl rfl rfl (e_eql (a := ((x10.kind.toNat % 5 : Nat) : Int)) (b := (3 : Int)) rfl rfl) ?_
          refine l_val (v := .bool (decide (((x10.kind.toNat % 5 : Nat) : Int) = (3 : Int)))) rfl rfl rfl (e_assign) ?_
          refine l_nil ?_
          refine f_then ?_
          refine c_if (((x10.kind.toNat % 5 : Nat) : Int) = (3 : Int)) rfl (fun hc77 => ?_) (fun hc77 => ?_)
          ·
            refine c_perm (L' := [storeR b1 K, pt b23 (.cells #[Bx (x10.kind), Bx (x10.power), .slice a18 (x10.body.length) (c19)] 47), jourR Jn b1 I false, pt b3 (.cells #[Nx (C.epoch), Nx (C.next), .string (C.state), .slice pn (C.recs).length cn] 27), pt b4 (.cells #[y0, y1, y2, y3] 27), row (.slice pn (C.recs).length cn) 9 1 ((C.recs).length) (C.recs.map (fun s : ByteArray => Value.string s))]) (by exact ((((((perm_front 5 rfl).trans (perm_front 5 rfl)).trans (perm_front 5 rfl)).trans (perm_front 4 rfl)).trans (perm_front 4 rfl)).trans (perm_front 5 rfl))) ?_
            refine c_openStore rfl (fun pH78 pA79 pB80 cH81 cA82 cB83 => ?_)
            refine c_rowcap 1 rfl (fun hcl84 hcm85 => ?_)
            refine c_rowcap 2 rfl (fun hcl86 hcm87 => ?_)
            refine c_rowcap 3 rfl (fun hcl88 hcm89 => ?_)
            refine c_region ?_
            refine l_val (v := .pointer (some ⟨b1, 0, none⟩)) rfl rfl rfl (e_move) ?_
            refine l_val (v := .agg #[Bx (x10.kind), Bx (x10.power), .slice a18 (x10.body.length) (c19)]) rfl rfl rfl (e_load tf87 (cs := [Bx (x10.kind), Bx (x10.power), .slice a18 (x10.body.length) (c19)]) rfl (k_pt 4 (cs := #[Bx (x10.kind), Bx (x10.power), .slice a18 (x10.body.length) (c19)]) (vs := [Bx (x10.kind), Bx (x10.power), .slice a18 (x10.body.length) (c19)]) rfl rfl) rfl) ?_
            refine l_call rfl rfl rfl (cl_value (fst := []) (cap := []) (vs := [.agg #[Bx (x10.kind), Bx (x10.power), .slice a18 (x10.body.length) (c19)]]) (all := [.agg #[Bx (x10.kind), Bx (x10.power), .slice a18 (x10.body.length) (c19)]]) tf110 rfl rfl rfl) ?_
            intro w hw
            obtain ⟨β1, sb, kn, hw1, back⟩ := St.frame_all hw
            refine (power_ok β1 w hw1 x10 a18 c19 (by omega) (by omega) (Elems.mono _ _ _ _ _ sb he22)).mono ?_
            rintro e w' ⟨rfl, hw'⟩
            refine ⟨_, rfl, _, back _ _ hw', ?_⟩
            clear hw hw1 hw' back kn sb
            refine l_val (v := .pointer (some ⟨b1, 0, none⟩)) rfl rfl rfl (e_nil (a := ⟨b1, 0, none⟩) rfl) ?_
            refine l_val (v := .pointer (some ⟨b1, 3, none⟩)) rfl rfl rfl (e_fieldPt (b := b1) (o := 0) rfl tf24) ?_
            refine l_mu rfl rfl (m_store 0 tf25 (b := b1) (o := 3) (T := 32) (cs := #[.slice pH78 (K.head).length cH81, .slice pA79 (K.a).length cA82, .slice pB80 (K.b).length cB83, Ix (K.power)]) (cs' := #[.slice pH78 (K.head).length cH81, .slice pA79 (K.a).length cA82, .slice pB80 (K.b).length cB83, Ix (powerF x10)]) (v := Ix (powerF x10)) rfl rfl rfl rfl rfl rfl rfl) ?_
            refine l_nil ?_
            refine f_block ?_
            refine f_block ?_
            refine f_then ?_
            refine c_perm (L' := [pt b1 (.cells #[.slice pH78 (K.head).length cH81, .slice pA79 (K.a).length cA82, .slice pB80 (K.b).length cB83, Ix (powerF x10)] 32), row (.slice pH78 (K.head).length cH81) 5 1 ((K.head).length) (BX K.head), row (.slice pA79 (K.a).length cA82) 5 1 ((K.a).length) (BX K.a), row (.slice pB80 (K.b).length cB83) 5 1 ((K.b).length) (BX K.b), pt b23 (.cells #[Bx (x10.kind), Bx (x10.power), .slice a18 (x10.body.length) (c19)] 47), jourR Jn b1 I false, pt b3 (.cells #[Nx (C.epoch), Nx (C.next), .string (C.state), .slice pn (C.recs).length cn] 27), pt b4 (.cells #[y0, y1, y2, y3] 27), row (.slice pn (C.recs).length cn) 9 1 ((C.recs).length) (C.recs.map (fun s : ByteArray => Value.string s))]) (by exact (((((((((perm_front 8 rfl).trans (perm_front 8 rfl)).trans (perm_front 8 rfl)).trans (perm_front 8 rfl)).trans (perm_front 8 rfl)).trans (perm_front 8 rfl)).trans (perm_front 8 rfl)).trans (perm_front 8 rfl)).trans (perm_front 8 rfl))) ?_
            refine c_closeStore (S := b1) (k := ({ K with power := powerF x10 } : KS)) (pH := pH78) (pA := pA79) (pB := pB80) (cH := cH81) (cA := cA82) (cB := cB83) (M := (pt b23 (.cells #[Bx (x10.kind), Bx (x10.power), .slice a18 (x10.body.length) (c19)] 47) :: jourR Jn b1 I false :: pt b3 (.cells #[Nx (C.epoch), Nx (C.next), .string (C.state), .slice pn (C.recs).length cn] 27) :: pt b4 (.cells #[y0, y1, y2, y3] 27) :: row (.slice pn (C.recs).length cn) 9 1 ((C.recs).length) (C.recs.map (fun s : ByteArray => Value.string s)) :: [])) rfl ?_
            refine c_region ?_
            refine l_val (v := Nx (k + 1)) rfl rfl rfl (e_add (a := ((k : Nat) : Int)) (b := (1 : Int)) rfl rfl (i64n (by omega) (by omega))) ?_
            refine l_val (v := Nx (k + 1)) rfl rfl rfl (e_move) ?_
            refine l_nil ?_
            refine f_perm (L' := [jourR Jn b1 I false, storeR b1 ({ K with power := powerF x10 } : KS), pt b3 (.cells #[Nx (C.epoch), Nx (C.next), .string (C.state), .slice pn (C.recs).length cn] 27), pt b4 (.cells #[y0, y1, y2, y3] 27), row (.slice pn (C.recs).length cn) 9 1 ((C.recs).length) (C.recs.map (fun s : ByteArray => Value.string s)), pt b23 (.cells #[Bx (x10.kind), Bx (x10.power), .slice a18 (x10.body.length) (c19)] 47)]) ((((((perm_front 1 rfl).trans (perm_front 5 rfl)).trans (perm_front 5 rfl)).trans (perm_front 5 rfl)).trans (perm_front 4 rfl)).trans (perm_front 5 rfl)) ?_
            refine f_mask (L' := [jourR Jn b1 I false, storeR b1 ({ K with power := powerF x10 } : KS), pt b3 (.cells #[Nx (C.epoch), Nx (C.next), .string (C.state), .slice pn (C.recs).length cn] 27), pt b4 (.cells #[y0, y1, y2, y3] 27), row (.slice pn (C.recs).length cn) 9 1 ((C.recs).length) (C.recs.map (fun s : ByteArray => Value.string s))]) [true, true, true, true, true, false] rfl ?_
            exact f_cut ⟨(k + 1, ({ K with power := powerF x10 } : KS), I, Jn, C, pn, cn, y0, y1, y2, y3), ⟨⟨rfl, rfl, rfl, rfl, rfl, rfl, rfl⟩, rfl, ⟨by omega, (hI.pow (powerF_ge _) (powerF_le _)).mono (by omega), hC⟩⟩, (show zs5.length - (k + 1) < zs5.length - k from by omega)⟩
          ·
            refine c_seq ?_
            refine c_region ?_
            refine l_val (v := .pointer (some ⟨b1, 0, none⟩)) rfl rfl rfl (e_move) ?_
            refine l_call rfl rfl rfl (cl_value (fst := []) (cap := []) (vs := [.pointer (some ⟨b1, 0, none⟩)]) (all := [.pointer (some ⟨b1, 0, none⟩)]) tf107 rfl rfl rfl) ?_
            intro w hw
            replace hw := hw.perm (L' := _ :: _ :: _ :: _ :: _ :: _ :: []) (by exact ((((((perm_front 5 rfl).trans (perm_front 5 rfl)).trans (perm_front 5 rfl)).trans (perm_front 4 rfl)).trans (perm_front 4 rfl)).trans (perm_front 5 rfl)))
            obtain ⟨β1, sb, kn, hw1, back⟩ := St.frame (L := [_]) (M := _ :: _ :: _ :: _ :: _ :: []) hw
            refine (again_ok β1 w b1 K ((hI.pow (p := -1) (by decide) (by decide)).okP (by omega)) I hI.read hw1).mono ?_
            rintro e w' ⟨J90, rfl, hw'⟩
            refine ⟨_, rfl, _, back _ _ hw', ?_⟩
            clear hw hw1 hw' back kn sb
            refine l_val (v := .tuple #[.pointer (some ⟨J90, 0, none⟩), .bool true]) rfl rfl rfl (e_move) ?_
            refine l_val (v := .pointer (some ⟨J90, 0, none⟩)) rfl rfl rfl (e_extract (vs := #[.pointer (some ⟨J90, 0, none⟩), .bool true]) rfl rfl) ?_
            refine l_val (v := .bool true) rfl rfl rfl (e_extract (vs := #[.pointer (some ⟨J90, 0, none⟩), .bool true]) rfl rfl) ?_
            refine l_val (v := .pointer (some ⟨J90, 0, none⟩)) rfl rfl rfl (e_assign) ?_
            refine l_val (v := .bool true) rfl rfl rfl (e_assign) ?_
            refine l_nil ?_
            refine f_then ?_
            refine c_seq ?_
            refine c_region ?_
            refine l_val (v := .bool true) rfl rfl rfl (e_move) ?_
            refine l_val (v := .bool false) rfl rfl rfl (e_not (a := true) rfl) ?_
            refine l_val (v := .bool false) rfl rfl rfl (e_move) ?_
            refine g_val (v := .agg #[Nx (C.epoch), Nx (C.next), .string (C.state), .slice pn (C.recs).length cn]) rfl rfl rfl rfl rfl (e_load tf101 (cs := [Nx (C.epoch), Nx (C.next), .string (C.state), .slice pn (C.recs).length cn]) rfl (k_pt 4 (cs := #[Nx (C.epoch), Nx (C.next), .string (C.state), .slice pn (C.recs).length cn]) (vs := [Nx (C.epoch), Nx (C.next), .string (C.state), .slice pn (C.recs).length cn]) rfl rfl) rfl) ?_
            refine g_val (v := .pointer (some ⟨J90, 0, none⟩)) rfl rfl rfl rfl rfl (e_move) ?_
            refine g_call rfl rfl rfl rfl rfl (cl_value (fst := []) (cap := []) (vs := [.agg #[Nx (C.epoch), Nx (C.next), .string (C.state), .slice pn (C.recs).length cn], .pointer (some ⟨J90, 0, none⟩)]) (all := [.agg #[Nx (C.epoch), Nx (C.next), .string (C.state), .slice pn (C.recs).length cn], .pointer (some ⟨J90, 0, none⟩)]) tf115 rfl rfl rfl) ?_
            intro w hw
            obtain ⟨β1, sb, kn, hw1, back⟩ := St.frame_all hw
            refine (is_ok β1 w hw1 C pn cn (by omega) (by omega) (kn _ (Knows.of_res 6 rfl (Elems.mono _ _ _) fun _ h => row_stre h)) J90 b1 I false (kn _ (Knows.of_res 0 rfl (JF.mono _ _ _ _) fun _ h => jour_jf h)) (by have := hI.st; omega) (by have := hI.wf.next; have := hI.nN; omega) (fun b hb => by have := hI.rs b hb; omega)).mono ?_
            rintro e w' ⟨rfl, hw'⟩
            refine ⟨_, rfl, _, back _ _ hw', ?_⟩
            clear hw hw1 hw' back kn sb
            refine g_val (v := .bool (decide (¬ (isP C I)))) rfl rfl rfl rfl rfl (e_not_p (p := isP C I) rfl) ?_
            refine l_val (v := .bool (decide (¬ (isP C I)))) rfl rfl rfl (e_pick_f rfl) ?_
            refine l_nil ?_
            refine f_then ?_
            refine c_if (¬ (isP C I)) rfl (fun hc91 => ?_) (fun hc91 => ?_)
            ·
              exact absurd hc91 (Decidable.not_not.2 hC)
            ·
              refine c_skip ?_
              refine f_block ?_
              refine f_block ?_
              refine f_then ?_
              refine c_region ?_
              refine l_val (v := Nx (k + 1)) rfl rfl rfl (e_add (a := ((k : Nat) : Int)) (b := (1 : Int)) rfl rfl (i64n (by omega) (by omega))) ?_
              refine l_val (v := Nx (k + 1)) rfl rfl rfl (e_move) ?_
              refine l_nil ?_
              refine f_mask (L' := [jourR J90 b1 I false, storeR b1 (cutS (powS K) I.epoch I.size), pt b3 (.cells #[Nx (C.epoch), Nx (C.next), .string (C.state), .slice pn (C.recs).length cn] 27), pt b4 (.cells #[y0, y1, y2, y3] 27), row (.slice pn (C.recs).length cn) 9 1 ((C.recs).length) (C.recs.map (fun s : ByteArray => Value.string s))]) [true, true, false, false, true, true, true] rfl ?_
              exact f_cut ⟨(k + 1, (cutS (powS K) I.epoch I.size), I, J90, C, pn, cn, y0, y1, y2, y3), ⟨⟨rfl, rfl, rfl, rfl, rfl, rfl, rfl⟩, rfl, ⟨by omega, ((hI.pow (p := -1) (by decide) (by decide)).cut (show (-1 : Int) ≠ 0 by decide)).mono (by omega), hC⟩⟩, (show zs5.length - (k + 1) < zs5.length - k from by omega)⟩
      ·
        refine c_region ?_
        refine l_val (v := .bool (decide (((x10.kind.toNat % 5 : Nat) : Int) = (2 : Int)))) rfl rfl rfl (e_eql (a := ((x10.kind.toNat % 5 : Nat) : Int)) (b := (2 : Int)) rfl rfl) ?_
        refine l_val (v := .bool (decide (((x10.kind.toNat % 5 : Nat) : Int) = (2 : Int)))) rfl rfl rfl (e_assign) ?_
        refine l_nil ?_
        refine f_then ?_
        refine c_if (((x10.kind.toNat % 5 : Nat) : Int) = (2 : Int)) rfl (fun hc92 => ?_) (fun hc92 => ?_)
        ·
          refine c_seq ?_
          by_cases hc : ckOk K (I.epoch + 1) I.next (x10.body.take 300)
          ·
            have hI2 := hI.ck_ok (by omega) (by simp; omega) hc
            have hC2 := isP_ck (b := (x10.body.take 300)) hC
            refine c_region ?_
            refine l_val (v := .pointer (some ⟨Jn, 0, none⟩)) rfl rfl rfl (e_move) ?_
            refine l_val (v := .agg #[Bx (x10.kind), Bx (x10.power), .slice a18 (x10.body.length) (c19)]) rfl rfl rfl (e_load tf87 (cs := [Bx (x10.kind), Bx (x10.power), .slice a18 (x10.body.length) (c19)]) rfl (k_pt 0 (cs := #[Bx (x10.kind), Bx (x10.power), .slice a18 (x10.body.length) (c19)]) (vs := [Bx (x10.kind), Bx (x10.power), .slice a18 (x10.body.length) (c19)]) rfl rfl) rfl) ?_
            refine l_call rfl rfl rfl (cl_value (fst := []) (cap := []) (vs := [.pointer (some ⟨Jn, 0, none⟩), .agg #[Bx (x10.kind), Bx (x10.power), .slice a18 (x10.body.length) (c19)]]) (all := [.pointer (some ⟨Jn, 0, none⟩), .agg #[Bx (x10.kind), Bx (x10.power), .slice a18 (x10.body.length) (c19)]]) tf113 rfl rfl rfl) ?_
            intro w hw
            replace hw := hw.perm (L' := _ :: _ :: _ :: _ :: _ :: _ :: []) (by exact ((((((perm_front 5 rfl).trans (perm_front 5 rfl)).trans (perm_front 5 rfl)).trans (perm_front 3 rfl)).trans (perm_front 5 rfl)).trans (perm_front 5 rfl)))
            obtain ⟨β1, sb, kn, hw1, back⟩ := St.frame (L := [_, _]) (M := _ :: _ :: _ :: _ :: []) hw
            refine (does_ck_ok β1 w Jn b1 K I hfit (by omega) (by omega) (by omega) (by omega) x10 a18 c19 (by omega) (by omega) (Elems.mono _ _ _ _ _ sb he22) (by omega) hc hw1).mono ?_
            rintro e w' ⟨rfl, hw'⟩
            refine ⟨_, rfl, _, back _ _ hw', ?_⟩
            clear hw hw1 hw' back kn sb
            refine l_val (v := .int .i64 (0)) rfl rfl rfl (e_assign) ?_
            refine l_nil ?_
            refine f_then ?_
            refine c_seq ?_
            refine c_seq ?_
            refine c_region ?_
            refine l_val (v := .int .i64 (0)) rfl rfl rfl (e_move) ?_
            refine l_val (v := .bool true) rfl rfl rfl (e_eql (a := (0 : Int)) (b := (0 : Int)) rfl rfl) ?_
            refine l_nil ?_
            refine f_then ?_
            refine c_yes rfl ?_
            refine c_seq ?_
            refine c_region ?_
            refine l_val (v := .agg #[Nx (C.epoch), Nx (C.next), .string (C.state), .slice pn (C.recs).length cn]) rfl rfl rfl (e_load tf101 (cs := [Nx (C.epoch), Nx (C.next), .string (C.state), .slice pn (C.recs).length cn]) rfl (k_pt 3 (cs := #[Nx (C.epoch), Nx (C.next), .string (C.state), .slice pn (C.recs).length cn]) (vs := [Nx (C.epoch), Nx (C.next), .string (C.state), .slice pn (C.recs).length cn]) rfl rfl) rfl) ?_
            refine l_val (v := .agg #[Bx (x10.kind), Bx (x10.power), .slice a18 (x10.body.length) (c19)]) rfl rfl rfl (e_load tf87 (cs := [Bx (x10.kind), Bx (x10.power), .slice a18 (x10.body.length) (c19)]) rfl (k_pt 2 (cs := #[Bx (x10.kind), Bx (x10.power), .slice a18 (x10.body.length) (c19)]) (vs := [Bx (x10.kind), Bx (x10.power), .slice a18 (x10.body.length) (c19)]) rfl rfl) rfl) ?_
            refine l_call rfl rfl rfl (cl_value (fst := []) (cap := []) (vs := [.agg #[Nx (C.epoch), Nx (C.next), .string (C.state), .slice pn (C.recs).length cn], .agg #[Bx (x10.kind), Bx (x10.power), .slice a18 (x10.body.length) (c19)]]) (all := [.agg #[Nx (C.epoch), Nx (C.next), .string (C.state), .slice pn (C.recs).length cn], .agg #[Bx (x10.kind), Bx (x10.power), .slice a18 (x10.body.length) (c19)]]) tf114 rfl rfl rfl) ?_
            intro w hw
            obtain ⟨β1, sb, kn, hw1, back⟩ := St.frame_all hw
            refine (with_2 β1 w hw1 C pn cn (by omega) (by omega) (kn _ (Knows.of_res 5 rfl (Elems.mono _ _ _) fun _ h => row_stre h)) (by first | omega | (simp only []; omega)) x10 a18 c19 (by omega) (by omega) (Elems.mono _ _ _ _ _ sb he22) (by omega)).mono ?_
            rintro e w' ⟨rfl, hw'⟩
            refine ⟨_, rfl, _, back _ _ hw', ?_⟩
            clear hw hw1 hw' back kn sb
            refine l_mu rfl rfl (m_store 3 tf101 (b := b3) (o := 0) (T := 27) (cs := #[Nx (C.epoch), Nx (C.next), .string (C.state), .slice pn (C.recs).length cn]) (cs' := #[Nx (C.epoch + 1), Nx (C.next), .string (str (x10.body.take 300)), .slice none 0 0]) (v := .agg #[Nx (C.epoch + 1), Nx (C.next), .string (str (x10.body.take 300)), .slice none 0 0]) rfl rfl rfl rfl rfl rfl rfl) ?_
            refine l_nil ?_
            refine f_then ?_
            refine c_region ?_
            refine l_val (v := .agg #[Nx (C.epoch + 1), Nx (C.next), .string (str (x10.body.take 300)), .slice none 0 0]) rfl rfl rfl (e_load tf101 (cs := [Nx (C.epoch + 1), Nx (C.next), .string (str (x10.body.take 300)), .slice none 0 0]) rfl (k_pt 3 (cs := #[Nx (C.epoch + 1), Nx (C.next), .string (str (x10.body.take 300)), .slice none 0 0]) (vs := [Nx (C.epoch + 1), Nx (C.next), .string (str (x10.body.take 300)), .slice none 0 0]) rfl rfl) rfl) ?_
            refine l_mu rfl rfl (m_store 4 tf101 (b := b4) (o := 0) (T := 27) (cs := #[y0, y1, y2, y3]) (cs' := #[Nx (C.epoch + 1), Nx (C.next), .string (str (x10.body.take 300)), .slice none 0 0]) (v := .agg #[Nx (C.epoch + 1), Nx (C.next), .string (str (x10.body.take 300)), .slice none 0 0]) rfl rfl rfl rfl rfl rfl rfl) ?_
            refine l_nil ?_
            refine f_then ?_
            refine c_seq ?_
            refine c_seq ?_
            refine c_region ?_
            refine l_val (v := .int .i64 (0)) rfl rfl rfl (e_move) ?_
            refine l_val (v := .bool false) rfl rfl rfl (e_neq (a := (0 : Int)) (b := (0 : Int)) rfl rfl) ?_
            refine l_val (v := .bool false) rfl rfl rfl (e_move) ?_
            refine l_skip rfl rfl rfl rfl rfl rfl ?_
            refine l_skip rfl rfl rfl rfl rfl rfl ?_
            refine l_val (v := .bool false) rfl rfl rfl (e_pick_f rfl) ?_
            refine l_val (v := .bool false) rfl rfl rfl (e_move) ?_
            refine g_val (v := .agg #[Nx (C.epoch + 1), Nx (C.next), .string (str (x10.body.take 300)), .slice none 0 0]) rfl rfl rfl rfl rfl (e_load tf101 (cs := [Nx (C.epoch + 1), Nx (C.next), .string (str (x10.body.take 300)), .slice none 0 0]) rfl (k_pt 3 (cs := #[Nx (C.epoch + 1), Nx (C.next), .string (str (x10.body.take 300)), .slice none 0 0]) (vs := [Nx (C.epoch + 1), Nx (C.next), .string (str (x10.body.take 300)), .slice none 0 0]) rfl rfl) rfl) ?_
            refine g_val (v := .pointer (some ⟨Jn, 0, none⟩)) rfl rfl rfl rfl rfl (e_move) ?_
            refine g_call rfl rfl rfl rfl rfl (cl_value (fst := []) (cap := []) (vs := [.agg #[Nx (C.epoch + 1), Nx (C.next), .string (str (x10.body.take 300)), .slice none 0 0], .pointer (some ⟨Jn, 0, none⟩)]) (all := [.agg #[Nx (C.epoch + 1), Nx (C.next), .string (str (x10.body.take 300)), .slice none 0 0], .pointer (some ⟨Jn, 0, none⟩)]) tf115 rfl rfl rfl) ?_
            intro w hw
            obtain ⟨β1, sb, kn, hw1, back⟩ := St.frame_all hw
            refine (is_ok β1 w hw1 (⟨C.epoch + 1, C.next, str (x10.body.take 300), []⟩ : KC) none 0 (by simp) (by omega) (fun j x h => by simp at h) Jn b1 (ckI I (x10.body.take 300)) false (kn _ (Knows.of_res 0 rfl (JF.mono _ _ _ _) fun _ h => jour_jf h)) (by have := hI2.st; omega) (by have := hI2.wf.next; have := hI2.nN; omega) (fun b hb => by have := hI2.rs b hb; omega)).mono ?_
            rintro e w' ⟨rfl, hw'⟩
            refine ⟨_, rfl, _, back _ _ hw', ?_⟩
            clear hw hw1 hw' back kn sb
            refine g_val (v := .bool (decide (¬ (isP (⟨C.epoch + 1, C.next, str (x10.body.take 300), []⟩ : KC) (ckI I (x10.body.take 300)))))) rfl rfl rfl rfl rfl (e_not_p (p := isP (⟨C.epoch + 1, C.next, str (x10.body.take 300), []⟩ : KC) (ckI I (x10.body.take 300))) rfl) ?_
            refine l_val (v := .bool (decide (¬ (isP (⟨C.epoch + 1, C.next, str (x10.body.take 300), []⟩ : KC) (ckI I (x10.body.take 300)))))) rfl rfl rfl (e_pick_f rfl) ?_
            refine l_nil ?_
            refine f_then ?_
            refine c_if (¬ (isP (⟨C.epoch + 1, C.next, str (x10.body.take 300), []⟩ : KC) (ckI I (x10.body.take 300)))) rfl (fun hc93 => ?_) (fun hc93 => ?_)
            ·
              exact absurd hc93 (Decidable.not_not.2 hC2)
            ·
              refine c_skip ?_
              refine f_then ?_
              refine c_seq ?_
              refine c_region ?_
              refine l_val (v := .int .i64 (0)) rfl rfl rfl (e_move) ?_
              refine l_val (v := .bool false) rfl rfl rfl (e_eql (a := (0 : Int)) (b := (310 : Int)) rfl rfl) ?_
              refine l_nil ?_
              refine f_then ?_
              refine c_no rfl ?_
              refine c_skip ?_
              refine f_block ?_
              refine f_block ?_
              refine f_then ?_
              refine c_region ?_
              refine l_val (v := Nx (k + 1)) rfl rfl rfl (e_add (a := ((k : Nat) : Int)) (b := (1 : Int)) rfl rfl (i64n (by omega) (by omega))) ?_
              refine l_val (v := Nx (k + 1)) rfl rfl rfl (e_move) ?_
              refine l_nil ?_
              refine f_emp (r := row (.slice none 0 0) 9 1 0 ([].map (fun s : ByteArray => Value.string s))) (row_nil _ _ _) ?_
              refine f_perm (L' := [jourR Jn b1 (ckI I (x10.body.take 300)) false, storeR b1 (ckS K (I.epoch + 1) I.next (x10.body.take 300)), pt b3 (.cells #[Nx (C.epoch + 1), Nx (C.next), .string (str (x10.body.take 300)), .slice none 0 0] 27), pt b4 (.cells #[Nx (C.epoch + 1), Nx (C.next), .string (str (x10.body.take 300)), .slice none 0 0] 27), row (.slice none 0 0) 9 1 (0) ([].map (fun s : ByteArray => Value.string s)), pt b23 (.cells #[Bx (x10.kind), Bx (x10.power), .slice a18 (x10.body.length) (c19)] 47), row (.slice pn (C.recs).length cn) 9 1 ((C.recs).length) (C.recs.map (fun s : ByteArray => Value.string s))]) (((((((perm_front 6 rfl).trans (perm_front 4 rfl)).trans (perm_front 2 rfl)).trans (perm_front 6 rfl)).trans (perm_front 6 rfl)).trans (perm_front 6 rfl)).trans (perm_front 6 rfl)) ?_
              refine f_mask (L' := [jourR Jn b1 (ckI I (x10.body.take 300)) false, storeR b1 (ckS K (I.epoch + 1) I.next (x10.body.take 300)), pt b3 (.cells #[Nx (C.epoch + 1), Nx (C.next), .string (str (x10.body.take 300)), .slice none 0 0] 27), pt b4 (.cells #[Nx (C.epoch + 1), Nx (C.next), .string (str (x10.body.take 300)), .slice none 0 0] 27), row (.slice none 0 0) 9 1 (0) ([].map (fun s : ByteArray => Value.string s))]) [true, true, true, true, true, false, false] rfl ?_
              exact f_cut ⟨(k + 1, (ckS K (I.epoch + 1) I.next (x10.body.take 300)), (ckI I (x10.body.take 300)), Jn, (⟨C.epoch + 1, C.next, str (x10.body.take 300), []⟩ : KC), none, 0, (Nx (C.epoch + 1)), (Nx (C.next)), (.string (str (x10.body.take 300))), (.slice none 0 0)), ⟨⟨rfl, rfl, rfl, rfl, rfl, rfl, rfl⟩, rfl, ⟨by omega, hI2, hC2⟩⟩, (show zs5.length - (k + 1) < zs5.length - k from by omega)⟩
          ·
            rcases hI.ck_no (by omega) (by simp; omega) hc with hI2 | hI2
            ·
              have hN2 := isP_not_ck (b := (x10.body.take 300)) hC
              refine c_region ?_
              refine l_val (v := .pointer (some ⟨Jn, 0, none⟩)) rfl rfl rfl (e_move) ?_
              refine l_val (v := .agg #[Bx (x10.kind), Bx (x10.power), .slice a18 (x10.body.length) (c19)]) rfl rfl rfl (e_load tf87 (cs := [Bx (x10.kind), Bx (x10.power), .slice a18 (x10.body.length) (c19)]) rfl (k_pt 0 (cs := #[Bx (x10.kind), Bx (x10.power), .slice a18 (x10.body.length) (c19)]) (vs := [Bx (x10.kind), Bx (x10.power), .slice a18 (x10.body.length) (c19)]) rfl rfl) rfl) ?_
              refine l_call rfl rfl rfl (cl_value (fst := []) (cap := []) (vs := [.pointer (some ⟨Jn, 0, none⟩), .agg #[Bx (x10.kind), Bx (x10.power), .slice a18 (x10.body.length) (c19)]]) (all := [.pointer (some ⟨Jn, 0, none⟩), .agg #[Bx (x10.kind), Bx (x10.power), .slice a18 (x10.body.length) (c19)]]) tf113 rfl rfl rfl) ?_
              intro w hw
              replace hw := hw.perm (L' := _ :: _ :: _ :: _ :: _ :: _ :: []) (by exact ((((((perm_front 5 rfl).trans (perm_front 5 rfl)).trans (perm_front 5 rfl)).trans (perm_front 3 rfl)).trans (perm_front 5 rfl)).trans (perm_front 5 rfl)))
              obtain ⟨β1, sb, kn, hw1, back⟩ := St.frame (L := [_, _]) (M := _ :: _ :: _ :: _ :: []) hw
              refine (does_ck_no β1 w Jn b1 K I hfit (by omega) (by omega) (by omega) (by omega) x10 a18 c19 (by omega) (by omega) (Elems.mono _ _ _ _ _ sb he22) (by omega) hc hw1).mono ?_
              rintro e w' ⟨rfl, hw'⟩
              refine ⟨_, rfl, _, back _ _ hw', ?_⟩
              clear hw hw1 hw' back kn sb
              refine l_val (v := .int .i64 (310)) rfl rfl rfl (e_assign) ?_
              refine l_nil ?_
              refine f_then ?_
              refine c_seq ?_
              refine c_seq ?_
              refine c_region ?_
              refine l_val (v := .int .i64 (310)) rfl rfl rfl (e_move) ?_
              refine l_val (v := .bool false) rfl rfl rfl (e_eql (a := (310 : Int)) (b := (0 : Int)) rfl rfl) ?_
              refine l_nil ?_
              refine f_then ?_
              refine c_no rfl ?_
              refine c_skip ?_
              refine f_then ?_
              refine c_seq ?_
              refine c_seq ?_
              refine c_rowcap 5 rfl (fun hq94 hq95 => ?_)
              have hq96 : cn ≤ 9223372036854775807 := by unfold maxLen at hq95; omega
              refine c_region ?_
              refine l_val (v := .int .i64 (310)) rfl rfl rfl (e_move) ?_
              refine l_val (v := .bool true) rfl rfl rfl (e_neq (a := (310 : Int)) (b := (0 : Int)) rfl rfl) ?_
              refine l_val (v := .bool true) rfl rfl rfl (e_move) ?_
              refine g_val (v := .int .i64 (310)) rfl rfl rfl rfl rfl (e_move) ?_
              refine g_val (v := .bool false) rfl rfl rfl rfl rfl (e_neq (a := (310 : Int)) (b := (310 : Int)) rfl rfl) ?_
              refine l_val (v := .bool false) rfl rfl rfl (e_pick_t rfl) ?_
              refine l_val (v := .bool false) rfl rfl rfl (e_move) ?_
              refine g_val (v := .agg #[Nx (C.epoch), Nx (C.next), .string (C.state), .slice pn (C.recs).length cn]) rfl rfl rfl rfl rfl (e_load tf101 (cs := [Nx (C.epoch), Nx (C.next), .string (C.state), .slice pn (C.recs).length cn]) rfl (k_pt 3 (cs := #[Nx (C.epoch), Nx (C.next), .string (C.state), .slice pn (C.recs).length cn]) (vs := [Nx (C.epoch), Nx (C.next), .string (C.state), .slice pn (C.recs).length cn]) rfl rfl) rfl) ?_
              refine g_val (v := .pointer (some ⟨Jn, 0, none⟩)) rfl rfl rfl rfl rfl (e_move) ?_
              refine g_call rfl rfl rfl rfl rfl (cl_value (fst := []) (cap := []) (vs := [.agg #[Nx (C.epoch), Nx (C.next), .string (C.state), .slice pn (C.recs).length cn], .pointer (some ⟨Jn, 0, none⟩)]) (all := [.agg #[Nx (C.epoch), Nx (C.next), .string (C.state), .slice pn (C.recs).length cn], .pointer (some ⟨Jn, 0, none⟩)]) tf115 rfl rfl rfl) ?_
              intro w hw
              obtain ⟨β1, sb, kn, hw1, back⟩ := St.frame_all hw
              refine (is_ok β1 w hw1 C pn cn (by omega) (by omega) (kn _ (Knows.of_res 5 rfl (Elems.mono _ _ _) fun _ h => row_stre h)) Jn b1 I true (kn _ (Knows.of_res 0 rfl (JF.mono _ _ _ _) fun _ h => jour_jf h)) (by have := hI.st; omega) (by have := hI.wf.next; have := hI.nN; omega) (fun b hb => by have := hI.rs b hb; omega)).mono ?_
              rintro e w' ⟨rfl, hw'⟩
              refine ⟨_, rfl, _, back _ _ hw', ?_⟩
              clear hw hw1 hw' back kn sb
              refine g_val (v := .bool (decide (¬ (isP C I)))) rfl rfl rfl rfl rfl (e_not_p (p := isP C I) rfl) ?_
              refine l_val (v := .bool (decide (¬ (isP C I)))) rfl rfl rfl (e_pick_f rfl) ?_
              refine l_nil ?_
              refine f_then ?_
              refine c_if (¬ (isP C I)) rfl (fun hc97 => ?_) (fun hc97 => ?_)
              ·
                exact absurd hc97 (Decidable.not_not.2 hC)
              ·
                refine c_skip ?_
                refine f_then ?_
                refine c_seq ?_
                refine c_region ?_
                refine l_val (v := .int .i64 (310)) rfl rfl rfl (e_move) ?_
                refine l_val (v := .bool true) rfl rfl rfl (e_eql (a := (310 : Int)) (b := (310 : Int)) rfl rfl) ?_
                refine l_nil ?_
                refine f_then ?_
                refine c_yes rfl ?_
                refine c_seq ?_
                refine c_region ?_
                refine l_val (v := .agg #[Nx (C.epoch), Nx (C.next), .string (C.state), .slice pn (C.recs).length cn]) rfl rfl rfl (e_load tf101 (cs := [Nx (C.epoch), Nx (C.next), .string (C.state), .slice pn (C.recs).length cn]) rfl (k_pt 3 (cs := #[Nx (C.epoch), Nx (C.next), .string (C.state), .slice pn (C.recs).length cn]) (vs := [Nx (C.epoch), Nx (C.next), .string (C.state), .slice pn (C.recs).length cn]) rfl rfl) rfl) ?_
                refine l_val (v := .agg #[Bx (x10.kind), Bx (x10.power), .slice a18 (x10.body.length) (c19)]) rfl rfl rfl (e_load tf87 (cs := [Bx (x10.kind), Bx (x10.power), .slice a18 (x10.body.length) (c19)]) rfl (k_pt 2 (cs := #[Bx (x10.kind), Bx (x10.power), .slice a18 (x10.body.length) (c19)]) (vs := [Bx (x10.kind), Bx (x10.power), .slice a18 (x10.body.length) (c19)]) rfl rfl) rfl) ?_
                refine l_call rfl rfl rfl (cl_value (fst := []) (cap := []) (vs := [.agg #[Nx (C.epoch), Nx (C.next), .string (C.state), .slice pn (C.recs).length cn], .agg #[Bx (x10.kind), Bx (x10.power), .slice a18 (x10.body.length) (c19)]]) (all := [.agg #[Nx (C.epoch), Nx (C.next), .string (C.state), .slice pn (C.recs).length cn], .agg #[Bx (x10.kind), Bx (x10.power), .slice a18 (x10.body.length) (c19)]]) tf114 rfl rfl rfl) ?_
                intro w hw
                obtain ⟨β1, sb, kn, hw1, back⟩ := St.frame_all hw
                refine (with_2 β1 w hw1 C pn cn (by omega) (by omega) (kn _ (Knows.of_res 5 rfl (Elems.mono _ _ _) fun _ h => row_stre h)) (by first | omega | (simp only []; omega)) x10 a18 c19 (by omega) (by omega) (Elems.mono _ _ _ _ _ sb he22) (by omega)).mono ?_
                rintro e w' ⟨rfl, hw'⟩
                refine ⟨_, rfl, _, back _ _ hw', ?_⟩
                clear hw hw1 hw' back kn sb
                refine l_mu rfl rfl (m_store 4 tf101 (b := b4) (o := 0) (T := 27) (cs := #[y0, y1, y2, y3]) (cs' := #[Nx (C.epoch + 1), Nx (C.next), .string (str (x10.body.take 300)), .slice none 0 0]) (v := .agg #[Nx (C.epoch + 1), Nx (C.next), .string (str (x10.body.take 300)), .slice none 0 0]) rfl rfl rfl rfl rfl rfl rfl) ?_
                refine l_nil ?_
                refine f_then ?_
                refine c_seq ?_
                refine c_seq ?_
                refine c_region ?_
                refine l_val (v := .pointer (some ⟨Jn, 0, none⟩)) rfl rfl rfl (e_move) ?_
                refine l_call rfl rfl rfl (cl_value (fst := []) (cap := []) (vs := [.pointer (some ⟨Jn, 0, none⟩), .slice none 0 0]) (all := [.pointer (some ⟨Jn, 0, none⟩), .slice none 0 0]) tf102 rfl rfl rfl) ?_
                intro w hw
                replace hw := hw.perm (L' := _ :: _ :: _ :: _ :: _ :: _ :: []) (by exact ((((((perm_front 5 rfl).trans (perm_front 5 rfl)).trans (perm_front 5 rfl)).trans (perm_front 5 rfl)).trans (perm_front 5 rfl)).trans (perm_front 5 rfl)))
                obtain ⟨β1, sb, kn, hw1, back⟩ := St.frame (L := [_]) (M := _ :: _ :: _ :: _ :: _ :: []) hw
                refine (append_down β1 w Jn b1 (ckS K (I.epoch + 1) I.next (x10.body.take 300)) I [] (show ([] : Bs).length ≤ 65536 by simp) _ (Sl.nil U8R _) hw1).mono ?_
                rintro e w' ⟨rfl, hw'⟩
                refine ⟨_, rfl, _, back _ _ hw', ?_⟩
                clear hw hw1 hw' back kn sb
                refine l_val (v := .tuple #[.int .i64 (0), .int .i64 (310)]) rfl rfl rfl (e_move) ?_
                refine l_val (v := .int .i64 (0)) rfl rfl rfl (e_extract (vs := #[.int .i64 (0), .int .i64 (310)]) rfl rfl) ?_
                refine l_val (v := .int .i64 (310)) rfl rfl rfl (e_extract (vs := #[.int .i64 (0), .int .i64 (310)]) rfl rfl) ?_
                refine l_val (v := .int .i64 (0)) rfl rfl rfl (e_assign) ?_
                refine l_val (v := .int .i64 (310)) rfl rfl rfl (e_assign) ?_
                refine l_nil ?_
                refine f_then ?_
                refine c_seq ?_
                refine c_region ?_
                refine l_val (v := .int .i64 (310)) rfl rfl rfl (e_move) ?_
                refine l_val (v := .bool false) rfl rfl rfl (e_neq (a := (310 : Int)) (b := (310 : Int)) rfl rfl) ?_
                refine l_val (v := .bool false) rfl rfl rfl (e_move) ?_
                refine g_val (v := .pointer (some ⟨Jn, 0, none⟩)) rfl rfl rfl rfl rfl (e_move) ?_
                refine g_call rfl rfl rfl rfl rfl (cl_value (fst := []) (cap := []) (vs := [.pointer (some ⟨Jn, 0, none⟩), .slice none 0 0]) (all := [.pointer (some ⟨Jn, 0, none⟩), .slice none 0 0]) tf103 rfl rfl rfl) ?_
                intro w hw
                replace hw := hw.perm (L' := _ :: _ :: _ :: _ :: _ :: _ :: []) (by exact ((((((perm_front 5 rfl).trans (perm_front 5 rfl)).trans (perm_front 5 rfl)).trans (perm_front 5 rfl)).trans (perm_front 5 rfl)).trans (perm_front 5 rfl)))
                obtain ⟨β1, sb, kn, hw1, back⟩ := St.frame (L := [_]) (M := _ :: _ :: _ :: _ :: _ :: []) hw
                refine (checkp_down β1 w Jn b1 (ckS K (I.epoch + 1) I.next (x10.body.take 300)) I [] (show ([] : Bs).length ≤ 65536 by simp) _ (Sl.nil U8R _) hw1).mono ?_
                rintro e w' ⟨rfl, hw'⟩
                refine ⟨_, rfl, _, back _ _ hw', ?_⟩
                clear hw hw1 hw' back kn sb
                refine g_val (v := .bool false) rfl rfl rfl rfl rfl (e_neq (a := (310 : Int)) (b := (310 : Int)) rfl rfl) ?_
                refine l_val (v := .bool false) rfl rfl rfl (e_pick_f rfl) ?_
                refine l_nil ?_
                refine f_then ?_
                refine c_no rfl ?_
                refine c_skip ?_
                refine f_then ?_
                refine c_seq ?_
                refine c_seq ?_
                refine c_region ?_
                refine l_val (v := .pointer (some ⟨b1, 0, none⟩)) rfl rfl rfl (e_move) ?_
                refine l_call rfl rfl rfl (cl_value (fst := []) (cap := []) (vs := [.pointer (some ⟨b1, 0, none⟩)]) (all := [.pointer (some ⟨b1, 0, none⟩)]) tf107 rfl rfl rfl) ?_
                intro w hw
                replace hw := hw.perm (L' := _ :: _ :: _ :: _ :: _ :: _ :: []) (by exact ((((((perm_front 5 rfl).trans (perm_front 5 rfl)).trans (perm_front 5 rfl)).trans (perm_front 5 rfl)).trans (perm_front 4 rfl)).trans (perm_front 5 rfl)))
                obtain ⟨β1, sb, kn, hw1, back⟩ := St.frame (L := [_]) (M := _ :: _ :: _ :: _ :: _ :: []) hw
                refine (again_ok β1 w b1 (ckS K (I.epoch + 1) I.next (x10.body.take 300)) ((hI2.pow (p := -1) (by decide) (by decide)).okP (by omega)) I hI2.read hw1).mono ?_
                rintro e w' ⟨J98, rfl, hw'⟩
                refine ⟨_, rfl, _, back _ _ hw', ?_⟩
                clear hw hw1 hw' back kn sb
                refine l_val (v := .tuple #[.pointer (some ⟨J98, 0, none⟩), .bool true]) rfl rfl rfl (e_move) ?_
                refine l_val (v := .pointer (some ⟨J98, 0, none⟩)) rfl rfl rfl (e_extract (vs := #[.pointer (some ⟨J98, 0, none⟩), .bool true]) rfl rfl) ?_
                refine l_val (v := .bool true) rfl rfl rfl (e_extract (vs := #[.pointer (some ⟨J98, 0, none⟩), .bool true]) rfl rfl) ?_
                refine l_val (v := .pointer (some ⟨J98, 0, none⟩)) rfl rfl rfl (e_assign) ?_
                refine l_val (v := .bool true) rfl rfl rfl (e_assign) ?_
                refine l_nil ?_
                refine f_then ?_
                refine c_seq ?_
                refine c_region ?_
                refine l_val (v := .bool true) rfl rfl rfl (e_move) ?_
                refine l_val (v := .bool false) rfl rfl rfl (e_not (a := true) rfl) ?_
                refine l_val (v := .bool false) rfl rfl rfl (e_move) ?_
                refine g_val (v := .agg #[Nx (C.epoch), Nx (C.next), .string (C.state), .slice pn (C.recs).length cn]) rfl rfl rfl rfl rfl (e_load tf101 (cs := [Nx (C.epoch), Nx (C.next), .string (C.state), .slice pn (C.recs).length cn]) rfl (k_pt 4 (cs := #[Nx (C.epoch), Nx (C.next), .string (C.state), .slice pn (C.recs).length cn]) (vs := [Nx (C.epoch), Nx (C.next), .string (C.state), .slice pn (C.recs).length cn]) rfl rfl) rfl) ?_
                refine g_val (v := .pointer (some ⟨J98, 0, none⟩)) rfl rfl rfl rfl rfl (e_move) ?_
                refine g_call rfl rfl rfl rfl rfl (cl_value (fst := []) (cap := []) (vs := [.agg #[Nx (C.epoch), Nx (C.next), .string (C.state), .slice pn (C.recs).length cn], .pointer (some ⟨J98, 0, none⟩)]) (all := [.agg #[Nx (C.epoch), Nx (C.next), .string (C.state), .slice pn (C.recs).length cn], .pointer (some ⟨J98, 0, none⟩)]) tf115 rfl rfl rfl) ?_
                intro w hw
                obtain ⟨β1, sb, kn, hw1, back⟩ := St.frame_all hw
                refine (is_ok β1 w hw1 C pn cn (by omega) (by omega) (kn _ (Knows.of_res 6 rfl (Elems.mono _ _ _) fun _ h => row_stre h)) J98 b1 I false (kn _ (Knows.of_res 0 rfl (JF.mono _ _ _ _) fun _ h => jour_jf h)) (by have := hI.st; omega) (by have := hI.wf.next; have := hI.nN; omega) (fun b hb => by have := hI.rs b hb; omega)).mono ?_
                rintro e w' ⟨rfl, hw'⟩
                refine ⟨_, rfl, _, back _ _ hw', ?_⟩
                clear hw hw1 hw' back kn sb
                refine g_val (v := .bool (decide (¬ (isP C I)))) rfl rfl rfl rfl rfl (e_not_p (p := isP C I) rfl) ?_
                refine g_val (v := .bool (decide (¬ (isP C I)))) rfl rfl rfl rfl rfl (e_move) ?_
                refine l_split (s := 102) (p := ¬ (isP C I)) rfl (fun h => ?_) (fun h => ?_)
                exact absurd h (Decidable.not_not.2 hC)
                refine l_skip rfl rfl rfl rfl rfl rfl ?_
                refine l_skip rfl rfl rfl rfl rfl rfl ?_
                refine l_skip rfl rfl rfl rfl rfl rfl ?_
                refine l_skip rfl rfl rfl rfl rfl rfl ?_
                refine g_val (v := .bool false) rfl rfl rfl rfl rfl (e_pick_f rfl) ?_
                refine l_val (v := .bool false) rfl rfl rfl (e_pick_f rfl) ?_
                refine l_nil ?_
                refine f_then ?_
                refine c_no rfl ?_
                refine c_skip ?_
                refine f_then ?_
                refine c_seq ?_
                refine c_region ?_
                refine l_val (v := .agg #[Nx (C.epoch + 1), Nx (C.next), .string (str (x10.body.take 300)), .slice none 0 0]) rfl rfl rfl (e_load tf101 (cs := [Nx (C.epoch + 1), Nx (C.next), .string (str (x10.body.take 300)), .slice none 0 0]) rfl (k_pt 5 (cs := #[Nx (C.epoch + 1), Nx (C.next), .string (str (x10.body.take 300)), .slice none 0 0]) (vs := [Nx (C.epoch + 1), Nx (C.next), .string (str (x10.body.take 300)), .slice none 0 0]) rfl rfl) rfl) ?_
                refine l_val (v := .pointer (some ⟨J98, 0, none⟩)) rfl rfl rfl (e_move) ?_
                refine l_call rfl rfl rfl (cl_value (fst := []) (cap := []) (vs := [.agg #[Nx (C.epoch + 1), Nx (C.next), .string (str (x10.body.take 300)), .slice none 0 0], .pointer (some ⟨J98, 0, none⟩)]) (all := [.agg #[Nx (C.epoch + 1), Nx (C.next), .string (str (x10.body.take 300)), .slice none 0 0], .pointer (some ⟨J98, 0, none⟩)]) tf115 rfl rfl rfl) ?_
                intro w hw
                obtain ⟨β1, sb, kn, hw1, back⟩ := St.frame_all hw
                refine (is_ok β1 w hw1 (⟨C.epoch + 1, C.next, str (x10.body.take 300), []⟩ : KC) none 0 (by simp) (by omega) (fun j x h => by simp at h) J98 b1 I false (kn _ (Knows.of_res 0 rfl (JF.mono _ _ _ _) fun _ h => jour_jf h)) (by have := hI.st; omega) (by have := hI.wf.next; have := hI.nN; omega) (fun b hb => by have := hI.rs b hb; omega)).mono ?_
                rintro e w' ⟨rfl, hw'⟩
                refine ⟨_, rfl, _, back _ _ hw', ?_⟩
                clear hw hw1 hw' back kn sb
                refine l_nil ?_
                refine f_then ?_
                refine c_if (isP (⟨C.epoch + 1, C.next, str (x10.body.take 300), []⟩ : KC) I) rfl (fun hc99 => ?_) (fun hc99 => ?_)
                ·
                  exact absurd hc99 hN2
                ·
                  refine c_skip ?_
                  refine f_block ?_
                  refine f_block ?_
                  refine f_then ?_
                  refine c_region ?_
                  refine l_val (v := Nx (k + 1)) rfl rfl rfl (e_add (a := ((k : Nat) : Int)) (b := (1 : Int)) rfl rfl (i64n (by omega) (by omega))) ?_
                  refine l_val (v := Nx (k + 1)) rfl rfl rfl (e_move) ?_
                  refine l_nil ?_
                  refine f_mask (L' := [jourR J98 b1 I false, storeR b1 (cutS (powS (ckS K (I.epoch + 1) I.next (x10.body.take 300))) I.epoch I.size), pt b3 (.cells #[Nx (C.epoch), Nx (C.next), .string (C.state), .slice pn (C.recs).length cn] 27), pt b4 (.cells #[Nx (C.epoch + 1), Nx (C.next), .string (str (x10.body.take 300)), .slice none 0 0] 27), row (.slice pn (C.recs).length cn) 9 1 ((C.recs).length) (C.recs.map (fun s : ByteArray => Value.string s))]) [true, true, false, false, true, true, true] rfl ?_
                  exact f_cut ⟨(k + 1, (cutS (powS (ckS K (I.epoch + 1) I.next (x10.body.take 300))) I.epoch I.size), I, J98, C, pn, cn, (Nx (C.epoch + 1)), (Nx (C.next)), (.string (str (x10.body.take 300))), (.slice none 0 0)), ⟨⟨rfl, rfl, rfl, rfl, rfl, rfl, rfl⟩, rfl, ⟨by omega, ((hI2.pow (p := -1) (by decide) (by decide)).cut (show (-1 : Int) ≠ 0 by decide)).mono (by omega), hC⟩⟩, (show zs5.length - (k + 1) < zs5.length - k from by omega)⟩
            ·
              have hC2 := isP_ck (b := (x10.body.take 300)) hC
              have hN2 := isP_old_ck (b := (x10.body.take 300)) hC
              refine c_region ?_
              refine l_val (v := .pointer (some ⟨Jn, 0, none⟩)) rfl rfl rfl (e_move) ?_
              refine l_val (v := .agg #[Bx (x10.kind), Bx (x10.power), .slice a18 (x10.body.length) (c19)]) rfl rfl rfl (e_load tf87 (cs := [Bx (x10.kind), Bx (x10.power), .slice a18 (x10.body.length) (c19)]) rfl (k_pt 0 (cs := #[Bx (x10.kind), Bx (x10.power), .slice a18 (x10.body.length) (c19)]) (vs := [Bx (x10.kind), Bx (x10.power), .slice a18 (x10.body.length) (c19)]) rfl rfl) rfl) ?_
              refine l_call rfl rfl rfl (cl_value (fst := []) (cap := []) (vs := [.pointer (some ⟨Jn, 0, none⟩), .agg #[Bx (x10.kind), Bx (x10.power), .slice a18 (x10.body.length) (c19)]]) (all := [.pointer (some ⟨Jn, 0, none⟩), .agg #[Bx (x10.kind), Bx (x10.power), .slice a18 (x10.body.length) (c19)]]) tf113 rfl rfl rfl) ?_
              intro w hw
              replace hw := hw.perm (L' := _ :: _ :: _ :: _ :: _ :: _ :: []) (by exact ((((((perm_front 5 rfl).trans (perm_front 5 rfl)).trans (perm_front 5 rfl)).trans (perm_front 3 rfl)).trans (perm_front 5 rfl)).trans (perm_front 5 rfl)))
              obtain ⟨β1, sb, kn, hw1, back⟩ := St.frame (L := [_, _]) (M := _ :: _ :: _ :: _ :: []) hw
              refine (does_ck_no β1 w Jn b1 K I hfit (by omega) (by omega) (by omega) (by omega) x10 a18 c19 (by omega) (by omega) (Elems.mono _ _ _ _ _ sb he22) (by omega) hc hw1).mono ?_
              rintro e w' ⟨rfl, hw'⟩
              refine ⟨_, rfl, _, back _ _ hw', ?_⟩
              clear hw hw1 hw' back kn sb
              refine l_val (v := .int .i64 (310)) rfl rfl rfl (e_assign) ?_
              refine l_nil ?_
              refine f_then ?_
              refine c_seq ?_
              refine c_seq ?_
              refine c_region ?_
              refine l_val (v := .int .i64 (310)) rfl rfl rfl (e_move) ?_
              refine l_val (v := .bool false) rfl rfl rfl (e_eql (a := (310 : Int)) (b := (0 : Int)) rfl rfl) ?_
              refine l_nil ?_
              refine f_then ?_
              refine c_no rfl ?_
              refine c_skip ?_
              refine f_then ?_
              refine c_seq ?_
              refine c_seq ?_
              refine c_rowcap 5 rfl (fun hq100 hq101 => ?_)
              have hq102 : cn ≤ 9223372036854775807 := by unfold maxLen at hq101; omega
              refine c_region ?_
              refine l_val (v := .int .i64 (310)) rfl rfl rfl (e_move) ?_
              refine l_val (v := .bool true) rfl rfl rfl (e_neq (a := (310 : Int)) (b := (0 : Int)) rfl rfl) ?_
              refine l_val (v := .bool true) rfl rfl rfl (e_move) ?_
              refine g_val (v := .int .i64 (310)) rfl rfl rfl rfl rfl (e_move) ?_
              refine g_val (v := .bool false) rfl rfl rfl rfl rfl (e_neq (a := (310 : Int)) (b := (310 : Int)) rfl rfl) ?_
              refine l_val (v := .bool false) rfl rfl rfl (e_pick_t rfl) ?_
              refine l_val (v := .bool false) rfl rfl rfl (e_move) ?_
              refine g_val (v := .agg #[Nx (C.epoch), Nx (C.next), .string (C.state), .slice pn (C.recs).length cn]) rfl rfl rfl rfl rfl (e_load tf101 (cs := [Nx (C.epoch), Nx (C.next), .string (C.state), .slice pn (C.recs).length cn]) rfl (k_pt 3 (cs := #[Nx (C.epoch), Nx (C.next), .string (C.state), .slice pn (C.recs).length cn]) (vs := [Nx (C.epoch), Nx (C.next), .string (C.state), .slice pn (C.recs).length cn]) rfl rfl) rfl) ?_
              refine g_val (v := .pointer (some ⟨Jn, 0, none⟩)) rfl rfl rfl rfl rfl (e_move) ?_
              refine g_call rfl rfl rfl rfl rfl (cl_value (fst := []) (cap := []) (vs := [.agg #[Nx (C.epoch), Nx (C.next), .string (C.state), .slice pn (C.recs).length cn], .pointer (some ⟨Jn, 0, none⟩)]) (all := [.agg #[Nx (C.epoch), Nx (C.next), .string (C.state), .slice pn (C.recs).length cn], .pointer (some ⟨Jn, 0, none⟩)]) tf115 rfl rfl rfl) ?_
              intro w hw
              obtain ⟨β1, sb, kn, hw1, back⟩ := St.frame_all hw
              refine (is_ok β1 w hw1 C pn cn (by omega) (by omega) (kn _ (Knows.of_res 5 rfl (Elems.mono _ _ _) fun _ h => row_stre h)) Jn b1 I true (kn _ (Knows.of_res 0 rfl (JF.mono _ _ _ _) fun _ h => jour_jf h)) (by have := hI.st; omega) (by have := hI.wf.next; have := hI.nN; omega) (fun b hb => by have := hI.rs b hb; omega)).mono ?_
              rintro e w' ⟨rfl, hw'⟩
              refine ⟨_, rfl, _, back _ _ hw', ?_⟩
              clear hw hw1 hw' back kn sb
              refine g_val (v := .bool (decide (¬ (isP C I)))) rfl rfl rfl rfl rfl (e_not_p (p := isP C I) rfl) ?_
              refine l_val (v := .bool (decide (¬ (isP C I)))) rfl rfl rfl (e_pick_f rfl) ?_
              refine l_nil ?_
              refine f_then ?_
              refine c_if (¬ (isP C I)) rfl (fun hc103 => ?_) (fun hc103 => ?_)
              ·
                exact absurd hc103 (Decidable.not_not.2 hC)
              ·
                refine c_skip ?_
                refine f_then ?_
                refine c_seq ?_
                refine c_region ?_
                refine l_val (v := .int .i64 (310)) rfl rfl rfl (e_move) ?_
                refine l_val (v := .bool true) rfl rfl rfl (e_eql (a := (310 : Int)) (b := (310 : Int)) rfl rfl) ?_
                refine l_nil ?_
                refine f_then ?_
                refine c_yes rfl ?_
                refine c_seq ?_
                refine c_region ?_
                refine l_val (v := .agg #[Nx (C.epoch), Nx (C.next), .string (C.state), .slice pn (C.recs).length cn]) rfl rfl rfl (e_load tf101 (cs := [Nx (C.epoch), Nx (C.next), .string (C.state), .slice pn (C.recs).length cn]) rfl (k_pt 3 (cs := #[Nx (C.epoch), Nx (C.next), .string (C.state), .slice pn (C.recs).length cn]) (vs := [Nx (C.epoch), Nx (C.next), .string (C.state), .slice pn (C.recs).length cn]) rfl rfl) rfl) ?_
                refine l_val (v := .agg #[Bx (x10.kind), Bx (x10.power), .slice a18 (x10.body.length) (c19)]) rfl rfl rfl (e_load tf87 (cs := [Bx (x10.kind), Bx (x10.power), .slice a18 (x10.body.length) (c19)]) rfl (k_pt 2 (cs := #[Bx (x10.kind), Bx (x10.power), .slice a18 (x10.body.length) (c19)]) (vs := [Bx (x10.kind), Bx (x10.power), .slice a18 (x10.body.length) (c19)]) rfl rfl) rfl) ?_
                refine l_call rfl rfl rfl (cl_value (fst := []) (cap := []) (vs := [.agg #[Nx (C.epoch), Nx (C.next), .string (C.state), .slice pn (C.recs).length cn], .agg #[Bx (x10.kind), Bx (x10.power), .slice a18 (x10.body.length) (c19)]]) (all := [.agg #[Nx (C.epoch), Nx (C.next), .string (C.state), .slice pn (C.recs).length cn], .agg #[Bx (x10.kind), Bx (x10.power), .slice a18 (x10.body.length) (c19)]]) tf114 rfl rfl rfl) ?_
                intro w hw
                obtain ⟨β1, sb, kn, hw1, back⟩ := St.frame_all hw
                refine (with_2 β1 w hw1 C pn cn (by omega) (by omega) (kn _ (Knows.of_res 5 rfl (Elems.mono _ _ _) fun _ h => row_stre h)) (by first | omega | (simp only []; omega)) x10 a18 c19 (by omega) (by omega) (Elems.mono _ _ _ _ _ sb he22) (by omega)).mono ?_
                rintro e w' ⟨rfl, hw'⟩
                refine ⟨_, rfl, _, back _ _ hw', ?_⟩
                clear hw hw1 hw' back kn sb
                refine l_mu rfl rfl (m_store 4 tf101 (b := b4) (o := 0) (T := 27) (cs := #[y0, y1, y2, y3]) (cs' := #[Nx (C.epoch + 1), Nx (C.next), .string (str (x10.body.take 300)), .slice none 0 0]) (v := .agg #[Nx (C.epoch + 1), Nx (C.next), .string (str (x10.body.take 300)), .slice none 0 0]) rfl rfl rfl rfl rfl rfl rfl) ?_
                refine l_nil ?_
                refine f_then ?_
                refine c_seq ?_
                refine c_seq ?_
                refine c_region ?_
                refine l_val (v := .pointer (some ⟨Jn, 0, none⟩)) rfl rfl rfl (e_move) ?_
                refine l_call rfl rfl rfl (cl_value (fst := []) (cap := []) (vs := [.pointer (some ⟨Jn, 0, none⟩), .slice none 0 0]) (all := [.pointer (some ⟨Jn, 0, none⟩), .slice none 0 0]) tf102 rfl rfl rfl) ?_
                intro w hw
                replace hw := hw.perm (L' := _ :: _ :: _ :: _ :: _ :: _ :: []) (by exact ((((((perm_front 5 rfl).trans (perm_front 5 rfl)).trans (perm_front 5 rfl)).trans (perm_front 5 rfl)).trans (perm_front 5 rfl)).trans (perm_front 5 rfl)))
                obtain ⟨β1, sb, kn, hw1, back⟩ := St.frame (L := [_]) (M := _ :: _ :: _ :: _ :: _ :: []) hw
                refine (append_down β1 w Jn b1 (ckS K (I.epoch + 1) I.next (x10.body.take 300)) I [] (show ([] : Bs).length ≤ 65536 by simp) _ (Sl.nil U8R _) hw1).mono ?_
                rintro e w' ⟨rfl, hw'⟩
                refine ⟨_, rfl, _, back _ _ hw', ?_⟩
                clear hw hw1 hw' back kn sb
                refine l_val (v := .tuple #[.int .i64 (0), .int .i64 (310)]) rfl rfl rfl (e_move) ?_
                refine l_val (v := .int .i64 (0)) rfl rfl rfl (e_extract (vs := #[.int .i64 (0), .int .i64 (310)]) rfl rfl) ?_
                refine l_val (v := .int .i64 (310)) rfl rfl rfl (e_extract (vs := #[.int .i64 (0), .int .i64 (310)]) rfl rfl) ?_
                refine l_val (v := .int .i64 (0)) rfl rfl rfl (e_assign) ?_
                refine l_val (v := .int .i64 (310)) rfl rfl rfl (e_assign) ?_
                refine l_nil ?_
                refine f_then ?_
                refine c_seq ?_
                refine c_region ?_
                refine l_val (v := .int .i64 (310)) rfl rfl rfl (e_move) ?_
                refine l_val (v := .bool false) rfl rfl rfl (e_neq (a := (310 : Int)) (b := (310 : Int)) rfl rfl) ?_
                refine l_val (v := .bool false) rfl rfl rfl (e_move) ?_
                refine g_val (v := .pointer (some ⟨Jn, 0, none⟩)) rfl rfl rfl rfl rfl (e_move) ?_
                refine g_call rfl rfl rfl rfl rfl (cl_value (fst := []) (cap := []) (vs := [.pointer (some ⟨Jn, 0, none⟩), .slice none 0 0]) (all := [.pointer (some ⟨Jn, 0, none⟩), .slice none 0 0]) tf103 rfl rfl rfl) ?_
                intro w hw
                replace hw := hw.perm (L' := _ :: _ :: _ :: _ :: _ :: _ :: []) (by exact ((((((perm_front 5 rfl).trans (perm_front 5 rfl)).trans (perm_front 5 rfl)).trans (perm_front 5 rfl)).trans (perm_front 5 rfl)).trans (perm_front 5 rfl)))
                obtain ⟨β1, sb, kn, hw1, back⟩ := St.frame (L := [_]) (M := _ :: _ :: _ :: _ :: _ :: []) hw
                refine (checkp_down β1 w Jn b1 (ckS K (I.epoch + 1) I.next (x10.body.take 300)) I [] (show ([] : Bs).length ≤ 65536 by simp) _ (Sl.nil U8R _) hw1).mono ?_
                rintro e w' ⟨rfl, hw'⟩
                refine ⟨_, rfl, _, back _ _ hw', ?_⟩
                clear hw hw1 hw' back kn sb
                refine g_val (v := .bool false) rfl rfl rfl rfl rfl (e_neq (a := (310 : Int)) (b := (310 : Int)) rfl rfl) ?_
                refine l_val (v := .bool false) rfl rfl rfl (e_pick_f rfl) ?_
                refine l_nil ?_
                refine f_then ?_
                refine c_no rfl ?_
                refine c_skip ?_
                refine f_then ?_
                refine c_seq ?_
                refine c_seq ?_
                refine c_region ?_
                refine l_val (v := .pointer (some ⟨b1, 0, none⟩)) rfl rfl rfl (e_move) ?_
                refine l_call rfl rfl rfl (cl_value (fst := []) (cap := []) (vs := [.pointer (some ⟨b1, 0, none⟩)]) (all := [.pointer (some ⟨b1, 0, none⟩)]) tf107 rfl rfl rfl) ?_
                intro w hw
                replace hw := hw.perm (L' := _ :: _ :: _ :: _ :: _ :: _ :: []) (by exact ((((((perm_front 5 rfl).trans (perm_front 5 rfl)).trans (perm_front 5 rfl)).trans (perm_front 5 rfl)).trans (perm_front 4 rfl)).trans (perm_front 5 rfl)))
                obtain ⟨β1, sb, kn, hw1, back⟩ := St.frame (L := [_]) (M := _ :: _ :: _ :: _ :: _ :: []) hw
                refine (again_ok β1 w b1 (ckS K (I.epoch + 1) I.next (x10.body.take 300)) ((hI2.pow (p := -1) (by decide) (by decide)).okP (by omega)) (ckI I (x10.body.take 300)) hI2.read hw1).mono ?_
                rintro e w' ⟨J104, rfl, hw'⟩
                refine ⟨_, rfl, _, back _ _ hw', ?_⟩
                clear hw hw1 hw' back kn sb
                refine l_val (v := .tuple #[.pointer (some ⟨J104, 0, none⟩), .bool true]) rfl rfl rfl (e_move) ?_
                refine l_val (v := .pointer (some ⟨J104, 0, none⟩)) rfl rfl rfl (e_extract (vs := #[.pointer (some ⟨J104, 0, none⟩), .bool true]) rfl rfl) ?_
                refine l_val (v := .bool true) rfl rfl rfl (e_extract (vs := #[.pointer (some ⟨J104, 0, none⟩), .bool true]) rfl rfl) ?_
                refine l_val (v := .pointer (some ⟨J104, 0, none⟩)) rfl rfl rfl (e_assign) ?_
                refine l_val (v := .bool true) rfl rfl rfl (e_assign) ?_
                refine l_nil ?_
                refine f_then ?_
                refine c_seq ?_
                refine c_region ?_
                refine l_val (v := .bool true) rfl rfl rfl (e_move) ?_
                refine l_val (v := .bool false) rfl rfl rfl (e_not (a := true) rfl) ?_
                refine l_val (v := .bool false) rfl rfl rfl (e_move) ?_
                refine g_val (v := .agg #[Nx (C.epoch), Nx (C.next), .string (C.state), .slice pn (C.recs).length cn]) rfl rfl rfl rfl rfl (e_load tf101 (cs := [Nx (C.epoch), Nx (C.next), .string (C.state), .slice pn (C.recs).length cn]) rfl (k_pt 4 (cs := #[Nx (C.epoch), Nx (C.next), .string (C.state), .slice pn (C.recs).length cn]) (vs := [Nx (C.epoch), Nx (C.next), .string (C.state), .slice pn (C.recs).length cn]) rfl rfl) rfl) ?_
                refine g_val (v := .pointer (some ⟨J104, 0, none⟩)) rfl rfl rfl rfl rfl (e_move) ?_
                refine g_call rfl rfl rfl rfl rfl (cl_value (fst := []) (cap := []) (vs := [.agg #[Nx (C.epoch), Nx (C.next), .string (C.state), .slice pn (C.recs).length cn], .pointer (some ⟨J104, 0, none⟩)]) (all := [.agg #[Nx (C.epoch), Nx (C.next), .string (C.state), .slice pn (C.recs).length cn], .pointer (some ⟨J104, 0, none⟩)]) tf115 rfl rfl rfl) ?_
                intro w hw
                obtain ⟨β1, sb, kn, hw1, back⟩ := St.frame_all hw
                refine (is_ok β1 w hw1 C pn cn (by omega) (by omega) (kn _ (Knows.of_res 6 rfl (Elems.mono _ _ _) fun _ h => row_stre h)) J104 b1 (ckI I (x10.body.take 300)) false (kn _ (Knows.of_res 0 rfl (JF.mono _ _ _ _) fun _ h => jour_jf h)) (by have := hI2.st; omega) (by have := hI2.wf.next; have := hI2.nN; omega) (fun b hb => by have := hI2.rs b hb; omega)).mono ?_
                rintro e w' ⟨rfl, hw'⟩
                refine ⟨_, rfl, _, back _ _ hw', ?_⟩
                clear hw hw1 hw' back kn sb
                refine g_val (v := .bool (decide (¬ (isP C (ckI I (x10.body.take 300)))))) rfl rfl rfl rfl rfl (e_not_p (p := isP C (ckI I (x10.body.take 300))) rfl) ?_
                refine g_val (v := .bool (decide (¬ (isP C (ckI I (x10.body.take 300)))))) rfl rfl rfl rfl rfl (e_move) ?_
                refine l_split (s := 102) (p := ¬ (isP C (ckI I (x10.body.take 300)))) rfl (fun h => ?_) (fun h => ?_)
                rotate_left; exact absurd hN2 h
                refine g_val (v := .agg #[Nx (C.epoch + 1), Nx (C.next), .string (str (x10.body.take 300)), .slice none 0 0]) rfl rfl rfl rfl rfl (e_load tf101 (cs := [Nx (C.epoch + 1), Nx (C.next), .string (str (x10.body.take 300)), .slice none 0 0]) rfl (k_pt 5 (cs := #[Nx (C.epoch + 1), Nx (C.next), .string (str (x10.body.take 300)), .slice none 0 0]) (vs := [Nx (C.epoch + 1), Nx (C.next), .string (str (x10.body.take 300)), .slice none 0 0]) rfl rfl) rfl) ?_
                refine g_val (v := .pointer (some ⟨J104, 0, none⟩)) rfl rfl rfl rfl rfl (e_move) ?_
                refine g_call rfl rfl rfl rfl rfl (cl_value (fst := []) (cap := []) (vs := [.agg #[Nx (C.epoch + 1), Nx (C.next), .string (str (x10.body.take 300)), .slice none 0 0], .pointer (some ⟨J104, 0, none⟩)]) (all := [.agg #[Nx (C.epoch + 1), Nx (C.next), .string (str (x10.body.take 300)), .slice none 0 0], .pointer (some ⟨J104, 0, none⟩)]) tf115 rfl rfl rfl) ?_
                intro w hw
                obtain ⟨β1, sb, kn, hw1, back⟩ := St.frame_all hw
                refine (is_ok β1 w hw1 (⟨C.epoch + 1, C.next, str (x10.body.take 300), []⟩ : KC) none 0 (by simp) (by omega) (fun j x h => by simp at h) J104 b1 (ckI I (x10.body.take 300)) false (kn _ (Knows.of_res 0 rfl (JF.mono _ _ _ _) fun _ h => jour_jf h)) (by have := hI2.st; omega) (by have := hI2.wf.next; have := hI2.nN; omega) (fun b hb => by have := hI2.rs b hb; omega)).mono ?_
                rintro e w' ⟨rfl, hw'⟩
                refine ⟨_, rfl, _, back _ _ hw', ?_⟩
                clear hw hw1 hw' back kn sb
                refine g_val (v := .bool (decide (¬ (isP (⟨C.epoch + 1, C.next, str (x10.body.take 300), []⟩ : KC) (ckI I (x10.body.take 300)))))) rfl rfl rfl rfl rfl (e_not_p (p := isP (⟨C.epoch + 1, C.next, str (x10.body.take 300), []⟩ : KC) (ckI I (x10.body.take 300))) rfl) ?_
                refine g_val (v := .bool (decide (¬ (isP (⟨C.epoch + 1, C.next, str (x10.body.take 300), []⟩ : KC) (ckI I (x10.body.take 300)))))) rfl rfl rfl rfl rfl (e_pick_t rfl) ?_
                refine l_val (v := .bool (decide (¬ (isP (⟨C.epoch + 1, C.next, str (x10.body.take 300), []⟩ : KC) (ckI I (x10.body.take 300)))))) rfl rfl rfl (e_pick_f rfl) ?_
                refine l_nil ?_
                refine f_then ?_
                refine c_if (¬ (isP (⟨C.epoch + 1, C.next, str (x10.body.take 300), []⟩ : KC) (ckI I (x10.body.take 300)))) rfl (fun hc105 => ?_) (fun hc105 => ?_)
                ·
                  exact absurd hc105 (Decidable.not_not.2 hC2)
                ·
                  refine c_skip ?_
                  refine f_then ?_
                  refine c_seq ?_
                  refine c_region ?_
                  refine l_val (v := .agg #[Nx (C.epoch + 1), Nx (C.next), .string (str (x10.body.take 300)), .slice none 0 0]) rfl rfl rfl (e_load tf101 (cs := [Nx (C.epoch + 1), Nx (C.next), .string (str (x10.body.take 300)), .slice none 0 0]) rfl (k_pt 5 (cs := #[Nx (C.epoch + 1), Nx (C.next), .string (str (x10.body.take 300)), .slice none 0 0]) (vs := [Nx (C.epoch + 1), Nx (C.next), .string (str (x10.body.take 300)), .slice none 0 0]) rfl rfl) rfl) ?_
                  refine l_val (v := .pointer (some ⟨J104, 0, none⟩)) rfl rfl rfl (e_move) ?_
                  refine l_call rfl rfl rfl (cl_value (fst := []) (cap := []) (vs := [.agg #[Nx (C.epoch + 1), Nx (C.next), .string (str (x10.body.take 300)), .slice none 0 0], .pointer (some ⟨J104, 0, none⟩)]) (all := [.agg #[Nx (C.epoch + 1), Nx (C.next), .string (str (x10.body.take 300)), .slice none 0 0], .pointer (some ⟨J104, 0, none⟩)]) tf115 rfl rfl rfl) ?_
                  intro w hw
                  obtain ⟨β1, sb, kn, hw1, back⟩ := St.frame_all hw
                  refine (is_ok β1 w hw1 (⟨C.epoch + 1, C.next, str (x10.body.take 300), []⟩ : KC) none 0 (by simp) (by omega) (fun j x h => by simp at h) J104 b1 (ckI I (x10.body.take 300)) false (kn _ (Knows.of_res 0 rfl (JF.mono _ _ _ _) fun _ h => jour_jf h)) (by have := hI2.st; omega) (by have := hI2.wf.next; have := hI2.nN; omega) (fun b hb => by have := hI2.rs b hb; omega)).mono ?_
                  rintro e w' ⟨rfl, hw'⟩
                  refine ⟨_, rfl, _, back _ _ hw', ?_⟩
                  clear hw hw1 hw' back kn sb
                  refine l_nil ?_
                  refine f_then ?_
                  refine c_if (isP (⟨C.epoch + 1, C.next, str (x10.body.take 300), []⟩ : KC) (ckI I (x10.body.take 300))) rfl (fun hc106 => ?_) (fun hc106 => ?_)
                  ·
                    refine c_region ?_
                    refine l_val (v := .agg #[Nx (C.epoch + 1), Nx (C.next), .string (str (x10.body.take 300)), .slice none 0 0]) rfl rfl rfl (e_load tf101 (cs := [Nx (C.epoch + 1), Nx (C.next), .string (str (x10.body.take 300)), .slice none 0 0]) rfl (k_pt 5 (cs := #[Nx (C.epoch + 1), Nx (C.next), .string (str (x10.body.take 300)), .slice none 0 0]) (vs := [Nx (C.epoch + 1), Nx (C.next), .string (str (x10.body.take 300)), .slice none 0 0]) rfl rfl) rfl) ?_
                    refine l_mu rfl rfl (m_store 4 tf101 (b := b3) (o := 0) (T := 27) (cs := #[Nx (C.epoch), Nx (C.next), .string (C.state), .slice pn (C.recs).length cn]) (cs' := #[Nx (C.epoch + 1), Nx (C.next), .string (str (x10.body.take 300)), .slice none 0 0]) (v := .agg #[Nx (C.epoch + 1), Nx (C.next), .string (str (x10.body.take 300)), .slice none 0 0]) rfl rfl rfl rfl rfl rfl rfl) ?_
                    refine l_nil ?_
                    refine f_block ?_
                    refine f_block ?_
                    refine f_then ?_
                    refine c_region ?_
                    refine l_val (v := Nx (k + 1)) rfl rfl rfl (e_add (a := ((k : Nat) : Int)) (b := (1 : Int)) rfl rfl (i64n (by omega) (by omega))) ?_
                    refine l_val (v := Nx (k + 1)) rfl rfl rfl (e_move) ?_
                    refine l_nil ?_
                    refine f_emp (r := row (.slice none 0 0) 9 1 0 ([].map (fun s : ByteArray => Value.string s))) (row_nil _ _ _) ?_
                    refine f_perm (L' := [jourR J104 b1 (ckI I (x10.body.take 300)) false, storeR b1 (cutS (powS (ckS K (I.epoch + 1) I.next (x10.body.take 300))) (ckI I (x10.body.take 300)).epoch (ckI I (x10.body.take 300)).size), pt b3 (.cells #[Nx (C.epoch + 1), Nx (C.next), .string (str (x10.body.take 300)), .slice none 0 0] 27), pt b4 (.cells #[Nx (C.epoch + 1), Nx (C.next), .string (str (x10.body.take 300)), .slice none 0 0] 27), row (.slice none 0 0) 9 1 (0) ([].map (fun s : ByteArray => Value.string s)), jourR Jn b1 I true, pt b23 (.cells #[Bx (x10.kind), Bx (x10.power), .slice a18 (x10.body.length) (c19)] 47), row (.slice pn (C.recs).length cn) 9 1 ((C.recs).length) (C.recs.map (fun s : ByteArray => Value.string s))]) ((((((((perm_front 7 rfl).trans (perm_front 5 rfl)).trans (perm_front 5 rfl)).trans (perm_front 3 rfl)).trans (perm_front 7 rfl)).trans (perm_front 7 rfl)).trans (perm_front 7 rfl)).trans (perm_front 7 rfl)) ?_
                    refine f_mask (L' := [jourR J104 b1 (ckI I (x10.body.take 300)) false, storeR b1 (cutS (powS (ckS K (I.epoch + 1) I.next (x10.body.take 300))) (ckI I (x10.body.take 300)).epoch (ckI I (x10.body.take 300)).size), pt b3 (.cells #[Nx (C.epoch + 1), Nx (C.next), .string (str (x10.body.take 300)), .slice none 0 0] 27), pt b4 (.cells #[Nx (C.epoch + 1), Nx (C.next), .string (str (x10.body.take 300)), .slice none 0 0] 27), row (.slice none 0 0) 9 1 (0) ([].map (fun s : ByteArray => Value.string s))]) [true, true, true, true, true, false, false, false] rfl ?_
                    exact f_cut ⟨(k + 1, (cutS (powS (ckS K (I.epoch + 1) I.next (x10.body.take 300))) (ckI I (x10.body.take 300)).epoch (ckI I (x10.body.take 300)).size), (ckI I (x10.body.take 300)), J104, (⟨C.epoch + 1, C.next, str (x10.body.take 300), []⟩ : KC), none, 0, (Nx (C.epoch + 1)), (Nx (C.next)), (.string (str (x10.body.take 300))), (.slice none 0 0)), ⟨⟨rfl, rfl, rfl, rfl, rfl, rfl, rfl⟩, rfl, ⟨by omega, ((hI2.pow (p := -1) (by decide) (by decide)).cut (show (-1 : Int) ≠ 0 by decide)).mono (by omega), hC2⟩⟩, (show zs5.length - (k + 1) < zs5.length - k from by omega)⟩
                  ·
                    exact absurd hC2 hc106
        ·
          refine c_seq ?_
          refine c_region ?_
          refine l_val (v := .bool (decide (((x10.kind.toNat % 5 : Nat) : Int) = (3 : Int)))) rfl rfl rfl (e_eql (a := ((x10.kind.toNat % 5 : Nat) : Int)) (b := (3 : Int)) rfl rfl) ?_
          refine l_val (v := .bool (decide (((x10.kind.toNat % 5 : Nat) : Int) = (3 : Int)))) rfl rfl rfl (e_assign) ?_
          refine l_nil ?_
          refine f_then ?_
          refine c_if (((x10.kind.toNat % 5 : Nat) : Int) = (3 : Int)) rfl (fun hc107 => ?_) (fun hc107 => ?_)
          ·
            refine c_perm (L' := [storeR b1 K, pt b23 (.cells #[Bx (x10.kind), Bx (x10.power), .slice a18 (x10.body.length) (c19)] 47), jourR Jn b1 I false, pt b3 (.cells #[Nx (C.epoch), Nx (C.next), .string (C.state), .slice pn (C.recs).length cn] 27), pt b4 (.cells #[y0, y1, y2, y3] 27), row (.slice pn (C.recs).length cn) 9 1 ((C.recs).length) (C.recs.map (fun s : ByteArray => Value.string s))]) (by exact ((((((perm_front 5 rfl).trans (perm_front 5 rfl)).trans (perm_front 5 rfl)).trans (perm_front 4 rfl)).trans (perm_front 4 rfl)).trans (perm_front 5 rfl))) ?_
            refine c_openStore rfl (fun pH108 pA109 pB110 cH111 cA112 cB113 => ?_)
            refine c_rowcap 1 rfl (fun hcl114 hcm115 => ?_)
            refine c_rowcap 2 rfl (fun hcl116 hcm117 => ?_)
            refine c_rowcap 3 rfl (fun hcl118 hcm119 => ?_)
            refine c_region ?_
            refine l_val (v := .pointer (some ⟨b1, 0, none⟩)) rfl rfl rfl (e_move) ?_
            refine l_val (v := .agg #[Bx (x10.kind), Bx (x10.power), .slice a18 (x10.body.length) (c19)]) rfl rfl rfl (e_load tf87 (cs := [Bx (x10.kind), Bx (x10.power), .slice a18 (x10.body.length) (c19)]) rfl (k_pt 4 (cs := #[Bx (x10.kind), Bx (x10.power), .slice a18 (x10.body.length) (c19)]) (vs := [Bx (x10.kind), Bx (x10.power), .slice a18 (x10.body.length) (c19)]) rfl rfl) rfl) ?_
            refine l_call rfl rfl rfl (cl_value (fst := []) (cap := []) (vs := [.agg #[Bx (x10.kind), Bx (x10.power), .slice a18 (x10.body.length) (c19)]]) (all := [.agg #[Bx (x10.kind), Bx (x10.power), .slice a18 (x10.body.length) (c19)]]) tf110 rfl rfl rfl) ?_
            intro w hw
            obtain ⟨β1, sb, kn, hw1, back⟩ := St.frame_all hw
            refine (power_ok β1 w hw1 x10 a18 c19 (by omega) (by omega) (Elems.mono _ _ _ _ _ sb he22)).mono ?_
            rintro e w' ⟨rfl, hw'⟩
            refine ⟨_, rfl, _, back _ _ hw', ?_⟩
            clear hw hw1 hw' back kn sb
            refine l_val (v := .pointer (some ⟨b1, 0, none⟩)) rfl rfl rfl (e_nil (a := ⟨b1, 0, none⟩) rfl) ?_
            refine l_val (v := .pointer (some ⟨b1, 3, none⟩)) rfl rfl rfl (e_fieldPt (b := b1) (o := 0) rfl tf24) ?_
            refine l_mu rfl rfl (m_store 0 tf25 (b := b1) (o := 3) (T := 32) (cs := #[.slice pH108 (K.head).length cH111, .slice pA109 (K.a).length cA112, .slice pB110 (K.b).length cB113, Ix (K.power)]) (cs' := #[.slice pH108 (K.head).length cH111, .slice pA109 (K.a).length cA112, .slice pB110 (K.b).length cB113, Ix (powerF x10)]) (v := Ix (powerF x10)) rfl rfl rfl rfl rfl rfl rfl) ?_
            refine l_nil ?_
            refine f_block ?_
            refine f_block ?_
            refine f_then ?_
            refine c_perm (L' := [pt b1 (.cells #[.slice pH108 (K.head).length cH111, .slice pA109 (K.a).length cA112, .slice pB110 (K.b).length cB113, Ix (powerF x10)] 32), row (.slice pH108 (K.head).length cH111) 5 1 ((K.head).length) (BX K.head), row (.slice pA109 (K.a).length cA112) 5 1 ((K.a).length) (BX K.a), row (.slice pB110 (K.b).length cB113) 5 1 ((K.b).length) (BX K.b), pt b23 (.cells #[Bx (x10.kind), Bx (x10.power), .slice a18 (x10.body.length) (c19)] 47), jourR Jn b1 I false, pt b3 (.cells #[Nx (C.epoch), Nx (C.next), .string (C.state), .slice pn (C.recs).length cn] 27), pt b4 (.cells #[y0, y1, y2, y3] 27), row (.slice pn (C.recs).length cn) 9 1 ((C.recs).length) (C.recs.map (fun s : ByteArray => Value.string s))]) (by exact (((((((((perm_front 8 rfl).trans (perm_front 8 rfl)).trans (perm_front 8 rfl)).trans (perm_front 8 rfl)).trans (perm_front 8 rfl)).trans (perm_front 8 rfl)).trans (perm_front 8 rfl)).trans (perm_front 8 rfl)).trans (perm_front 8 rfl))) ?_
            refine c_closeStore (S := b1) (k := ({ K with power := powerF x10 } : KS)) (pH := pH108) (pA := pA109) (pB := pB110) (cH := cH111) (cA := cA112) (cB := cB113) (M := (pt b23 (.cells #[Bx (x10.kind), Bx (x10.power), .slice a18 (x10.body.length) (c19)] 47) :: jourR Jn b1 I false :: pt b3 (.cells #[Nx (C.epoch), Nx (C.next), .string (C.state), .slice pn (C.recs).length cn] 27) :: pt b4 (.cells #[y0, y1, y2, y3] 27) :: row (.slice pn (C.recs).length cn) 9 1 ((C.recs).length) (C.recs.map (fun s : ByteArray => Value.string s)) :: [])) rfl ?_
            refine c_region ?_
            refine l_val (v := Nx (k + 1)) rfl rfl rfl (e_add (a := ((k : Nat) : Int)) (b := (1 : Int)) rfl rfl (i64n (by omega) (by omega))) ?_
            refine l_val (v := Nx (k + 1)) rfl rfl rfl (e_move) ?_
            refine l_nil ?_
            refine f_perm (L' := [jourR Jn b1 I false, storeR b1 ({ K with power := powerF x10 } : KS), pt b3 (.cells #[Nx (C.epoch), Nx (C.next), .string (C.state), .slice pn (C.recs).length cn] 27), pt b4 (.cells #[y0, y1, y2, y3] 27), row (.slice pn (C.recs).length cn) 9 1 ((C.recs).length) (C.recs.map (fun s : ByteArray => Value.string s)), pt b23 (.cells #[Bx (x10.kind), Bx (x10.power), .slice a18 (x10.body.length) (c19)] 47)]) ((((((perm_front 1 rfl).trans (perm_front 5 rfl)).trans (perm_front 5 rfl)).trans (perm_front 5 rfl)).trans (perm_front 4 rfl)).trans (perm_front 5 rfl)) ?_
            refine f_mask (L' := [jourR Jn b1 I false, storeR b1 ({ K with power := powerF x10 } : KS), pt b3 (.cells #[Nx (C.epoch), Nx (C.next), .string (C.state), .slice pn (C.recs).length cn] 27), pt b4 (.cells #[y0, y1, y2, y3] 27), row (.slice pn (C.recs).length cn) 9 1 ((C.recs).length) (C.recs.map (fun s : ByteArray => Value.string s))]) [true, true, true, true, true, false] rfl ?_
            exact f_cut ⟨(k + 1, ({ K with power := powerF x10 } : KS), I, Jn, C, pn, cn, y0, y1, y2, y3), ⟨⟨rfl, rfl, rfl, rfl, rfl, rfl, rfl⟩, rfl, ⟨by omega, (hI.pow (powerF_ge _) (powerF_le _)).mono (by omega), hC⟩⟩, (show zs5.length - (k + 1) < zs5.length - k from by omega)⟩
          ·
            refine c_seq ?_
            refine c_region ?_
            refine l_val (v := .pointer (some ⟨b1, 0, none⟩)) rfl rfl rfl (e_move) ?_
            refine l_call rfl rfl rfl (cl_value (fst := []) (cap := []) (vs := [.pointer (some ⟨b1, 0, none⟩)]) (all := [.pointer (some ⟨b1, 0, none⟩)]) tf107 rfl rfl rfl) ?_
            intro w hw
            replace hw := hw.perm (L' := _ :: _ :: _ :: _ :: _ :: _ :: []) (by exact ((((((perm_front 5 rfl).trans (perm_front 5 rfl)).trans (perm_front 5 rfl)).trans (perm_front 4 rfl)).trans (perm_front 4 rfl)).trans (perm_front 5 rfl)))
            obtain ⟨β1, sb, kn, hw1, back⟩ := St.frame (L := [_]) (M := _ :: _ :: _ :: _ :: _ :: []) hw
            refine (again_ok β1 w b1 K ((hI.pow (p := -1) (by decide) (by decide)).okP (by omega)) I hI.read hw1).mono ?_
            rintro e w' ⟨J120, rfl, hw'⟩
            refine ⟨_, rfl, _, back _ _ hw', ?_⟩
            clear hw hw1 hw' back kn sb
            refine l_val (v := .tuple #[.pointer (some ⟨J120, 0, none⟩), .bool true]) rfl rfl rfl (e_move) ?_
            refine l_val (v := .pointer (some ⟨J120, 0, none⟩)) rfl rfl rfl (e_extract (vs := #[.pointer (some ⟨J120, 0, none⟩), .bool true]) rfl rfl) ?_
            refine l_val (v := .bool true) rfl rfl rfl (e_extract (vs := #[.pointer (some ⟨J120, 0, none⟩), .bool true]) rfl rfl) ?_
            refine l_val (v := .pointer (some ⟨J120, 0, none⟩)) rfl rfl rfl (e_assign) ?_
            refine l_val (v := .bool true) rfl rfl rfl (e_assign) ?_
            refine l_nil ?_
            refine f_then ?_
            refine c_seq ?_
            refine c_region ?_
            refine l_val (v := .bool true) rfl rfl rfl (e_move) ?_
            refine l_val (v := .bool false) rfl rfl rfl (e_not (a := true) rfl) ?_
            refine l_val (v := .bool false) rfl rfl rfl (e_move) ?_
            refine g_val (v := .agg #[Nx (C.epoch), Nx (C.next), .string (C.state), .slice pn (C.recs).length cn]) rfl rfl rfl rfl rfl (e_load tf101 (cs := [Nx (C.epoch), Nx (C.next), .string (C.state), .slice pn (C.recs).length cn]) rfl (k_pt 4 (cs := #[Nx (C.epoch), Nx (C.next), .string (C.state), .slice pn (C.recs).length cn]) (vs := [Nx (C.epoch), Nx (C.next), .string (C.state), .slice pn (C.recs).length cn]) rfl rfl) rfl) ?_
            refine g_val (v := .pointer (some ⟨J120, 0, none⟩)) rfl rfl rfl rfl rfl (e_move) ?_
            refine g_call rfl rfl rfl rfl rfl (cl_value (fst := []) (cap := []) (vs := [.agg #[Nx (C.epoch), Nx (C.next), .string (C.state), .slice pn (C.recs).length cn], .pointer (some ⟨J120, 0, none⟩)]) (all := [.agg #[Nx (C.epoch), Nx (C.next), .string (C.state), .slice pn (C.recs).length cn], .pointer (some ⟨J120, 0, none⟩)]) tf115 rfl rfl rfl) ?_
            intro w hw
            obtain ⟨β1, sb, kn, hw1, back⟩ := St.frame_all hw
            refine (is_ok β1 w hw1 C pn cn (by omega) (by omega) (kn _ (Knows.of_res 6 rfl (Elems.mono _ _ _) fun _ h => row_stre h)) J120 b1 I false (kn _ (Knows.of_res 0 rfl (JF.mono _ _ _ _) fun _ h => jour_jf h)) (by have := hI.st; omega) (by have := hI.wf.next; have := hI.nN; omega) (fun b hb => by have := hI.rs b hb; omega)).mono ?_
            rintro e w' ⟨rfl, hw'⟩
            refine ⟨_, rfl, _, back _ _ hw', ?_⟩
            clear hw hw1 hw' back kn sb
            refine g_val (v := .bool (decide (¬ (isP C I)))) rfl rfl rfl rfl rfl (e_not_p (p := isP C I) rfl) ?_
            refine l_val (v := .bool (decide (¬ (isP C I)))) rfl rfl rfl (e_pick_f rfl) ?_
            refine l_nil ?_
            refine f_then ?_
            refine c_if (¬ (isP C I)) rfl (fun hc121 => ?_) (fun hc121 => ?_)
            ·
              exact absurd hc121 (Decidable.not_not.2 hC)
            ·
              refine c_skip ?_
              refine f_block ?_
              refine f_block ?_
              refine f_then ?_
              refine c_region ?_
              refine l_val (v := Nx (k + 1)) rfl rfl rfl (e_add (a := ((k : Nat) : Int)) (b := (1 : Int)) rfl rfl (i64n (by omega) (by omega))) ?_
              refine l_val (v := Nx (k + 1)) rfl rfl rfl (e_move) ?_
              refine l_nil ?_
              refine f_mask (L' := [jourR J120 b1 I false, storeR b1 (cutS (powS K) I.epoch I.size), pt b3 (.cells #[Nx (C.epoch), Nx (C.next), .string (C.state), .slice pn (C.recs).length cn] 27), pt b4 (.cells #[y0, y1, y2, y3] 27), row (.slice pn (C.recs).length cn) 9 1 ((C.recs).length) (C.recs.map (fun s : ByteArray => Value.string s))]) [true, true, false, false, true, true, true] rfl ?_
              exact f_cut ⟨(k + 1, (cutS (powS K) I.epoch I.size), I, J120, C, pn, cn, y0, y1, y2, y3), ⟨⟨rfl, rfl, rfl, rfl, rfl, rfl, rfl⟩, rfl, ⟨by omega, ((hI.pow (p := -1) (by decide) (by decide)).cut (show (-1 : Int) ≠ 0 by decide)).mono (by omega), hC⟩⟩, (show zs5.length - (k + 1) < zs5.length - k from by omega)⟩
  ·
    refine c_exit ?_
    refine f_then_exit ?_
    refine f_then_exit ?_
    refine f_exit ?_
    refine f_then ?_
    refine c_seq ?_
    refine c_region ?_
    refine l_call rfl rfl rfl (cl_value (fst := []) (cap := []) (vs := []) (all := []) tf111 rfl rfl rfl) ?_
    intro w hw
    obtain ⟨β1, sb, kn, hw1, back⟩ := St.frame_all hw
    refine (awake_ok β1 w hw1).mono ?_
    rintro e w' ⟨rfl, hw'⟩
    refine ⟨_, rfl, _, back _ _ hw', ?_⟩
    clear hw hw1 hw' back kn sb
    refine l_val (v := .bool true) rfl rfl rfl (e_assign) ?_
    refine l_nil ?_
    refine f_then ?_
    refine c_ret ?_
    refine ret1 Try.results7 (v := .bool true) rfl ?_
    intro w hw
    exact ⟨rfl, st_mask [false, false, false, false, false] rfl hw⟩
end Go.Proofs
