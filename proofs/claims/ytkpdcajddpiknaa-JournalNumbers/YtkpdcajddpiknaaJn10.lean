/-
  JournalNumbers, walked. Printed by a program of my own.
-/
import Derived.Test.YtkpdcajddpiknaaJn9
import Derived.Test.YtkpdcajddpiknaaJnLaw4
namespace Go.Proofs
open Go Go.Sl Go.Jn
theorem powerF_ge (o : KOp) : -1 ≤ powerF o := by unfold powerF; split <;> omega
theorem powerF_le (o : KOp) : powerF o ≤ 255 := by unfold powerF; split <;> omega
theorem aw_invz : Inv aK0 aI0 0 true := inv_empty (p := -1) (by decide)
theorem aw_inv0 : Inv (cutS (powS aK0) aI0.epoch aI0.size) aI0 0 true := (aw_invz.pow (p := -1) (by decide) (by decide)).cut (by decide)
theorem tf107 : cfB Try.prog 16 = true := by kernel_rfl
theorem tf108 : Try.prog.underlying 22 = some (.slice 47) := by kernel_rfl
theorem tf109 : slB Try.prog 22 47 3 = true := by kernel_rfl
theorem tf110 : cfB Try.prog 21 = true := by kernel_rfl
theorem tf111 : cfB Try.prog 12 = true := by kernel_rfl
set_option maxHeartbeats 4000000 in
theorem numbers_ok (β : Base) (w : World) (hw : St β [] w) (xs : List KOp) (v : Value) (hs : Sl OpR β.heap v xs) : Calls Try.prog 4 #[v] w fun r w' => r = .returned (.bool true) ∧ St β [] w' := by
  obtain ⟨va, vc, rfl, vl, vm, ve⟩ := hs.get
  refine enter (n := 125) Try.func4 rfl Try.ntmps4 rfl ?_ hw
  refine c_seq ?_
  refine c_region ?_
  refine l_val (v := .bool false) rfl rfl rfl (e_assign) ?_
  refine l_nil ?_
  refine f_then ?_
  refine c_seq ?_
  refine c_region ?_
  refine l_val (v := .agg #[.slice none 0 0, .slice none 0 0, .slice none 0 0, .int .i64 (-1)]) rfl rfl rfl (e_build tf106 tf105 (vs := [(3, .int .i64 (-1))]) (cells := #[.slice none 0 0, .slice none 0 0, .slice none 0 0, .int .i64 (-1)]) rfl rfl) ?_
  refine l_mv rfl rfl rfl (m_box (v := .agg #[.slice none 0 0, .slice none 0 0, .slice none 0 0, .int .i64 (-1)]) rfl) ?_
  rintro _ _ ⟨b1, rfl, rfl⟩
  refine l_val (v := .pointer (some ⟨b1, 0, none⟩)) rfl rfl rfl (e_assign) ?_
  refine l_nil ?_
  refine f_then ?_
  refine c_seq ?_
  refine c_emp (r := row (.slice none 0 0) 5 1 0 (BX [])) (row_nil _ _ _) ?_
  refine c_emp (r := row (.slice none 0 0) 5 1 0 (BX [])) (row_nil _ _ _) ?_
  refine c_emp (r := row (.slice none 0 0) 5 1 0 (BX [])) (row_nil _ _ _) ?_
  refine c_perm (L' := (pt b1 (.cells #[.slice none 0 0, .slice none 0 0, .slice none 0 0, .int .i64 (-1)] 32) :: row (.slice none 0 0) 5 1 0 (BX []) :: row (.slice none 0 0) 5 1 0 (BX []) :: row (.slice none 0 0) 5 1 0 (BX []) :: [])) (by exact ((((perm_front 2 rfl).trans (perm_front 2 rfl)).trans (perm_front 2 rfl)).trans (perm_front 3 rfl))) ?_
  refine c_closeStore (S := b1) (k := aK0) (pH := none) (pA := none) (pB := none) (cH := 0) (cA := 0) (cB := 0) (M := ([])) (by rfl) ?_
  refine c_region ?_
  refine l_val (v := .pointer (some ⟨b1, 0, none⟩)) rfl rfl rfl (e_move) ?_
  refine l_call rfl rfl rfl (cl_value (fst := []) (cap := []) (vs := [.pointer (some ⟨b1, 0, none⟩)]) (all := [.pointer (some ⟨b1, 0, none⟩)]) tf107 rfl rfl rfl) ?_
  intro w hw
  replace hw := hw.perm (L' := _ :: []) (by exact (perm_front 0 rfl))
  obtain ⟨β1, sb, kn, hw1, back⟩ := St.frame (L := [_]) (M := []) hw
  refine (again_ok β1 w b1 aK0 ((aw_invz.pow (p := -1) (by decide) (by decide)).okP (by omega)) aI0 aw_invz.read hw1).mono ?_
  rintro e w' ⟨J2, rfl, hw'⟩
  refine ⟨_, rfl, _, back _ _ hw', ?_⟩
  clear hw hw1 hw' back kn sb
  refine l_val (v := .tuple #[.pointer (some ⟨J2, 0, none⟩), .bool true]) rfl rfl rfl (e_move) ?_
  refine l_val (v := .pointer (some ⟨J2, 0, none⟩)) rfl rfl rfl (e_extract (vs := #[.pointer (some ⟨J2, 0, none⟩), .bool true]) rfl rfl) ?_
  refine l_val (v := .bool true) rfl rfl rfl (e_extract (vs := #[.pointer (some ⟨J2, 0, none⟩), .bool true]) rfl rfl) ?_
  refine l_val (v := .pointer (some ⟨J2, 0, none⟩)) rfl rfl rfl (e_assign) ?_
  refine l_val (v := .bool true) rfl rfl rfl (e_assign) ?_
  refine l_nil ?_
  refine f_then ?_
  refine c_seq ?_
  refine c_seq ?_
  refine c_region ?_
  refine l_val (v := .bool true) rfl rfl rfl (e_move) ?_
  refine l_val (v := .bool false) rfl rfl rfl (e_not (a := true) rfl) ?_
  refine l_nil ?_
  refine f_then ?_
  refine c_no rfl ?_
  refine c_skip ?_
  refine f_then ?_
  refine c_seq ?_
  refine c_region ?_
  refine l_val (v := .int .i64 (-1)) rfl rfl rfl (e_assign) ?_
  refine l_nil ?_
  refine f_then ?_
  refine c_seq ?_
  refine c_seq ?_
  refine c_region ?_
  refine l_val (v := .slice va (xs.length) (vc)) rfl rfl rfl (e_move) ?_
  refine l_val (v := .slice va (xs.length) (vc)) rfl rfl rfl (e_move) ?_
  refine l_val (v := Nx (xs.length)) rfl rfl rfl (e_len (a := va) (n := xs.length) (c := vc) rfl tf108) ?_
  refine l_val (v := Nx (min xs.length 60)) rfl rfl rfl (ev_eq (congrArg (Value.int .i64) (by omega)) (e_min (a := ((xs.length : Nat) : Int)) (b := (60 : Int)) rfl rfl)) ?_
  obtain ⟨zs3, hz4⟩ : ∃ zs, zs = (xs.take (min xs.length 60)) := ⟨_, rfl⟩
  have zl5 : zs3.length = min (min xs.length 60) (xs).length - 0 := by rw [hz4]; simp; try omega
  have ze6 := (Elems.take (min xs.length 60) ve)
  rw [← hz4] at ze6
  refine l_val (v := .slice va (zs3.length) (vc)) rfl rfl rfl (ev_eq (by rw [show zs3.length = min xs.length 60 by omega]) (e_slice_hi (a := va) (len := xs.length) (cap := vc) (h := min xs.length 60) tf109 rfl rfl (by omega))) ?_
  refine l_val (v := Nx (zs3.length)) rfl rfl rfl (e_len (a := va) (n := zs3.length) (c := vc) rfl tf108) ?_
  refine l_val (v := .int .i64 (0)) rfl rfl rfl (e_move) ?_
  refine l_nil ?_
  refine f_then ?_
  refine c_block ?_
  refine c_mask [true, true] rfl ?_
  refine c_loop (fun (x_ : Nat × KS × KI × Nat) (f : Fm) (L : List Res) => match x_ with | (k, K, I, Jn) => (f 3 = .pointer (some ⟨b1, 0, none⟩) ∧ f 4 = .pointer (some ⟨Jn, 0, none⟩) ∧ f 6 = Ix (((I.next : Nat) : Int) - 1) ∧ f 25 = .slice va (zs3.length) (vc) ∧ f 26 = Nx (zs3.length) ∧ f 27 = Nx (k)) ∧ L = [jourR Jn b1 I false, storeR b1 K] ∧ (k ≤ zs3.length ∧ Inv K I k true)) (fun (x_ : Nat × KS × KI × Nat) => match x_ with | (k, K, I, Jn) => zs3.length - k) (0, (cutS (powS aK0) aI0.epoch aI0.size), aI0, J2) ?_ ?_
  · exact ⟨⟨rfl, rfl, rfl, rfl, rfl, rfl⟩, rfl, ⟨by omega, aw_inv0⟩⟩
  rintro ⟨k, K, I, Jn⟩ f0 L0 ⟨⟨hs3, hs4, hs6, hs25, hs26, hs27⟩, hL, ⟨hk, hI⟩⟩
  subst L0
  refine rebase (d := 3) hs3 ?_
  refine rebase (d := 4) hs4 ?_
  refine rebase (d := 6) hs6 ?_
  refine rebase (d := 25) hs25 ?_
  refine rebase (d := 26) hs26 ?_
  refine rebase (d := 27) hs27 ?_
  clear hs3 hs4 hs6 hs25 hs26 hs27
  have hk60 : k ≤ 60 := by omega
  have hfit := hI.fits (show k ≤ 100 by omega)
  have hnN := hI.nN
  have hsz0 := hI.sz
  have heN := hI.eN
  have hrl0 := hI.wf.next
  refine c_seq ?_
  refine c_region ?_
  refine l_val (v := .bool (decide (((k : Nat) : Int) < ((zs3.length : Nat) : Int)))) rfl rfl rfl (e_lss (a := ((k : Nat) : Int)) (b := ((zs3.length : Nat) : Int)) rfl rfl) ?_
  refine l_nil ?_
  refine f_then ?_
  refine c_seq ?_
  refine c_if (((k : Nat) : Int) < ((zs3.length : Nat) : Int)) rfl (fun hc7 => ?_) (fun hc7 => ?_)
  ·
    refine c_skip ?_
    refine f_then ?_
    refine c_seq ?_
    refine c_block ?_
    refine c_seq ?_
    refine c_region ?_
    obtain ⟨x8, hx9⟩ : ∃ x_, (zs3)[k]? = some x_ := ⟨_, List.getElem?_eq_getElem (by omega)⟩
    obtain ⟨ha10, cs11, hc12, hr13⟩ := ze6 _ _ hx9
    obtain ⟨v14, rfl, hv15⟩ := hr13
    obtain ⟨a16, c17, rfl, hl18, hm19, he20⟩ := (hv15).get
    refine l_val (v := .pointer (some ((ba va).add (k * 3)))) rfl rfl rfl (e_indexAddr (k := k) (len := zs3.length) (cap := vc) (a := va) rfl rfl tf109 (by omega) ha10) ?_
    refine l_val (v := .agg #[Bx (x8.kind), Bx (x8.power), .slice a16 (x8.body.length) (c17)]) rfl rfl rfl (e_load tf87 (cs := [Bx (x8.kind), Bx (x8.power), .slice a16 (x8.body.length) (c17)]) rfl (Knows.of_base (Cs.mono _ _) hc12) rfl) ?_
    refine l_mv rfl rfl rfl (m_alloc tf84) ?_
    rintro _ _ ⟨b21, rfl, rfl⟩
    refine l_mu rfl rfl (m_store 0 tf87 (b := b21) (o := 0) (T := 47) (cs := #[.int .u8 (0), .int .u8 (0), .slice none 0 0]) (cs' := #[Bx (x8.kind), Bx (x8.power), .slice a16 (x8.body.length) (c17)]) (v := .agg #[Bx (x8.kind), Bx (x8.power), .slice a16 (x8.body.length) (c17)]) rfl rfl rfl rfl rfl rfl rfl) ?_
    refine l_nil ?_
    refine f_then ?_
    refine c_seq ?_
    refine c_region ?_
    refine l_val (v := .pointer (some ⟨b21, 0, none⟩)) rfl rfl rfl (e_fieldPt (b := b21) (o := 0) rfl tf85) ?_
    refine l_val (v := Bx (x8.kind)) rfl rfl rfl (e_load1 tf13 (v := Bx (x8.kind)) rfl (k_pt 0 (cs := #[Bx (x8.kind), Bx (x8.power), .slice a16 (x8.body.length) (c17)]) (vs := [Bx (x8.kind)]) rfl rfl)) ?_
    refine l_val (v := .int .u8 (((x8.kind.toNat % 5 : Nat)) : Int)) rfl rfl rfl (e_rem (a := ((x8.kind).toNat : Int)) (b := ((5 : Nat) : Int)) rfl rfl (by decide) (nat_tmod _ _)) ?_
    refine l_nil ?_
    refine f_then ?_
    refine c_block ?_
    refine c_seq ?_
    refine c_seq ?_
    refine c_region ?_
    refine l_val (v := .bool (decide (((x8.kind.toNat % 5 : Nat) : Int) = (0 : Int)))) rfl rfl rfl (e_eql (a := ((x8.kind.toNat % 5 : Nat) : Int)) (b := (0 : Int)) rfl rfl) ?_
    refine l_val (v := .bool (decide (((x8.kind.toNat % 5 : Nat) : Int) = (0 : Int)))) rfl rfl rfl (e_assign) ?_
    refine l_nil ?_
    refine f_then ?_
    refine c_if (((x8.kind.toNat % 5 : Nat) : Int) = (0 : Int)) rfl (fun hc22 => ?_) (fun hc22 => ?_)
    ·
      refine c_skip ?_
      refine f_then ?_
      refine c_if (((x8.kind.toNat % 5 : Nat) : Int) = (0 : Int)) rfl (fun hc23 => ?_) (fun hc23 => ?_)
      ·
        refine c_seq ?_
        by_cases hc : apOk K I (x8.body.take 300)
        ·
          have hI2 := hI.ap_ok (by omega) (by simp; omega) hc
          have hapn : (apI I (x8.body.take 300)).next = I.next + 1 := rfl
          refine c_region ?_
          refine l_val (v := .pointer (some ⟨Jn, 0, none⟩)) rfl rfl rfl (e_move) ?_
          refine l_val (v := .agg #[Bx (x8.kind), Bx (x8.power), .slice a16 (x8.body.length) (c17)]) rfl rfl rfl (e_load tf87 (cs := [Bx (x8.kind), Bx (x8.power), .slice a16 (x8.body.length) (c17)]) rfl (k_pt 0 (cs := #[Bx (x8.kind), Bx (x8.power), .slice a16 (x8.body.length) (c17)]) (vs := [Bx (x8.kind), Bx (x8.power), .slice a16 (x8.body.length) (c17)]) rfl rfl) rfl) ?_
          refine l_call rfl rfl rfl (cl_value (fst := []) (cap := []) (vs := [.agg #[Bx (x8.kind), Bx (x8.power), .slice a16 (x8.body.length) (c17)]]) (all := [.agg #[Bx (x8.kind), Bx (x8.power), .slice a16 (x8.body.length) (c17)]]) tf100 rfl rfl rfl) ?_
          intro w hw
          obtain ⟨β1, sb, kn, hw1, back⟩ := St.frame_all hw
          refine (body_ok β1 w hw1 x8 a16 c17 (by omega) (by omega) (Elems.mono _ _ _ _ _ sb he20)).mono ?_
          rintro e w' ⟨rfl, hw'⟩
          refine ⟨_, rfl, _, back _ _ hw', ?_⟩
          clear hw hw1 hw' back kn sb
          refine l_call rfl rfl rfl (cl_value (fst := []) (cap := []) (vs := [.pointer (some ⟨Jn, 0, none⟩), .slice a16 ((x8.body.take 300).length) (c17)]) (all := [.pointer (some ⟨Jn, 0, none⟩), .slice a16 ((x8.body.take 300).length) (c17)]) tf102 rfl rfl rfl) ?_
          intro w hw
          replace hw := hw.perm (L' := _ :: _ :: _ :: []) (by exact (((perm_front 0 rfl).trans (perm_front 2 rfl)).trans (perm_front 2 rfl)))
          obtain ⟨β1, sb, kn, hw1, back⟩ := St.frame (L := [_, _]) (M := _ :: []) hw
          refine (append_ok β1 w Jn b1 K I (x8.body.take 300) (by simp; omega) hfit (by omega) (by omega) (by omega) (by simp; omega) (by omega) hc _ (Sl.mono _ _ _ _ _ sb (⟨⟨_, _, rfl, by simp only [List.length_take]; omega, by omega, Elems.take 300 he20⟩⟩ : Sl U8R _ _ (x8.body.take 300))) hw1).mono ?_
          rintro e w' ⟨rfl, hw'⟩
          refine ⟨_, rfl, _, back _ _ hw', ?_⟩
          clear hw hw1 hw' back kn sb
          refine l_val (v := .tuple #[Nx (I.next), .int .i64 (0)]) rfl rfl rfl (e_move) ?_
          refine l_val (v := Nx (I.next)) rfl rfl rfl (e_extract (vs := #[Nx (I.next), .int .i64 (0)]) rfl rfl) ?_
          refine l_val (v := .int .i64 (0)) rfl rfl rfl (e_extract (vs := #[Nx (I.next), .int .i64 (0)]) rfl rfl) ?_
          refine l_val (v := Nx (I.next)) rfl rfl rfl (e_assign) ?_
          refine l_val (v := .int .i64 (0)) rfl rfl rfl (e_assign) ?_
          refine l_nil ?_
          refine f_then ?_
          refine c_seq ?_
          refine c_region ?_
          refine l_val (v := .int .i64 (0)) rfl rfl rfl (e_move) ?_
          refine l_val (v := .bool true) rfl rfl rfl (e_eql (a := (0 : Int)) (b := (0 : Int)) rfl rfl) ?_
          refine l_nil ?_
          refine f_then ?_
          refine c_yes rfl ?_
          refine c_seq ?_
          refine c_seq ?_
          refine c_region ?_
          refine l_val (v := Nx (I.next)) rfl rfl rfl (e_move) ?_
          refine l_val (v := Ix (((I.next : Nat) : Int) - 1)) rfl rfl rfl (e_move) ?_
          refine l_val (v := Ix ((((I.next : Nat) : Int) - 1) + (1 : Int))) rfl rfl rfl (e_add (a := (((I.next : Nat) : Int) - 1)) (b := (1 : Int)) rfl rfl (i64w (by omega))) ?_
          refine l_val (v := .bool (decide (((I.next : Nat) : Int) ≠ ((((I.next : Nat) : Int) - 1) + (1 : Int))))) rfl rfl rfl (e_neq (a := ((I.next : Nat) : Int)) (b := ((((I.next : Nat) : Int) - 1) + (1 : Int))) rfl rfl) ?_
          refine l_val (v := .bool (decide (((I.next : Nat) : Int) ≠ ((((I.next : Nat) : Int) - 1) + (1 : Int))))) rfl rfl rfl (e_move) ?_
          refine l_split (s := 64) (p := ((I.next : Nat) : Int) ≠ ((((I.next : Nat) : Int) - 1) + (1 : Int))) rfl (fun h => ?_) (fun h => ?_)
          exact absurd h (by omega)
          refine g_val (v := .pointer (some ⟨Jn, 0, none⟩)) rfl rfl rfl rfl rfl (e_move) ?_
          refine g_call rfl rfl rfl rfl rfl (cl_value (fst := []) (cap := []) (vs := [.pointer (some ⟨Jn, 0, none⟩)]) (all := [.pointer (some ⟨Jn, 0, none⟩)]) tf90 rfl rfl rfl) ?_
          intro w hw
          obtain ⟨β1, sb, kn, hw1, back⟩ := St.frame_all hw
          refine (next_ok β1 w hw1 Jn b1 (apI I (x8.body.take 300)) false (kn _ (Knows.of_res 0 rfl (JF.mono _ _ _ _) fun _ h => jour_jf h))).mono ?_
          rintro e w' ⟨rfl, hw'⟩
          refine ⟨_, rfl, _, back _ _ hw', ?_⟩
          clear hw hw1 hw' back kn sb
          refine g_val (v := Nx (I.next)) rfl rfl rfl rfl rfl (e_move) ?_
          refine g_val (v := Nx (I.next + 1)) rfl rfl rfl rfl rfl (e_add (a := ((I.next : Nat) : Int)) (b := (1 : Int)) rfl rfl (i64n (by omega) (by omega))) ?_
          refine g_val (v := .bool (decide ((((apI I (x8.body.take 300)).next : Nat) : Int) ≠ ((I.next + 1 : Nat) : Int)))) rfl rfl rfl rfl rfl (e_neq (a := (((apI I (x8.body.take 300)).next : Nat) : Int)) (b := ((I.next + 1 : Nat) : Int)) rfl rfl) ?_
          refine l_val (v := .bool (decide ((((apI I (x8.body.take 300)).next : Nat) : Int) ≠ ((I.next + 1 : Nat) : Int)))) rfl rfl rfl (e_pick_f rfl) ?_
          refine l_nil ?_
          refine f_then ?_
          refine c_if ((((apI I (x8.body.take 300)).next : Nat) : Int) ≠ ((I.next + 1 : Nat) : Int)) rfl (fun hc24 => ?_) (fun hc24 => ?_)
          ·
            exact absurd hc24 (by omega)
          ·
            refine c_skip ?_
            refine f_then ?_
            refine c_region ?_
            refine l_val (v := Nx (I.next)) rfl rfl rfl (e_move) ?_
            refine l_val (v := Nx (I.next)) rfl rfl rfl (e_assign) ?_
            refine l_nil ?_
            refine f_block ?_
            refine f_block ?_
            refine f_then ?_
            refine c_region ?_
            refine l_val (v := Nx (k + 1)) rfl rfl rfl (e_add (a := ((k : Nat) : Int)) (b := (1 : Int)) rfl rfl (i64n (by omega) (by omega))) ?_
            refine l_val (v := Nx (k + 1)) rfl rfl rfl (e_move) ?_
            refine l_nil ?_
            refine f_mask (L' := [jourR Jn b1 (apI I (x8.body.take 300)) false, storeR b1 (apS K I (x8.body.take 300))]) [true, true, false] rfl ?_
            exact f_cut ⟨(k + 1, (apS K I (x8.body.take 300)), (apI I (x8.body.take 300)), Jn), ⟨⟨rfl, rfl, (congrArg (Value.int .i64) (by first | rfl | omega)), rfl, rfl, rfl⟩, rfl, ⟨by omega, hI2⟩⟩, (show zs3.length - (k + 1) < zs3.length - k from by omega)⟩
        ·
          have hI2 := hI.ap_no (by simp; omega) hc
          refine c_region ?_
          refine l_val (v := .pointer (some ⟨Jn, 0, none⟩)) rfl rfl rfl (e_move) ?_
          refine l_val (v := .agg #[Bx (x8.kind), Bx (x8.power), .slice a16 (x8.body.length) (c17)]) rfl rfl rfl (e_load tf87 (cs := [Bx (x8.kind), Bx (x8.power), .slice a16 (x8.body.length) (c17)]) rfl (k_pt 0 (cs := #[Bx (x8.kind), Bx (x8.power), .slice a16 (x8.body.length) (c17)]) (vs := [Bx (x8.kind), Bx (x8.power), .slice a16 (x8.body.length) (c17)]) rfl rfl) rfl) ?_
          refine l_call rfl rfl rfl (cl_value (fst := []) (cap := []) (vs := [.agg #[Bx (x8.kind), Bx (x8.power), .slice a16 (x8.body.length) (c17)]]) (all := [.agg #[Bx (x8.kind), Bx (x8.power), .slice a16 (x8.body.length) (c17)]]) tf100 rfl rfl rfl) ?_
          intro w hw
          obtain ⟨β1, sb, kn, hw1, back⟩ := St.frame_all hw
          refine (body_ok β1 w hw1 x8 a16 c17 (by omega) (by omega) (Elems.mono _ _ _ _ _ sb he20)).mono ?_
          rintro e w' ⟨rfl, hw'⟩
          refine ⟨_, rfl, _, back _ _ hw', ?_⟩
          clear hw hw1 hw' back kn sb
          refine l_call rfl rfl rfl (cl_value (fst := []) (cap := []) (vs := [.pointer (some ⟨Jn, 0, none⟩), .slice a16 ((x8.body.take 300).length) (c17)]) (all := [.pointer (some ⟨Jn, 0, none⟩), .slice a16 ((x8.body.take 300).length) (c17)]) tf102 rfl rfl rfl) ?_
          intro w hw
          replace hw := hw.perm (L' := _ :: _ :: _ :: []) (by exact (((perm_front 0 rfl).trans (perm_front 2 rfl)).trans (perm_front 2 rfl)))
          obtain ⟨β1, sb, kn, hw1, back⟩ := St.frame (L := [_, _]) (M := _ :: []) hw
          refine (append_fail β1 w Jn b1 K I (x8.body.take 300) (by simp; omega) hfit (by omega) (by omega) (by omega) (by simp; omega) (by omega) hc _ (Sl.mono _ _ _ _ _ sb (⟨⟨_, _, rfl, by simp only [List.length_take]; omega, by omega, Elems.take 300 he20⟩⟩ : Sl U8R _ _ (x8.body.take 300))) hw1).mono ?_
          rintro e w' ⟨rfl, hw'⟩
          refine ⟨_, rfl, _, back _ _ hw', ?_⟩
          clear hw hw1 hw' back kn sb
          refine l_val (v := .tuple #[.int .i64 (0), .int .i64 (310)]) rfl rfl rfl (e_move) ?_
          refine l_val (v := .int .i64 (0)) rfl rfl rfl (e_extract (vs := #[.int .i64 (0), .int .i64 (310)]) rfl rfl) ?_
          refine l_val (v := .int .i64 (310)) rfl rfl rfl (e_extract (vs := #[.int .i64 (0), .int .i64 (310)]) rfl rfl) ?_
          refine l_val (v := .int .i64 (0)) rfl rfl rfl (e_assign) ?_
          refine l_val (v := .int .i64 (310)) rfl rfl rfl (e_assign) ?_
          refine l_nil ?_
          refine f_then ?_
          refine c_seq ?_
          refine c_region ?_
          refine l_val (v := .int .i64 (310)) rfl rfl rfl (e_move) ?_
          refine l_val (v := .bool false) rfl rfl rfl (e_eql (a := (310 : Int)) (b := (0 : Int)) rfl rfl) ?_
          refine l_nil ?_
          refine f_then ?_
          refine c_no rfl ?_
          refine c_seq ?_
          refine c_seq ?_
          refine c_region ?_
          refine l_val (v := .pointer (some ⟨b1, 0, none⟩)) rfl rfl rfl (e_move) ?_
          refine l_call rfl rfl rfl (cl_value (fst := []) (cap := []) (vs := [.pointer (some ⟨b1, 0, none⟩)]) (all := [.pointer (some ⟨b1, 0, none⟩)]) tf107 rfl rfl rfl) ?_
          intro w hw
          replace hw := hw.perm (L' := _ :: _ :: _ :: []) (by exact (((perm_front 2 rfl).trans (perm_front 1 rfl)).trans (perm_front 2 rfl)))
          obtain ⟨β1, sb, kn, hw1, back⟩ := St.frame (L := [_]) (M := _ :: _ :: []) hw
          refine (again_ok β1 w b1 (apS K I (x8.body.take 300)) ((hI2.pow (p := -1) (by decide) (by decide)).okP (by omega)) I hI2.read hw1).mono ?_
          rintro e w' ⟨J25, rfl, hw'⟩
          refine ⟨_, rfl, _, back _ _ hw', ?_⟩
          clear hw hw1 hw' back kn sb
          refine l_val (v := .tuple #[.pointer (some ⟨J25, 0, none⟩), .bool true]) rfl rfl rfl (e_move) ?_
          refine l_val (v := .pointer (some ⟨J25, 0, none⟩)) rfl rfl rfl (e_extract (vs := #[.pointer (some ⟨J25, 0, none⟩), .bool true]) rfl rfl) ?_
          refine l_val (v := .bool true) rfl rfl rfl (e_extract (vs := #[.pointer (some ⟨J25, 0, none⟩), .bool true]) rfl rfl) ?_
          refine l_val (v := .pointer (some ⟨J25, 0, none⟩)) rfl rfl rfl (e_assign) ?_
          refine l_val (v := .bool true) rfl rfl rfl (e_assign) ?_
          refine l_nil ?_
          refine f_then ?_
          refine c_seq ?_
          refine c_region ?_
          refine l_val (v := .bool true) rfl rfl rfl (e_move) ?_
          refine l_val (v := .bool false) rfl rfl rfl (e_not (a := true) rfl) ?_
          refine l_val (v := .bool false) rfl rfl rfl (e_move) ?_
          refine g_val (v := .pointer (some ⟨J25, 0, none⟩)) rfl rfl rfl rfl rfl (e_move) ?_
          refine g_call rfl rfl rfl rfl rfl (cl_value (fst := []) (cap := []) (vs := [.pointer (some ⟨J25, 0, none⟩)]) (all := [.pointer (some ⟨J25, 0, none⟩)]) tf90 rfl rfl rfl) ?_
          intro w hw
          obtain ⟨β1, sb, kn, hw1, back⟩ := St.frame_all hw
          refine (next_ok β1 w hw1 J25 b1 I false (kn _ (Knows.of_res 0 rfl (JF.mono _ _ _ _) fun _ h => jour_jf h))).mono ?_
          rintro e w' ⟨rfl, hw'⟩
          refine ⟨_, rfl, _, back _ _ hw', ?_⟩
          clear hw hw1 hw' back kn sb
          refine g_val (v := Ix (((I.next : Nat) : Int) - 1)) rfl rfl rfl rfl rfl (e_move) ?_
          refine g_val (v := Ix ((((I.next : Nat) : Int) - 1) + (1 : Int))) rfl rfl rfl rfl rfl (e_add (a := (((I.next : Nat) : Int) - 1)) (b := (1 : Int)) rfl rfl (i64w (by omega))) ?_
          refine g_val (v := .bool (decide (((I.next : Nat) : Int) ≠ ((((I.next : Nat) : Int) - 1) + (1 : Int))))) rfl rfl rfl rfl rfl (e_neq (a := ((I.next : Nat) : Int)) (b := ((((I.next : Nat) : Int) - 1) + (1 : Int))) rfl rfl) ?_
          refine g_val (v := .bool (decide (((I.next : Nat) : Int) ≠ ((((I.next : Nat) : Int) - 1) + (1 : Int))))) rfl rfl rfl rfl rfl (e_move) ?_
          refine l_split (s := 85) (p := ((I.next : Nat) : Int) ≠ ((((I.next : Nat) : Int) - 1) + (1 : Int))) rfl (fun h => ?_) (fun h => ?_)
          exact absurd h (by omega)
          refine l_skip rfl rfl rfl rfl rfl rfl ?_
          refine l_skip rfl rfl rfl rfl rfl rfl ?_
          refine l_skip rfl rfl rfl rfl rfl rfl ?_
          refine l_skip rfl rfl rfl rfl rfl rfl ?_
          refine l_skip rfl rfl rfl rfl rfl rfl ?_
          refine g_val (v := .bool false) rfl rfl rfl rfl rfl (e_pick_f rfl) ?_
          refine l_val (v := .bool false) rfl rfl rfl (e_pick_f rfl) ?_
          refine l_nil ?_
          refine f_then ?_
          refine c_no rfl ?_
          refine c_skip ?_
          refine f_then ?_
          refine c_region ?_
          refine l_val (v := .pointer (some ⟨J25, 0, none⟩)) rfl rfl rfl (e_move) ?_
          refine l_call rfl rfl rfl (cl_value (fst := []) (cap := []) (vs := [.pointer (some ⟨J25, 0, none⟩)]) (all := [.pointer (some ⟨J25, 0, none⟩)]) tf90 rfl rfl rfl) ?_
          intro w hw
          obtain ⟨β1, sb, kn, hw1, back⟩ := St.frame_all hw
          refine (next_ok β1 w hw1 J25 b1 I false (kn _ (Knows.of_res 0 rfl (JF.mono _ _ _ _) fun _ h => jour_jf h))).mono ?_
          rintro e w' ⟨rfl, hw'⟩
          refine ⟨_, rfl, _, back _ _ hw', ?_⟩
          clear hw hw1 hw' back kn sb
          refine l_val (v := Ix (((I.next : Nat) : Int) - (1 : Int))) rfl rfl rfl (e_sub (a := ((I.next : Nat) : Int)) (b := (1 : Int)) rfl rfl (i64w (by omega))) ?_
          refine l_val (v := Ix (((I.next : Nat) : Int) - (1 : Int))) rfl rfl rfl (e_assign) ?_
          refine l_nil ?_
          refine f_block ?_
          refine f_block ?_
          refine f_then ?_
          refine c_region ?_
          refine l_val (v := Nx (k + 1)) rfl rfl rfl (e_add (a := ((k : Nat) : Int)) (b := (1 : Int)) rfl rfl (i64n (by omega) (by omega))) ?_
          refine l_val (v := Nx (k + 1)) rfl rfl rfl (e_move) ?_
          refine l_nil ?_
          refine f_mask (L' := [jourR J25 b1 I false, storeR b1 (cutS (powS (apS K I (x8.body.take 300))) I.epoch I.size)]) [true, true, false, false] rfl ?_
          exact f_cut ⟨(k + 1, (cutS (powS (apS K I (x8.body.take 300))) I.epoch I.size), I, J25), ⟨⟨rfl, rfl, (congrArg (Value.int .i64) (by first | rfl | omega)), rfl, rfl, rfl⟩, rfl, ⟨by omega, ((hI2.pow (p := -1) (by decide) (by decide)).cut (show (-1 : Int) ≠ 0 by decide)).mono (by omega)⟩⟩, (show zs3.length - (k + 1) < zs3.length - k from by omega)⟩
      ·
        refine c_seq ?_
        refine c_region ?_
        refine l_val (v := .bool (decide (((x8.kind.toNat % 5 : Nat) : Int) = (2 : Int)))) rfl rfl rfl (e_eql (a := ((x8.kind.toNat % 5 : Nat) : Int)) (b := (2 : Int)) rfl rfl) ?_
        refine l_val (v := .bool (decide (((x8.kind.toNat % 5 : Nat) : Int) = (2 : Int)))) rfl rfl rfl (e_assign) ?_
        refine l_nil ?_
        refine f_then ?_
        refine c_if (((x8.kind.toNat % 5 : Nat) : Int) = (2 : Int)) rfl (fun hc26 => ?_) (fun hc26 => ?_)
        ·
          refine c_seq ?_
          refine c_seq ?_
          by_cases hc : ckOk K (I.epoch + 1) I.next (x8.body.take 300)
          ·
            have hckn : (ckI I (x8.body.take 300)).next = I.next := rfl
            have hI2 := hI.ck_ok (by omega) (by simp; omega) hc
            refine c_region ?_
            refine l_val (v := .pointer (some ⟨Jn, 0, none⟩)) rfl rfl rfl (e_move) ?_
            refine l_val (v := .agg #[Bx (x8.kind), Bx (x8.power), .slice a16 (x8.body.length) (c17)]) rfl rfl rfl (e_load tf87 (cs := [Bx (x8.kind), Bx (x8.power), .slice a16 (x8.body.length) (c17)]) rfl (k_pt 0 (cs := #[Bx (x8.kind), Bx (x8.power), .slice a16 (x8.body.length) (c17)]) (vs := [Bx (x8.kind), Bx (x8.power), .slice a16 (x8.body.length) (c17)]) rfl rfl) rfl) ?_
            refine l_call rfl rfl rfl (cl_value (fst := []) (cap := []) (vs := [.agg #[Bx (x8.kind), Bx (x8.power), .slice a16 (x8.body.length) (c17)]]) (all := [.agg #[Bx (x8.kind), Bx (x8.power), .slice a16 (x8.body.length) (c17)]]) tf100 rfl rfl rfl) ?_
            intro w hw
            obtain ⟨β1, sb, kn, hw1, back⟩ := St.frame_all hw
            refine (body_ok β1 w hw1 x8 a16 c17 (by omega) (by omega) (Elems.mono _ _ _ _ _ sb he20)).mono ?_
            rintro e w' ⟨rfl, hw'⟩
            refine ⟨_, rfl, _, back _ _ hw', ?_⟩
            clear hw hw1 hw' back kn sb
            refine l_call rfl rfl rfl (cl_value (fst := []) (cap := []) (vs := [.pointer (some ⟨Jn, 0, none⟩), .slice a16 ((x8.body.take 300).length) (c17)]) (all := [.pointer (some ⟨Jn, 0, none⟩), .slice a16 ((x8.body.take 300).length) (c17)]) tf103 rfl rfl rfl) ?_
            intro w hw
            replace hw := hw.perm (L' := _ :: _ :: _ :: []) (by exact (((perm_front 0 rfl).trans (perm_front 2 rfl)).trans (perm_front 2 rfl)))
            obtain ⟨β1, sb, kn, hw1, back⟩ := St.frame (L := [_, _]) (M := _ :: []) hw
            refine (checkp_ok β1 w Jn b1 K I (x8.body.take 300) (by simp; omega) hfit (by omega) hc _ (Sl.mono _ _ _ _ _ sb (⟨⟨_, _, rfl, by simp only [List.length_take]; omega, by omega, Elems.take 300 he20⟩⟩ : Sl U8R _ _ (x8.body.take 300))) hw1).mono ?_
            rintro e w' ⟨rfl, hw'⟩
            refine ⟨_, rfl, _, back _ _ hw', ?_⟩
            clear hw hw1 hw' back kn sb
            refine l_val (v := .int .i64 (0)) rfl rfl rfl (e_assign) ?_
            refine l_nil ?_
            refine f_then ?_
            refine c_seq ?_
            refine c_region ?_
            refine l_val (v := .int .i64 (0)) rfl rfl rfl (e_move) ?_
            refine l_val (v := .bool false) rfl rfl rfl (e_neq (a := (0 : Int)) (b := (0 : Int)) rfl rfl) ?_
            refine l_nil ?_
            refine f_then ?_
            refine c_no rfl ?_
            refine c_skip ?_
            refine f_then ?_
            refine c_seq ?_
            refine c_region ?_
            refine l_val (v := .pointer (some ⟨Jn, 0, none⟩)) rfl rfl rfl (e_move) ?_
            refine l_call rfl rfl rfl (cl_value (fst := []) (cap := []) (vs := [.pointer (some ⟨Jn, 0, none⟩)]) (all := [.pointer (some ⟨Jn, 0, none⟩)]) tf90 rfl rfl rfl) ?_
            intro w hw
            obtain ⟨β1, sb, kn, hw1, back⟩ := St.frame_all hw
            refine (next_ok β1 w hw1 Jn b1 (ckI I (x8.body.take 300)) false (kn _ (Knows.of_res 0 rfl (JF.mono _ _ _ _) fun _ h => jour_jf h))).mono ?_
            rintro e w' ⟨rfl, hw'⟩
            refine ⟨_, rfl, _, back _ _ hw', ?_⟩
            clear hw hw1 hw' back kn sb
            refine l_val (v := Ix (((I.next : Nat) : Int) - 1)) rfl rfl rfl (e_move) ?_
            refine l_val (v := Ix ((((I.next : Nat) : Int) - 1) + (1 : Int))) rfl rfl rfl (e_add (a := (((I.next : Nat) : Int) - 1)) (b := (1 : Int)) rfl rfl (i64w (by omega))) ?_
            refine l_val (v := .bool (decide ((((ckI I (x8.body.take 300)).next : Nat) : Int) ≠ ((((I.next : Nat) : Int) - 1) + (1 : Int))))) rfl rfl rfl (e_neq (a := (((ckI I (x8.body.take 300)).next : Nat) : Int)) (b := ((((I.next : Nat) : Int) - 1) + (1 : Int))) rfl rfl) ?_
            refine l_nil ?_
            refine f_then ?_
            refine c_if ((((ckI I (x8.body.take 300)).next : Nat) : Int) ≠ ((((I.next : Nat) : Int) - 1) + (1 : Int))) rfl (fun hc27 => ?_) (fun hc27 => ?_)
            ·
              exact absurd hc27 (by omega)
            ·
              refine c_skip ?_
              refine f_block ?_
              refine f_block ?_
              refine f_then ?_
              refine c_region ?_
              refine l_val (v := Nx (k + 1)) rfl rfl rfl (e_add (a := ((k : Nat) : Int)) (b := (1 : Int)) rfl rfl (i64n (by omega) (by omega))) ?_
              refine l_val (v := Nx (k + 1)) rfl rfl rfl (e_move) ?_
              refine l_nil ?_
              refine f_mask (L' := [jourR Jn b1 (ckI I (x8.body.take 300)) false, storeR b1 (ckS K (I.epoch + 1) I.next (x8.body.take 300))]) [true, true, false] rfl ?_
              exact f_cut ⟨(k + 1, (ckS K (I.epoch + 1) I.next (x8.body.take 300)), (ckI I (x8.body.take 300)), Jn), ⟨⟨rfl, rfl, (congrArg (Value.int .i64) (by first | rfl | omega)), rfl, rfl, rfl⟩, rfl, ⟨by omega, hI2⟩⟩, (show zs3.length - (k + 1) < zs3.length - k from by omega)⟩
          ·
            have hckn : (ckI I (x8.body.take 300)).next = I.next := rfl
            rcases hI.ck_no (by omega) (by simp; omega) hc with hI2 | hI2
            ·
              refine c_region ?_
              refine l_val (v := .pointer (some ⟨Jn, 0, none⟩)) rfl rfl rfl (e_move) ?_
              refine l_val (v := .agg #[Bx (x8.kind), Bx (x8.power), .slice a16 (x8.body.length) (c17)]) rfl rfl rfl (e_load tf87 (cs := [Bx (x8.kind), Bx (x8.power), .slice a16 (x8.body.length) (c17)]) rfl (k_pt 0 (cs := #[Bx (x8.kind), Bx (x8.power), .slice a16 (x8.body.length) (c17)]) (vs := [Bx (x8.kind), Bx (x8.power), .slice a16 (x8.body.length) (c17)]) rfl rfl) rfl) ?_
              refine l_call rfl rfl rfl (cl_value (fst := []) (cap := []) (vs := [.agg #[Bx (x8.kind), Bx (x8.power), .slice a16 (x8.body.length) (c17)]]) (all := [.agg #[Bx (x8.kind), Bx (x8.power), .slice a16 (x8.body.length) (c17)]]) tf100 rfl rfl rfl) ?_
              intro w hw
              obtain ⟨β1, sb, kn, hw1, back⟩ := St.frame_all hw
              refine (body_ok β1 w hw1 x8 a16 c17 (by omega) (by omega) (Elems.mono _ _ _ _ _ sb he20)).mono ?_
              rintro e w' ⟨rfl, hw'⟩
              refine ⟨_, rfl, _, back _ _ hw', ?_⟩
              clear hw hw1 hw' back kn sb
              refine l_call rfl rfl rfl (cl_value (fst := []) (cap := []) (vs := [.pointer (some ⟨Jn, 0, none⟩), .slice a16 ((x8.body.take 300).length) (c17)]) (all := [.pointer (some ⟨Jn, 0, none⟩), .slice a16 ((x8.body.take 300).length) (c17)]) tf103 rfl rfl rfl) ?_
              intro w hw
              replace hw := hw.perm (L' := _ :: _ :: _ :: []) (by exact (((perm_front 0 rfl).trans (perm_front 2 rfl)).trans (perm_front 2 rfl)))
              obtain ⟨β1, sb, kn, hw1, back⟩ := St.frame (L := [_, _]) (M := _ :: []) hw
              refine (checkp_fail β1 w Jn b1 K I (x8.body.take 300) (by simp; omega) hfit (by omega) hc _ (Sl.mono _ _ _ _ _ sb (⟨⟨_, _, rfl, by simp only [List.length_take]; omega, by omega, Elems.take 300 he20⟩⟩ : Sl U8R _ _ (x8.body.take 300))) hw1).mono ?_
              rintro e w' ⟨rfl, hw'⟩
              refine ⟨_, rfl, _, back _ _ hw', ?_⟩
              clear hw hw1 hw' back kn sb
              refine l_val (v := .int .i64 (310)) rfl rfl rfl (e_assign) ?_
              refine l_nil ?_
              refine f_then ?_
              refine c_seq ?_
              refine c_region ?_
              refine l_val (v := .int .i64 (310)) rfl rfl rfl (e_move) ?_
              refine l_val (v := .bool true) rfl rfl rfl (e_neq (a := (310 : Int)) (b := (0 : Int)) rfl rfl) ?_
              refine l_nil ?_
              refine f_then ?_
              refine c_yes rfl ?_
              refine c_seq ?_
              refine c_region ?_
              refine l_val (v := .pointer (some ⟨b1, 0, none⟩)) rfl rfl rfl (e_move) ?_
              refine l_call rfl rfl rfl (cl_value (fst := []) (cap := []) (vs := [.pointer (some ⟨b1, 0, none⟩)]) (all := [.pointer (some ⟨b1, 0, none⟩)]) tf107 rfl rfl rfl) ?_
              intro w hw
              replace hw := hw.perm (L' := _ :: _ :: _ :: []) (by exact (((perm_front 2 rfl).trans (perm_front 1 rfl)).trans (perm_front 2 rfl)))
              obtain ⟨β1, sb, kn, hw1, back⟩ := St.frame (L := [_]) (M := _ :: _ :: []) hw
              refine (again_ok β1 w b1 (ckS K (I.epoch + 1) I.next (x8.body.take 300)) ((hI2.pow (p := -1) (by decide) (by decide)).okP (by omega)) I hI2.read hw1).mono ?_
              rintro e w' ⟨J28, rfl, hw'⟩
              refine ⟨_, rfl, _, back _ _ hw', ?_⟩
              clear hw hw1 hw' back kn sb
              refine l_val (v := .tuple #[.pointer (some ⟨J28, 0, none⟩), .bool true]) rfl rfl rfl (e_move) ?_
              refine l_val (v := .pointer (some ⟨J28, 0, none⟩)) rfl rfl rfl (e_extract (vs := #[.pointer (some ⟨J28, 0, none⟩), .bool true]) rfl rfl) ?_
              refine l_val (v := .bool true) rfl rfl rfl (e_extract (vs := #[.pointer (some ⟨J28, 0, none⟩), .bool true]) rfl rfl) ?_
              refine l_val (v := .pointer (some ⟨J28, 0, none⟩)) rfl rfl rfl (e_assign) ?_
              refine l_val (v := .bool true) rfl rfl rfl (e_assign) ?_
              refine l_nil ?_
              refine f_then ?_
              refine c_seq ?_
              refine c_region ?_
              refine l_val (v := .bool true) rfl rfl rfl (e_move) ?_
              refine l_val (v := .bool false) rfl rfl rfl (e_not (a := true) rfl) ?_
              refine l_nil ?_
              refine f_then ?_
              refine c_no rfl ?_
              refine c_skip ?_
              refine f_then ?_
              refine c_seq ?_
              refine c_region ?_
              refine l_val (v := .pointer (some ⟨J28, 0, none⟩)) rfl rfl rfl (e_move) ?_
              refine l_call rfl rfl rfl (cl_value (fst := []) (cap := []) (vs := [.pointer (some ⟨J28, 0, none⟩)]) (all := [.pointer (some ⟨J28, 0, none⟩)]) tf90 rfl rfl rfl) ?_
              intro w hw
              obtain ⟨β1, sb, kn, hw1, back⟩ := St.frame_all hw
              refine (next_ok β1 w hw1 J28 b1 I false (kn _ (Knows.of_res 0 rfl (JF.mono _ _ _ _) fun _ h => jour_jf h))).mono ?_
              rintro e w' ⟨rfl, hw'⟩
              refine ⟨_, rfl, _, back _ _ hw', ?_⟩
              clear hw hw1 hw' back kn sb
              refine l_val (v := Ix (((I.next : Nat) : Int) - 1)) rfl rfl rfl (e_move) ?_
              refine l_val (v := Ix ((((I.next : Nat) : Int) - 1) + (1 : Int))) rfl rfl rfl (e_add (a := (((I.next : Nat) : Int) - 1)) (b := (1 : Int)) rfl rfl (i64w (by omega))) ?_
              refine l_val (v := .bool (decide (((I.next : Nat) : Int) ≠ ((((I.next : Nat) : Int) - 1) + (1 : Int))))) rfl rfl rfl (e_neq (a := ((I.next : Nat) : Int)) (b := ((((I.next : Nat) : Int) - 1) + (1 : Int))) rfl rfl) ?_
              refine l_nil ?_
              refine f_then ?_
              refine c_if (((I.next : Nat) : Int) ≠ ((((I.next : Nat) : Int) - 1) + (1 : Int))) rfl (fun hc29 => ?_) (fun hc29 => ?_)
              ·
                exact absurd hc29 (by omega)
              ·
                refine c_skip ?_
                refine f_block ?_
                refine f_block ?_
                refine f_then ?_
                refine c_region ?_
                refine l_val (v := Nx (k + 1)) rfl rfl rfl (e_add (a := ((k : Nat) : Int)) (b := (1 : Int)) rfl rfl (i64n (by omega) (by omega))) ?_
                refine l_val (v := Nx (k + 1)) rfl rfl rfl (e_move) ?_
                refine l_nil ?_
                refine f_mask (L' := [jourR J28 b1 I false, storeR b1 (cutS (powS (ckS K (I.epoch + 1) I.next (x8.body.take 300))) I.epoch I.size)]) [true, true, false, false] rfl ?_
                exact f_cut ⟨(k + 1, (cutS (powS (ckS K (I.epoch + 1) I.next (x8.body.take 300))) I.epoch I.size), I, J28), ⟨⟨rfl, rfl, (congrArg (Value.int .i64) (by first | rfl | omega)), rfl, rfl, rfl⟩, rfl, ⟨by omega, ((hI2.pow (p := -1) (by decide) (by decide)).cut (show (-1 : Int) ≠ 0 by decide)).mono (by omega)⟩⟩, (show zs3.length - (k + 1) < zs3.length - k from by omega)⟩
            ·
              refine c_region ?_
              refine l_val (v := .pointer (some ⟨Jn, 0, none⟩)) rfl rfl rfl (e_move) ?_
              refine l_val (v := .agg #[Bx (x8.kind), Bx (x8.power), .slice a16 (x8.body.length) (c17)]) rfl rfl rfl (e_load tf87 (cs := [Bx (x8.kind), Bx (x8.power), .slice a16 (x8.body.length) (c17)]) rfl (k_pt 0 (cs := #[Bx (x8.kind), Bx (x8.power), .slice a16 (x8.body.length) (c17)]) (vs := [Bx (x8.kind), Bx (x8.power), .slice a16 (x8.body.length) (c17)]) rfl rfl) rfl) ?_
              refine l_call rfl rfl rfl (cl_value (fst := []) (cap := []) (vs := [.agg #[Bx (x8.kind), Bx (x8.power), .slice a16 (x8.body.length) (c17)]]) (all := [.agg #[Bx (x8.kind), Bx (x8.power), .slice a16 (x8.body.length) (c17)]]) tf100 rfl rfl rfl) ?_
              intro w hw
              obtain ⟨β1, sb, kn, hw1, back⟩ := St.frame_all hw
              refine (body_ok β1 w hw1 x8 a16 c17 (by omega) (by omega) (Elems.mono _ _ _ _ _ sb he20)).mono ?_
              rintro e w' ⟨rfl, hw'⟩
              refine ⟨_, rfl, _, back _ _ hw', ?_⟩
              clear hw hw1 hw' back kn sb
              refine l_call rfl rfl rfl (cl_value (fst := []) (cap := []) (vs := [.pointer (some ⟨Jn, 0, none⟩), .slice a16 ((x8.body.take 300).length) (c17)]) (all := [.pointer (some ⟨Jn, 0, none⟩), .slice a16 ((x8.body.take 300).length) (c17)]) tf103 rfl rfl rfl) ?_
              intro w hw
              replace hw := hw.perm (L' := _ :: _ :: _ :: []) (by exact (((perm_front 0 rfl).trans (perm_front 2 rfl)).trans (perm_front 2 rfl)))
              obtain ⟨β1, sb, kn, hw1, back⟩ := St.frame (L := [_, _]) (M := _ :: []) hw
              refine (checkp_fail β1 w Jn b1 K I (x8.body.take 300) (by simp; omega) hfit (by omega) hc _ (Sl.mono _ _ _ _ _ sb (⟨⟨_, _, rfl, by simp only [List.length_take]; omega, by omega, Elems.take 300 he20⟩⟩ : Sl U8R _ _ (x8.body.take 300))) hw1).mono ?_
              rintro e w' ⟨rfl, hw'⟩
              refine ⟨_, rfl, _, back _ _ hw', ?_⟩
              clear hw hw1 hw' back kn sb
              refine l_val (v := .int .i64 (310)) rfl rfl rfl (e_assign) ?_
              refine l_nil ?_
              refine f_then ?_
              refine c_seq ?_
              refine c_region ?_
              refine l_val (v := .int .i64 (310)) rfl rfl rfl (e_move) ?_
              refine l_val (v := .bool true) rfl rfl rfl (e_neq (a := (310 : Int)) (b := (0 : Int)) rfl rfl) ?_
              refine l_nil ?_
              refine f_then ?_
              refine c_yes rfl ?_
              refine c_seq ?_
              refine c_region ?_
              refine l_val (v := .pointer (some ⟨b1, 0, none⟩)) rfl rfl rfl (e_move) ?_
              refine l_call rfl rfl rfl (cl_value (fst := []) (cap := []) (vs := [.pointer (some ⟨b1, 0, none⟩)]) (all := [.pointer (some ⟨b1, 0, none⟩)]) tf107 rfl rfl rfl) ?_
              intro w hw
              replace hw := hw.perm (L' := _ :: _ :: _ :: []) (by exact (((perm_front 2 rfl).trans (perm_front 1 rfl)).trans (perm_front 2 rfl)))
              obtain ⟨β1, sb, kn, hw1, back⟩ := St.frame (L := [_]) (M := _ :: _ :: []) hw
              refine (again_ok β1 w b1 (ckS K (I.epoch + 1) I.next (x8.body.take 300)) ((hI2.pow (p := -1) (by decide) (by decide)).okP (by omega)) (ckI I (x8.body.take 300)) hI2.read hw1).mono ?_
              rintro e w' ⟨J30, rfl, hw'⟩
              refine ⟨_, rfl, _, back _ _ hw', ?_⟩
              clear hw hw1 hw' back kn sb
              refine l_val (v := .tuple #[.pointer (some ⟨J30, 0, none⟩), .bool true]) rfl rfl rfl (e_move) ?_
              refine l_val (v := .pointer (some ⟨J30, 0, none⟩)) rfl rfl rfl (e_extract (vs := #[.pointer (some ⟨J30, 0, none⟩), .bool true]) rfl rfl) ?_
              refine l_val (v := .bool true) rfl rfl rfl (e_extract (vs := #[.pointer (some ⟨J30, 0, none⟩), .bool true]) rfl rfl) ?_
              refine l_val (v := .pointer (some ⟨J30, 0, none⟩)) rfl rfl rfl (e_assign) ?_
              refine l_val (v := .bool true) rfl rfl rfl (e_assign) ?_
              refine l_nil ?_
              refine f_then ?_
              refine c_seq ?_
              refine c_region ?_
              refine l_val (v := .bool true) rfl rfl rfl (e_move) ?_
              refine l_val (v := .bool false) rfl rfl rfl (e_not (a := true) rfl) ?_
              refine l_nil ?_
              refine f_then ?_
              refine c_no rfl ?_
              refine c_skip ?_
              refine f_then ?_
              refine c_seq ?_
              refine c_region ?_
              refine l_val (v := .pointer (some ⟨J30, 0, none⟩)) rfl rfl rfl (e_move) ?_
              refine l_call rfl rfl rfl (cl_value (fst := []) (cap := []) (vs := [.pointer (some ⟨J30, 0, none⟩)]) (all := [.pointer (some ⟨J30, 0, none⟩)]) tf90 rfl rfl rfl) ?_
              intro w hw
              obtain ⟨β1, sb, kn, hw1, back⟩ := St.frame_all hw
              refine (next_ok β1 w hw1 J30 b1 (ckI I (x8.body.take 300)) false (kn _ (Knows.of_res 0 rfl (JF.mono _ _ _ _) fun _ h => jour_jf h))).mono ?_
              rintro e w' ⟨rfl, hw'⟩
              refine ⟨_, rfl, _, back _ _ hw', ?_⟩
              clear hw hw1 hw' back kn sb
              refine l_val (v := Ix (((I.next : Nat) : Int) - 1)) rfl rfl rfl (e_move) ?_
              refine l_val (v := Ix ((((I.next : Nat) : Int) - 1) + (1 : Int))) rfl rfl rfl (e_add (a := (((I.next : Nat) : Int) - 1)) (b := (1 : Int)) rfl rfl (i64w (by omega))) ?_
              refine l_val (v := .bool (decide ((((ckI I (x8.body.take 300)).next : Nat) : Int) ≠ ((((I.next : Nat) : Int) - 1) + (1 : Int))))) rfl rfl rfl (e_neq (a := (((ckI I (x8.body.take 300)).next : Nat) : Int)) (b := ((((I.next : Nat) : Int) - 1) + (1 : Int))) rfl rfl) ?_
              refine l_nil ?_
              refine f_then ?_
              refine c_if ((((ckI I (x8.body.take 300)).next : Nat) : Int) ≠ ((((I.next : Nat) : Int) - 1) + (1 : Int))) rfl (fun hc31 => ?_) (fun hc31 => ?_)
              ·
                exact absurd hc31 (by omega)
              ·
                refine c_skip ?_
                refine f_block ?_
                refine f_block ?_
                refine f_then ?_
                refine c_region ?_
                refine l_val (v := Nx (k + 1)) rfl rfl rfl (e_add (a := ((k : Nat) : Int)) (b := (1 : Int)) rfl rfl (i64n (by omega) (by omega))) ?_
                refine l_val (v := Nx (k + 1)) rfl rfl rfl (e_move) ?_
                refine l_nil ?_
                refine f_mask (L' := [jourR J30 b1 (ckI I (x8.body.take 300)) false, storeR b1 (cutS (powS (ckS K (I.epoch + 1) I.next (x8.body.take 300))) (ckI I (x8.body.take 300)).epoch (ckI I (x8.body.take 300)).size)]) [true, true, false, false] rfl ?_
                exact f_cut ⟨(k + 1, (cutS (powS (ckS K (I.epoch + 1) I.next (x8.body.take 300))) (ckI I (x8.body.take 300)).epoch (ckI I (x8.body.take 300)).size), (ckI I (x8.body.take 300)), J30), ⟨⟨rfl, rfl, (congrArg (Value.int .i64) (by first | rfl | omega)), rfl, rfl, rfl⟩, rfl, ⟨by omega, ((hI2.pow (p := -1) (by decide) (by decide)).cut (show (-1 : Int) ≠ 0 by decide)).mono (by omega)⟩⟩, (show zs3.length - (k + 1) < zs3.length - k from by omega)⟩
        ·
          refine c_seq ?_
          refine c_region ?_
          refine l_val (v := .bool (decide (((x8.kind.toNat % 5 : Nat) : Int) = (3 : Int)))) rfl rfl rfl (e_eql (a := ((x8.kind.toNat % 5 : Nat) : Int)) (b := (3 : Int)) rfl rfl) ?_
          refine l_val (v := .bool (decide (((x8.kind.toNat % 5 : Nat) : Int) = (3 : Int)))) rfl rfl rfl (e_assign) ?_
          refine l_nil ?_
          refine f_then ?_
          refine c_if (((x8.kind.toNat % 5 : Nat) : Int) = (3 : Int)) rfl (fun hc32 => ?_) (fun hc32 => ?_)
          ·
            refine c_perm (L' := [storeR b1 K, pt b21 (.cells #[Bx (x8.kind), Bx (x8.power), .slice a16 (x8.body.length) (c17)] 47), jourR Jn b1 I false]) (by exact (((perm_front 1 rfl).trans (perm_front 1 rfl)).trans (perm_front 2 rfl))) ?_
            refine c_openStore rfl (fun pH33 pA34 pB35 cH36 cA37 cB38 => ?_)
            refine c_rowcap 1 rfl (fun hcl39 hcm40 => ?_)
            refine c_rowcap 2 rfl (fun hcl41 hcm42 => ?_)
            refine c_rowcap 3 rfl (fun hcl43 hcm44 => ?_)
            refine c_region ?_
            refine l_val (v := .pointer (some ⟨b1, 0, none⟩)) rfl rfl rfl (e_move) ?_
            refine l_val (v := .agg #[Bx (x8.kind), Bx (x8.power), .slice a16 (x8.body.length) (c17)]) rfl rfl rfl (e_load tf87 (cs := [Bx (x8.kind), Bx (x8.power), .slice a16 (x8.body.length) (c17)]) rfl (k_pt 4 (cs := #[Bx (x8.kind), Bx (x8.power), .slice a16 (x8.body.length) (c17)]) (vs := [Bx (x8.kind), Bx (x8.power), .slice a16 (x8.body.length) (c17)]) rfl rfl) rfl) ?_
            refine l_call rfl rfl rfl (cl_value (fst := []) (cap := []) (vs := [.agg #[Bx (x8.kind), Bx (x8.power), .slice a16 (x8.body.length) (c17)]]) (all := [.agg #[Bx (x8.kind), Bx (x8.power), .slice a16 (x8.body.length) (c17)]]) tf110 rfl rfl rfl) ?_
            intro w hw
            obtain ⟨β1, sb, kn, hw1, back⟩ := St.frame_all hw
            refine (power_ok β1 w hw1 x8 a16 c17 (by omega) (by omega) (Elems.mono _ _ _ _ _ sb he20)).mono ?_
            rintro e w' ⟨rfl, hw'⟩
            refine ⟨_, rfl, _, back _ _ hw', ?_⟩
            clear hw hw1 hw' back kn sb
            refine l_val (v := .pointer (some ⟨b1, 0, none⟩)) rfl rfl rfl (e_nil (a := ⟨b1, 0, none⟩) rfl) ?_
            refine l_val (v := .pointer (some ⟨b1, 3, none⟩)) rfl rfl rfl (e_fieldPt (b := b1) (o := 0) rfl tf24) ?_
            refine l_mu rfl rfl (m_store 0 tf25 (b := b1) (o := 3) (T := 32) (cs := #[.slice pH33 (K.head).length cH36, .slice pA34 (K.a).length cA37, .slice pB35 (K.b).length cB38, Ix (K.power)]) (cs' := #[.slice pH33 (K.head).length cH36, .slice pA34 (K.a).length cA37, .slice pB35 (K.b).length cB38, Ix (powerF x8)]) (v := Ix (powerF x8)) rfl rfl rfl rfl rfl rfl rfl) ?_
            refine l_nil ?_
            refine f_block ?_
            refine f_block ?_
            refine f_then ?_
            refine c_perm (L' := [pt b1 (.cells #[.slice pH33 (K.head).length cH36, .slice pA34 (K.a).length cA37, .slice pB35 (K.b).length cB38, Ix (powerF x8)] 32), row (.slice pH33 (K.head).length cH36) 5 1 ((K.head).length) (BX K.head), row (.slice pA34 (K.a).length cA37) 5 1 ((K.a).length) (BX K.a), row (.slice pB35 (K.b).length cB38) 5 1 ((K.b).length) (BX K.b), pt b21 (.cells #[Bx (x8.kind), Bx (x8.power), .slice a16 (x8.body.length) (c17)] 47), jourR Jn b1 I false]) (by exact ((((((perm_front 5 rfl).trans (perm_front 5 rfl)).trans (perm_front 5 rfl)).trans (perm_front 5 rfl)).trans (perm_front 5 rfl)).trans (perm_front 5 rfl))) ?_
            refine c_closeStore (S := b1) (k := ({ K with power := powerF x8 } : KS)) (pH := pH33) (pA := pA34) (pB := pB35) (cH := cH36) (cA := cA37) (cB := cB38) (M := (pt b21 (.cells #[Bx (x8.kind), Bx (x8.power), .slice a16 (x8.body.length) (c17)] 47) :: jourR Jn b1 I false :: [])) rfl ?_
            refine c_region ?_
            refine l_val (v := Nx (k + 1)) rfl rfl rfl (e_add (a := ((k : Nat) : Int)) (b := (1 : Int)) rfl rfl (i64n (by omega) (by omega))) ?_
            refine l_val (v := Nx (k + 1)) rfl rfl rfl (e_move) ?_
            refine l_nil ?_
            refine f_perm (L' := [jourR Jn b1 I false, storeR b1 ({ K with power := powerF x8 } : KS), pt b21 (.cells #[Bx (x8.kind), Bx (x8.power), .slice a16 (x8.body.length) (c17)] 47)]) (((perm_front 1 rfl).trans (perm_front 1 rfl)).trans (perm_front 2 rfl)) ?_
            refine f_mask (L' := [jourR Jn b1 I false, storeR b1 ({ K with power := powerF x8 } : KS)]) [true, true, false] rfl ?_
            exact f_cut ⟨(k + 1, ({ K with power := powerF x8 } : KS), I, Jn), ⟨⟨rfl, rfl, (congrArg (Value.int .i64) (by first | rfl | omega)), rfl, rfl, rfl⟩, rfl, ⟨by omega, (hI.pow (powerF_ge _) (powerF_le _)).mono (by omega)⟩⟩, (show zs3.length - (k + 1) < zs3.length - k from by omega)⟩
          ·
            refine c_seq ?_
            refine c_region ?_
            refine l_val (v := .pointer (some ⟨b1, 0, none⟩)) rfl rfl rfl (e_move) ?_
            refine l_call rfl rfl rfl (cl_value (fst := []) (cap := []) (vs := [.pointer (some ⟨b1, 0, none⟩)]) (all := [.pointer (some ⟨b1, 0, none⟩)]) tf107 rfl rfl rfl) ?_
            intro w hw
            replace hw := hw.perm (L' := _ :: _ :: _ :: []) (by exact (((perm_front 1 rfl).trans (perm_front 1 rfl)).trans (perm_front 2 rfl)))
            obtain ⟨β1, sb, kn, hw1, back⟩ := St.frame (L := [_]) (M := _ :: _ :: []) hw
            refine (again_ok β1 w b1 K ((hI.pow (p := -1) (by decide) (by decide)).okP (by omega)) I hI.read hw1).mono ?_
            rintro e w' ⟨J45, rfl, hw'⟩
            refine ⟨_, rfl, _, back _ _ hw', ?_⟩
            clear hw hw1 hw' back kn sb
            refine l_val (v := .tuple #[.pointer (some ⟨J45, 0, none⟩), .bool true]) rfl rfl rfl (e_move) ?_
            refine l_val (v := .pointer (some ⟨J45, 0, none⟩)) rfl rfl rfl (e_extract (vs := #[.pointer (some ⟨J45, 0, none⟩), .bool true]) rfl rfl) ?_
            refine l_val (v := .bool true) rfl rfl rfl (e_extract (vs := #[.pointer (some ⟨J45, 0, none⟩), .bool true]) rfl rfl) ?_
            refine l_val (v := .pointer (some ⟨J45, 0, none⟩)) rfl rfl rfl (e_assign) ?_
            refine l_val (v := .bool true) rfl rfl rfl (e_assign) ?_
            refine l_nil ?_
            refine f_then ?_
            refine c_seq ?_
            refine c_region ?_
            refine l_val (v := .bool true) rfl rfl rfl (e_move) ?_
            refine l_val (v := .bool false) rfl rfl rfl (e_not (a := true) rfl) ?_
            refine l_val (v := .bool false) rfl rfl rfl (e_move) ?_
            refine g_val (v := .pointer (some ⟨J45, 0, none⟩)) rfl rfl rfl rfl rfl (e_move) ?_
            refine g_call rfl rfl rfl rfl rfl (cl_value (fst := []) (cap := []) (vs := [.pointer (some ⟨J45, 0, none⟩)]) (all := [.pointer (some ⟨J45, 0, none⟩)]) tf90 rfl rfl rfl) ?_
            intro w hw
            obtain ⟨β1, sb, kn, hw1, back⟩ := St.frame_all hw
            refine (next_ok β1 w hw1 J45 b1 I false (kn _ (Knows.of_res 0 rfl (JF.mono _ _ _ _) fun _ h => jour_jf h))).mono ?_
            rintro e w' ⟨rfl, hw'⟩
            refine ⟨_, rfl, _, back _ _ hw', ?_⟩
            clear hw hw1 hw' back kn sb
            refine g_val (v := Ix (((I.next : Nat) : Int) - 1)) rfl rfl rfl rfl rfl (e_move) ?_
            refine g_val (v := Ix ((((I.next : Nat) : Int) - 1) + (1 : Int))) rfl rfl rfl rfl rfl (e_add (a := (((I.next : Nat) : Int) - 1)) (b := (1 : Int)) rfl rfl (i64w (by omega))) ?_
            refine g_val (v := .bool (decide (((I.next : Nat) : Int) ≠ ((((I.next : Nat) : Int) - 1) + (1 : Int))))) rfl rfl rfl rfl rfl (e_neq (a := ((I.next : Nat) : Int)) (b := ((((I.next : Nat) : Int) - 1) + (1 : Int))) rfl rfl) ?_
            refine l_val (v := .bool (decide (((I.next : Nat) : Int) ≠ ((((I.next : Nat) : Int) - 1) + (1 : Int))))) rfl rfl rfl (e_pick_f rfl) ?_
            refine l_nil ?_
            refine f_then ?_
            refine c_if (((I.next : Nat) : Int) ≠ ((((I.next : Nat) : Int) - 1) + (1 : Int))) rfl (fun hc46 => ?_) (fun hc46 => ?_)
            ·
              exact absurd hc46 (by omega)
            ·
              refine c_skip ?_
              refine f_block ?_
              refine f_block ?_
              refine f_then ?_
              refine c_region ?_
              refine l_val (v := Nx (k + 1)) rfl rfl rfl (e_add (a := ((k : Nat) : Int)) (b := (1 : Int)) rfl rfl (i64n (by omega) (by omega))) ?_
              refine l_val (v := Nx (k + 1)) rfl rfl rfl (e_move) ?_
              refine l_nil ?_
              refine f_mask (L' := [jourR J45 b1 I false, storeR b1 (cutS (powS K) I.epoch I.size)]) [true, true, false, false] rfl ?_
              exact f_cut ⟨(k + 1, (cutS (powS K) I.epoch I.size), I, J45), ⟨⟨rfl, rfl, (congrArg (Value.int .i64) (by first | rfl | omega)), rfl, rfl, rfl⟩, rfl, ⟨by omega, ((hI.pow (p := -1) (by decide) (by decide)).cut (show (-1 : Int) ≠ 0 by decide)).mono (by omega)⟩⟩, (show zs3.length - (k + 1) < zs3.length - k from by omega)⟩
    ·
      refine c_region ?_
      refine l_val (v := .bool (decide (((x8.kind.toNat % 5 : Nat) : Int) = (1 : Int)))) rfl rfl rfl (e_eql (a := ((x8.kind.toNat % 5 : Nat) : Int)) (b := (1 : Int)) rfl rfl) ?_
      refine l_val (v := .bool (decide (((x8.kind.toNat % 5 : Nat) : Int) = (1 : Int)))) rfl rfl rfl (e_assign) ?_
      refine l_nil ?_
      refine f_then ?_
      refine c_if (((x8.kind.toNat % 5 : Nat) : Int) = (1 : Int)) rfl (fun hc47 => ?_) (fun hc47 => ?_)
      ·
        refine c_seq ?_
        by_cases hc : apOk K I (x8.body.take 300)
        ·
          have hI2 := hI.ap_ok (by omega) (by simp; omega) hc
          have hapn : (apI I (x8.body.take 300)).next = I.next + 1 := rfl
          refine c_region ?_
          refine l_val (v := .pointer (some ⟨Jn, 0, none⟩)) rfl rfl rfl (e_move) ?_
          refine l_val (v := .agg #[Bx (x8.kind), Bx (x8.power), .slice a16 (x8.body.length) (c17)]) rfl rfl rfl (e_load tf87 (cs := [Bx (x8.kind), Bx (x8.power), .slice a16 (x8.body.length) (c17)]) rfl (k_pt 0 (cs := #[Bx (x8.kind), Bx (x8.power), .slice a16 (x8.body.length) (c17)]) (vs := [Bx (x8.kind), Bx (x8.power), .slice a16 (x8.body.length) (c17)]) rfl rfl) rfl) ?_
          refine l_call rfl rfl rfl (cl_value (fst := []) (cap := []) (vs := [.agg #[Bx (x8.kind), Bx (x8.power), .slice a16 (x8.body.length) (c17)]]) (all := [.agg #[Bx (x8.kind), Bx (x8.power), .slice a16 (x8.body.length) (c17)]]) tf100 rfl rfl rfl) ?_
          intro w hw
          obtain ⟨β1, sb, kn, hw1, back⟩ := St.frame_all hw
          refine (body_ok β1 w hw1 x8 a16 c17 (by omega) (by omega) (Elems.mono _ _ _ _ _ sb he20)).mono ?_
          rintro e w' ⟨rfl, hw'⟩
          refine ⟨_, rfl, _, back _ _ hw', ?_⟩
          clear hw hw1 hw' back kn sb
          refine l_call rfl rfl rfl (cl_value (fst := []) (cap := []) (vs := [.pointer (some ⟨Jn, 0, none⟩), .slice a16 ((x8.body.take 300).length) (c17)]) (all := [.pointer (some ⟨Jn, 0, none⟩), .slice a16 ((x8.body.take 300).length) (c17)]) tf102 rfl rfl rfl) ?_
          intro w hw
          replace hw := hw.perm (L' := _ :: _ :: _ :: []) (by exact (((perm_front 0 rfl).trans (perm_front 2 rfl)).trans (perm_front 2 rfl)))
          obtain ⟨β1, sb, kn, hw1, back⟩ := St.frame (L := [_, _]) (M := _ :: []) hw
          refine (append_ok β1 w Jn b1 K I (x8.body.take 300) (by simp; omega) hfit (by omega) (by omega) (by omega) (by simp; omega) (by omega) hc _ (Sl.mono _ _ _ _ _ sb (⟨⟨_, _, rfl, by simp only [List.length_take]; omega, by omega, Elems.take 300 he20⟩⟩ : Sl U8R _ _ (x8.body.take 300))) hw1).mono ?_
          rintro e w' ⟨rfl, hw'⟩
          refine ⟨_, rfl, _, back _ _ hw', ?_⟩
          clear hw hw1 hw' back kn sb
          refine l_val (v := .tuple #[Nx (I.next), .int .i64 (0)]) rfl rfl rfl (e_move) ?_
          refine l_val (v := Nx (I.next)) rfl rfl rfl (e_extract (vs := #[Nx (I.next), .int .i64 (0)]) rfl rfl) ?_
          refine l_val (v := .int .i64 (0)) rfl rfl rfl (e_extract (vs := #[Nx (I.next), .int .i64 (0)]) rfl rfl) ?_
          refine l_val (v := Nx (I.next)) rfl rfl rfl (e_assign) ?_
          refine l_val (v := .int .i64 (0)) rfl rfl rfl (e_assign) ?_
          refine l_nil ?_
          refine f_then ?_
          refine c_seq ?_
          refine c_region ?_
          refine l_val (v := .int .i64 (0)) rfl rfl rfl (e_move) ?_
          refine l_val (v := .bool true) rfl rfl rfl (e_eql (a := (0 : Int)) (b := (0 : Int)) rfl rfl) ?_
          refine l_nil ?_
          refine f_then ?_
          refine c_yes rfl ?_
          refine c_seq ?_
          refine c_seq ?_
          refine c_region ?_
          refine l_val (v := Nx (I.next)) rfl rfl rfl (e_move) ?_
          refine l_val (v := Ix (((I.next : Nat) : Int) - 1)) rfl rfl rfl (e_move) ?_
          refine l_val (v := Ix ((((I.next : Nat) : Int) - 1) + (1 : Int))) rfl rfl rfl (e_add (a := (((I.next : Nat) : Int) - 1)) (b := (1 : Int)) rfl rfl (i64w (by omega))) ?_
          refine l_val (v := .bool (decide (((I.next : Nat) : Int) ≠ ((((I.next : Nat) : Int) - 1) + (1 : Int))))) rfl rfl rfl (e_neq (a := ((I.next : Nat) : Int)) (b := ((((I.next : Nat) : Int) - 1) + (1 : Int))) rfl rfl) ?_
          refine l_val (v := .bool (decide (((I.next : Nat) : Int) ≠ ((((I.next : Nat) : Int) - 1) + (1 : Int))))) rfl rfl rfl (e_move) ?_
          refine l_split (s := 64) (p := ((I.next : Nat) : Int) ≠ ((((I.next : Nat) : Int) - 1) + (1 : Int))) rfl (fun h => ?_) (fun h => ?_)
          exact absurd h (by omega)
          refine g_val (v := .pointer (some ⟨Jn, 0, none⟩)) rfl rfl rfl rfl rfl (e_move) ?_
          refine g_call rfl rfl rfl rfl rfl (cl_value (fst := []) (cap := []) (vs := [.pointer (some ⟨Jn, 0, none⟩)]) (all := [.pointer (some ⟨Jn, 0, none⟩)]) tf90 rfl rfl rfl) ?_
          intro w hw
          obtain ⟨β1, sb, kn, hw1, back⟩ := St.frame_all hw
          refine (next_ok β1 w hw1 Jn b1 (apI I (x8.body.take 300)) false (kn _ (Knows.of_res 0 rfl (JF.mono _ _ _ _) fun _ h => jour_jf h))).mono ?_
          rintro e w' ⟨rfl, hw'⟩
          refine ⟨_, rfl, _, back _ _ hw', ?_⟩
          clear hw hw1 hw' back kn sb
          refine g_val (v := Nx (I.next)) rfl rfl rfl rfl rfl (e_move) ?_
          refine g_val (v := Nx (I.next + 1)) rfl rfl rfl rfl rfl (e_add (a := ((I.next : Nat) : Int)) (b := (1 : Int)) rfl rfl (i64n (by omega) (by omega))) ?_
          refine g_val (v := .bool (decide ((((apI I (x8.body.take 300)).next : Nat) : Int) ≠ ((I.next + 1 : Nat) : Int)))) rfl rfl rfl rfl rfl (e_neq (a := (((apI I (x8.body.take 300)).next : Nat) : Int)) (b := ((I.next + 1 : Nat) : Int)) rfl rfl) ?_
          refine l_val (v := .bool (decide ((((apI I (x8.body.take 300)).next : Nat) : Int) ≠ ((I.next + 1 : Nat) : Int)))) rfl rfl rfl (e_pick_f rfl) ?_
          refine l_nil ?_
          refine f_then ?_
          refine c_if ((((apI I (x8.body.take 300)).next : Nat) : Int) ≠ ((I.next + 1 : Nat) : Int)) rfl (fun hc48 => ?_) (fun hc48 => ?_)
          ·
            exact absurd hc48 (by omega)
          ·
            refine c_skip ?_
            refine f_then ?_
            refine c_region ?_
            refine l_val (v := Nx (I.next)) rfl rfl rfl (e_move) ?_
            refine l_val (v := Nx (I.next)) rfl rfl rfl (e_assign) ?_
            refine l_nil ?_
            refine f_block ?_
            refine f_block ?_
            refine f_then ?_
            refine c_region ?_
            refine l_val (v := Nx (k + 1)) rfl rfl rfl (e_add (a := ((k : Nat) : Int)) (b := (1 : Int)) rfl rfl (i64n (by omega) (by omega))) ?_
            refine l_val (v := Nx (k + 1)) rfl rfl rfl (e_move) ?_
            refine l_nil ?_
            refine f_mask (L' := [jourR Jn b1 (apI I (x8.body.take 300)) false, storeR b1 (apS K I (x8.body.take 300))]) [true, true, false] rfl ?_
            exact f_cut ⟨(k + 1, (apS K I (x8.body.take 300)), (apI I (x8.body.take 300)), Jn), ⟨⟨rfl, rfl, (congrArg (Value.int .i64) (by first | rfl | omega)), rfl, rfl, rfl⟩, rfl, ⟨by omega, hI2⟩⟩, (show zs3.length - (k + 1) < zs3.length - k from by omega)⟩
        ·
          have hI2 := hI.ap_no (by simp; omega) hc
          refine c_region ?_
          refine l_val (v := .pointer (some ⟨Jn, 0, none⟩)) rfl rfl rfl (e_move) ?_
          refine l_val (v := .agg #[Bx (x8.kind), Bx (x8.power), .slice a16 (x8.body.length) (c17)]) rfl rfl rfl (e_load tf87 (cs := [Bx (x8.kind), Bx (x8.power), .slice a16 (x8.body.length) (c17)]) rfl (k_pt 0 (cs := #[Bx (x8.kind), Bx (x8.power), .slice a16 (x8.body.length) (c17)]) (vs := [Bx (x8.kind), Bx (x8.power), .slice a16 (x8.body.length) (c17)]) rfl rfl) rfl) ?_
          refine l_call rfl rfl rfl (cl_value (fst := []) (cap := []) (vs := [.agg #[Bx (x8.kind), Bx (x8.power), .slice a16 (x8.body.length) (c17)]]) (all := [.agg #[Bx (x8.kind), Bx (x8.power), .slice a16 (x8.body.length) (c17)]]) tf100 rfl rfl rfl) ?_
          intro w hw
          obtain ⟨β1, sb, kn, hw1, back⟩ := St.frame_all hw
          refine (body_ok β1 w hw1 x8 a16 c17 (by omega) (by omega) (Elems.mono _ _ _ _ _ sb he20)).mono ?_
          rintro e w' ⟨rfl, hw'⟩
          refine ⟨_, rfl, _, back _ _ hw', ?_⟩
          clear hw hw1 hw' back kn sb
          refine l_call rfl rfl rfl (cl_value (fst := []) (cap := []) (vs := [.pointer (some ⟨Jn, 0, none⟩), .slice a16 ((x8.body.take 300).length) (c17)]) (all := [.pointer (some ⟨Jn, 0, none⟩), .slice a16 ((x8.body.take 300).length) (c17)]) tf102 rfl rfl rfl) ?_
          intro w hw
          replace hw := hw.perm (L' := _ :: _ :: _ :: []) (by exact (((perm_front 0 rfl).trans (perm_front 2 rfl)).trans (perm_front 2 rfl)))
          obtain ⟨β1, sb, kn, hw1, back⟩ := St.frame (L := [_, _]) (M := _ :: []) hw
          refine (append_fail β1 w Jn b1 K I (x8.body.take 300) (by simp; omega) hfit (by omega) (by omega) (by omega) (by simp; omega) (by omega) hc _ (Sl.mono _ _ _ _ _ sb (⟨⟨_, _, rfl, by simp only [List.length_take]; omega, by omega, Elems.take 300 he20⟩⟩ : Sl U8R _ _ (x8.body.take 300))) hw1).mono ?_
          rintro e w' ⟨rfl, hw'⟩
          refine ⟨_, rfl, _, back _ _ hw', ?_⟩
          clear hw hw1 hw' back kn sb
          refine l_val (v := .tuple #[.int .i64 (0), .int .i64 (310)]) rfl rfl rfl (e_move) ?_
          refine l_val (v := .int .i64 (0)) rfl rfl rfl (e_extract (vs := #[.int .i64 (0), .int .i64 (310)]) rfl rfl) ?_
          refine l_val (v := .int .i64 (310)) rfl rfl rfl (e_extract (vs := #[.int .i64 (0), .int .i64 (310)]) rfl rfl) ?_
          refine l_val (v := .int .i64 (0)) rfl rfl rfl (e_assign) ?_
          refine l_val (v := .int .i64 (310)) rfl rfl rfl (e_assign) ?_
          refine l_nil ?_
          refine f_then ?_
          refine c_seq ?_
          refine c_region ?_
          refine l_val (v := .int .i64 (310)) rfl rfl rfl (e_move) ?_
          refine l_val (v := .bool false) rfl rfl rfl (e_eql (a := (310 : Int)) (b := (0 : Int)) rfl rfl) ?_
          refine l_nil ?_
          refine f_then ?_
          refine c_no rfl ?_
          refine c_seq ?_
          refine c_seq ?_
          refine c_region ?_
          refine l_val (v := .pointer (some ⟨b1, 0, none⟩)) rfl rfl rfl (e_move) ?_
          refine l_call rfl rfl rfl (cl_value (fst := []) (cap := []) (vs := [.pointer (some ⟨b1, 0, none⟩)]) (all := [.pointer (some ⟨b1, 0, none⟩)]) tf107 rfl rfl rfl) ?_
          intro w hw
          replace hw := hw.perm (L' := _ :: _ :: _ :: []) (by exact (((perm_front 2 rfl).trans (perm_front 1 rfl)).trans (perm_front 2 rfl)))
          obtain ⟨β1, sb, kn, hw1, back⟩ := St.frame (L := [_]) (M := _ :: _ :: []) hw
          refine (again_ok β1 w b1 (apS K I (x8.body.take 300)) ((hI2.pow (p := -1) (by decide) (by decide)).okP (by omega)) I hI2.read hw1).mono ?_
          rintro e w' ⟨J49, rfl, hw'⟩
          refine ⟨_, rfl, _, back _ _ hw', ?_⟩
          clear hw hw1 hw' back kn sb
          refine l_val (v := .tuple #[.pointer (some ⟨J49, 0, none⟩), .bool true]) rfl rfl rfl (e_move) ?_
          refine l_val (v := .pointer (some ⟨J49, 0, none⟩)) rfl rfl rfl (e_extract (vs := #[.pointer (some ⟨J49, 0, none⟩), .bool true]) rfl rfl) ?_
          refine l_val (v := .bool true) rfl rfl rfl (e_extract (vs := #[.pointer (some ⟨J49, 0, none⟩), .bool true]) rfl rfl) ?_
          refine l_val (v := .pointer (some ⟨J49, 0, none⟩)) rfl rfl rfl (e_assign) ?_
          refine l_val (v := .bool true) rfl rfl rfl (e_assign) ?_
          refine l_nil ?_
          refine f_then ?_
          refine c_seq ?_
          refine c_region ?_
          refine l_val (v := .bool true) rfl rfl rfl (e_move) ?_
          refine l_val (v := .bool false) rfl rfl rfl (e_not (a := true) rfl) ?_
          refine l_val (v := .bool false) rfl rfl rfl (e_move) ?_
          refine g_val (v := .pointer (some ⟨J49, 0, none⟩)) rfl rfl rfl rfl rfl (e_move) ?_
          refine g_call rfl rfl rfl rfl rfl (cl_value (fst := []) (cap := []) (vs := [.pointer (some ⟨J49, 0, none⟩)]) (all := [.pointer (some ⟨J49, 0, none⟩)]) tf90 rfl rfl rfl) ?_
          intro w hw
          obtain ⟨β1, sb, kn, hw1, back⟩ := St.frame_all hw
          refine (next_ok β1 w hw1 J49 b1 I false (kn _ (Knows.of_res 0 rfl (JF.mono _ _ _ _) fun _ h => jour_jf h))).mono ?_
          rintro e w' ⟨rfl, hw'⟩
          refine ⟨_, rfl, _, back _ _ hw', ?_⟩
          clear hw hw1 hw' back kn sb
          refine g_val (v := Ix (((I.next : Nat) : Int) - 1)) rfl rfl rfl rfl rfl (e_move) ?_
          refine g_val (v := Ix ((((I.next : Nat) : Int) - 1) + (1 : Int))) rfl rfl rfl rfl rfl (e_add (a := (((I.next : Nat) : Int) - 1)) (b := (1 : Int)) rfl rfl (i64w (by omega))) ?_
          refine g_val (v := .bool (decide (((I.next : Nat) : Int) ≠ ((((I.next : Nat) : Int) - 1) + (1 : Int))))) rfl rfl rfl rfl rfl (e_neq (a := ((I.next : Nat) : Int)) (b := ((((I.next : Nat) : Int) - 1) + (1 : Int))) rfl rfl) ?_
          refine g_val (v := .bool (decide (((I.next : Nat) : Int) ≠ ((((I.next : Nat) : Int) - 1) + (1 : Int))))) rfl rfl rfl rfl rfl (e_move) ?_
          refine l_split (s := 85) (p := ((I.next : Nat) : Int) ≠ ((((I.next : Nat) : Int) - 1) + (1 : Int))) rfl (fun h => ?_) (fun h => ?_)
          exact absurd h (by omega)
          refine l_skip rfl rfl rfl rfl rfl rfl ?_
          refine l_skip rfl rfl rfl rfl rfl rfl ?_
          refine l_skip rfl rfl rfl rfl rfl rfl ?_
          refine l_skip rfl rfl rfl rfl rfl rfl ?_
          refine l_skip rfl rfl rfl rfl rfl rfl ?_
          refine g_val (v := .bool false) rfl rfl rfl rfl rfl (e_pick_f rfl) ?_
          refine l_val (v := .bool false) rfl rfl rfl (e_pick_f rfl) ?_
          refine l_nil ?_
          refine f_then ?_
          refine c_no rfl ?_
          refine c_skip ?_
          refine f_then ?_
          refine c_region ?_
          refine l_val (v := .pointer (some ⟨J49, 0, none⟩)) rfl rfl rfl (e_move) ?_
          refine l_call rfl rfl rfl (cl_value (fst := []) (cap := []) (vs := [.pointer (some ⟨J49, 0, none⟩)]) (all := [.pointer (some ⟨J49, 0, none⟩)]) tf90 rfl rfl rfl) ?_
          intro w hw
          obtain ⟨β1, sb, kn, hw1, back⟩ := St.frame_all hw
          refine (next_ok β1 w hw1 J49 b1 I false (kn _ (Knows.of_res 0 rfl (JF.mono _ _ _ _) fun _ h => jour_jf h))).mono ?_
          rintro e w' ⟨rfl, hw'⟩
          refine ⟨_, rfl, _, back _ _ hw', ?_⟩
          clear hw hw1 hw' back kn sb
          refine l_val (v := Ix (((I.next : Nat) : Int) - (1 : Int))) rfl rfl rfl (e_sub (a := ((I.next : Nat) : Int)) (b := (1 : Int)) rfl rfl (i64w (by omega))) ?_
          refine l_val (v := Ix (((I.next : Nat) : Int) - (1 : Int))) rfl rfl rfl (e_assign) ?_
          refine l_nil ?_
          refine f_block ?_
          refine f_block ?_
          refine f_then ?_
          refine c_region ?_
          refine l_val (v := Nx (k + 1)) rfl rfl rfl (e_add (a := ((k : Nat) : Int)) (b := (1 : Int)) rfl rfl (i64n (by omega) (by omega))) ?_
          refine l_val (v := Nx (k + 1)) rfl rfl rfl (e_move) ?_
          refine l_nil ?_
          refine f_mask (L' := [jourR J49 b1 I false, storeR b1 (cutS (powS (apS K I (x8.body.take 300))) I.epoch I.size)]) [true, true, false, false] rfl ?_
          exact f_cut ⟨(k + 1, (cutS (powS (apS K I (x8.body.take 300))) I.epoch I.size), I, J49), ⟨⟨rfl, rfl, (congrArg (Value.int .i64) (by first | rfl | omega)), rfl, rfl, rfl⟩, rfl, ⟨by omega, ((hI2.pow (p := -1) (by decide) (by decide)).cut (show (-1 : Int) ≠ 0 by decide)).mono (by omega)⟩⟩, (show zs3.length - (k + 1) < zs3.length - k from by omega)⟩
      ·
        refine c_seq ?_
        refine c_region ?_
        refine l_val (v := .bool (decide (((x8.kind.toNat % 5 : Nat) : Int) = (2 : Int)))) rfl rfl rfl (e_eql (a := ((x8.kind.toNat % 5 : Nat) : Int)) (b := (2 : Int)) rfl rfl) ?_
        refine l_val (v := .bool (decide (((x8.kind.toNat % 5 : Nat) : Int) = (2 : Int)))) rfl rfl rfl (e_assign) ?_
        refine l_nil ?_
        refine f_then ?_
        refine c_if (((x8.kind.toNat % 5 : Nat) : Int) = (2 : Int)) rfl (fun hc50 => ?_) (fun hc50 => ?_)
        ·
          refine c_seq ?_
          refine c_seq ?_
          by_cases hc : ckOk K (I.epoch + 1) I.next (x8.body.take 300)
          ·
            have hckn : (ckI I (x8.body.take 300)).next = I.next := rfl
            have hI2 := hI.ck_ok (by omega) (by simp; omega) hc
            refine c_region ?_
            refine l_val (v := .pointer (some ⟨Jn, 0, none⟩)) rfl rfl rfl (e_move) ?_
            refine l_val (v := .agg #[Bx (x8.kind), Bx (x8.power), .slice a16 (x8.body.length) (c17)]) rfl rfl rfl (e_load tf87 (cs := [Bx (x8.kind), Bx (x8.power), .slice a16 (x8.body.length) (c17)]) rfl (k_pt 0 (cs := #[Bx (x8.kind), Bx (x8.power), .slice a16 (x8.body.length) (c17)]) (vs := [Bx (x8.kind), Bx (x8.power), .slice a16 (x8.body.length) (c17)]) rfl rfl) rfl) ?_
            refine l_call rfl rfl rfl (cl_value (fst := []) (cap := []) (vs := [.agg #[Bx (x8.kind), Bx (x8.power), .slice a16 (x8.body.length) (c17)]]) (all := [.agg #[Bx (x8.kind), Bx (x8.power), .slice a16 (x8.body.length) (c17)]]) tf100 rfl rfl rfl) ?_
            intro w hw
            obtain ⟨β1, sb, kn, hw1, back⟩ := St.frame_all hw
            refine (body_ok β1 w hw1 x8 a16 c17 (by omega) (by omega) (Elems.mono _ _ _ _ _ sb he20)).mono ?_
            rintro e w' ⟨rfl, hw'⟩
            refine ⟨_, rfl, _, back _ _ hw', ?_⟩
            clear hw hw1 hw' back kn sb
            refine l_call rfl rfl rfl (cl_value (fst := []) (cap := []) (vs := [.pointer (some ⟨Jn, 0, none⟩), .slice a16 ((x8.body.take 300).length) (c17)]) (all := [.pointer (some ⟨Jn, 0, none⟩), .slice a16 ((x8.body.take 300).length) (c17)]) tf103 rfl rfl rfl) ?_
            intro w hw
            replace hw := hw.perm (L' := _ :: _ :: _ :: []) (by exact (((perm_front 0 rfl).trans (perm_front 2 rfl)).trans (perm_front 2 rfl)))
            obtain ⟨β1, sb, kn, hw1, back⟩ := St.frame (L := [_, _]) (M := _ :: []) hw
            refine (checkp_ok β1 w Jn b1 K I (x8.body.take 300) (by simp; omega) hfit (by omega) hc _ (Sl.mono _ _ _ _ _ sb (⟨⟨_, _, rfl, by simp only [List.length_take]; omega, by omega, Elems.take 300 he20⟩⟩ : Sl U8R _ _ (x8.body.take 300))) hw1).mono ?_
            rintro e w' ⟨rfl, hw'⟩
            refine ⟨_, rfl, _, back _ _ hw', ?_⟩
            clear hw hw1 hw' back kn sb
            refine l_val (v := .int .i64 (0)) rfl rfl rfl (e_assign) ?_
            refine l_nil ?_
            refine f_then ?_
            refine c_seq ?_
            refine c_region ?_
            refine l_val (v := .int .i64 (0)) rfl rfl rfl (e_move) ?_
            refine l_val (v := .bool false) rfl rfl rfl (e_neq (a := (0 : Int)) (b := (0 : Int)) rfl rfl) ?_
            refine l_nil ?_
            refine f_then ?_
            refine c_no rfl ?_
            refine c_skip ?_
            refine f_then ?_
            refine c_seq ?_
            refine c_region ?_
            refine l_val (v := .pointer (some ⟨Jn, 0, none⟩)) rfl rfl rfl (e_move) ?_
            refine l_call rfl rfl rfl (cl_value (fst := []) (cap := []) (vs := [.pointer (some ⟨Jn, 0, none⟩)]) (all := [.pointer (some ⟨Jn, 0, none⟩)]) tf90 rfl rfl rfl) ?_
            intro w hw
            obtain ⟨β1, sb, kn, hw1, back⟩ := St.frame_all hw
            refine (next_ok β1 w hw1 Jn b1 (ckI I (x8.body.take 300)) false (kn _ (Knows.of_res 0 rfl (JF.mono _ _ _ _) fun _ h => jour_jf h))).mono ?_
            rintro e w' ⟨rfl, hw'⟩
            refine ⟨_, rfl, _, back _ _ hw', ?_⟩
            clear hw hw1 hw' back kn sb
            refine l_val (v := Ix (((I.next : Nat) : Int) - 1)) rfl rfl rfl (e_move) ?_
            refine l_val (v := Ix ((((I.next : Nat) : Int) - 1) + (1 : Int))) rfl rfl rfl (e_add (a := (((I.next : Nat) : Int) - 1)) (b := (1 : Int)) rfl rfl (i64w (by omega))) ?_
            refine l_val (v := .bool (decide ((((ckI I (x8.body.take 300)).next : Nat) : Int) ≠ ((((I.next : Nat) : Int) - 1) + (1 : Int))))) rfl rfl rfl (e_neq (a := (((ckI I (x8.body.take 300)).next : Nat) : Int)) (b := ((((I.next : Nat) : Int) - 1) + (1 : Int))) rfl rfl) ?_
            refine l_nil ?_
            refine f_then ?_
            refine c_if ((((ckI I (x8.body.take 300)).next : Nat) : Int) ≠ ((((I.next : Nat) : Int) - 1) + (1 : Int))) rfl (fun hc51 => ?_) (fun hc51 => ?_)
            ·
              exact absurd hc51 (by omega)
            ·
              refine c_skip ?_
              refine f_block ?_
              refine f_block ?_
              refine f_then ?_
              refine c_region ?_
              refine l_val (v := Nx (k + 1)) rfl rfl rfl (e_add (a := ((k : Nat) : Int)) (b := (1 : Int)) rfl rfl (i64n (by omega) (by omega))) ?_
              refine l_val (v := Nx (k + 1)) rfl rfl rfl (e_move) ?_
              refine l_nil ?_
              refine f_mask (L' := [jourR Jn b1 (ckI I (x8.body.take 300)) false, storeR b1 (ckS K (I.epoch + 1) I.next (x8.body.take 300))]) [true, true, false] rfl ?_
              exact f_cut ⟨(k + 1, (ckS K (I.epoch + 1) I.next (x8.body.take 300)), (ckI I (x8.body.take 300)), Jn), ⟨⟨rfl, rfl, (congrArg (Value.int .i64) (by first | rfl | omega)), rfl, rfl, rfl⟩, rfl, ⟨by omega, hI2⟩⟩, (show zs3.length - (k + 1) < zs3.length - k from by omega)⟩
          ·
            have hckn : (ckI I (x8.body.take 300)).next = I.next := rfl
            rcases hI.ck_no (by omega) (by simp; omega) hc with hI2 | hI2
            ·
              refine c_region ?_
              refine l_val (v := .pointer (some ⟨Jn, 0, none⟩)) rfl rfl rfl (e_move) ?_
              refine l_val (v := .agg #[Bx (x8.kind), Bx (x8.power), .slice a16 (x8.body.length) (c17)]) rfl rfl rfl (e_load tf87 (cs := [Bx (x8.kind), Bx (x8.power), .slice a16 (x8.body.length) (c17)]) rfl (k_pt 0 (cs := #[Bx (x8.kind), Bx (x8.power), .slice a16 (x8.body.length) (c17)]) (vs := [Bx (x8.kind), Bx (x8.power), .slice a16 (x8.body.length) (c17)]) rfl rfl) rfl) ?_
              refine l_call rfl rfl rfl (cl_value (fst := []) (cap := []) (vs := [.agg #[Bx (x8.kind), Bx (x8.power), .slice a16 (x8.body.length) (c17)]]) (all := [.agg #[Bx (x8.kind), Bx (x8.power), .slice a16 (x8.body.length) (c17)]]) tf100 rfl rfl rfl) ?_
              intro w hw
              obtain ⟨β1, sb, kn, hw1, back⟩ := St.frame_all hw
              refine (body_ok β1 w hw1 x8 a16 c17 (by omega) (by omega) (Elems.mono _ _ _ _ _ sb he20)).mono ?_
              rintro e w' ⟨rfl, hw'⟩
              refine ⟨_, rfl, _, back _ _ hw', ?_⟩
              clear hw hw1 hw' back kn sb
              refine l_call rfl rfl rfl (cl_value (fst := []) (cap := []) (vs := [.pointer (some ⟨Jn, 0, none⟩), .slice a16 ((x8.body.take 300).length) (c17)]) (all := [.pointer (some ⟨Jn, 0, none⟩), .slice a16 ((x8.body.take 300).length) (c17)]) tf103 rfl rfl rfl) ?_
              intro w hw
              replace hw := hw.perm (L' := _ :: _ :: _ :: []) (by exact (((perm_front 0 rfl).trans (perm_front 2 rfl)).trans (perm_front 2 rfl)))
              obtain ⟨β1, sb, kn, hw1, back⟩ := St.frame (L := [_, _]) (M := _ :: []) hw
              refine (checkp_fail β1 w Jn b1 K I (x8.body.take 300) (by simp; omega) hfit (by omega) hc _ (Sl.mono _ _ _ _ _ sb (⟨⟨_, _, rfl, by simp only [List.length_take]; omega, by omega, Elems.take 300 he20⟩⟩ : Sl U8R _ _ (x8.body.take 300))) hw1).mono ?_
              rintro e w' ⟨rfl, hw'⟩
              refine ⟨_, rfl, _, back _ _ hw', ?_⟩
              clear hw hw1 hw' back kn sb
              refine l_val (v := .int .i64 (310)) rfl rfl rfl (e_assign) ?_
              refine l_nil ?_
              refine f_then ?_
              refine c_seq ?_
              refine c_region ?_
              refine l_val (v := .int .i64 (310)) rfl rfl rfl (e_move) ?_
              refine l_val (v := .bool true) rfl rfl rfl (e_neq (a := (310 : Int)) (b := (0 : Int)) rfl rfl) ?_
              refine l_nil ?_
              refine f_then ?_
              refine c_yes rfl ?_
              refine c_seq ?_
              refine c_region ?_
              refine l_val (v := .pointer (some ⟨b1, 0, none⟩)) rfl rfl rfl (e_move) ?_
              refine l_call rfl rfl rfl (cl_value (fst := []) (cap := []) (vs := [.pointer (some ⟨b1, 0, none⟩)]) (all := [.pointer (some ⟨b1, 0, none⟩)]) tf107 rfl rfl rfl) ?_
              intro w hw
              replace hw := hw.perm (L' := _ :: _ :: _ :: []) (by exact (((perm_front 2 rfl).trans (perm_front 1 rfl)).trans (perm_front 2 rfl)))
              obtain ⟨β1, sb, kn, hw1, back⟩ := St.frame (L := [_]) (M := _ :: _ :: []) hw
              refine (again_ok β1 w b1 (ckS K (I.epoch + 1) I.next (x8.body.take 300)) ((hI2.pow (p := -1) (by decide) (by decide)).okP (by omega)) I hI2.read hw1).mono ?_
              rintro e w' ⟨J52, rfl, hw'⟩
              refine ⟨_, rfl, _, back _ _ hw', ?_⟩
              clear hw hw1 hw' back kn sb
              refine l_val (v := .tuple #[.pointer (some ⟨J52, 0, none⟩), .bool true]) rfl rfl rfl (e_move) ?_
              refine l_val (v := .pointer (some ⟨J52, 0, none⟩)) rfl rfl rfl (e_extract (vs := #[.pointer (some ⟨J52, 0, none⟩), .bool true]) rfl rfl) ?_
              refine l_val (v := .bool true) rfl rfl rfl (e_extract (vs := #[.pointer (some ⟨J52, 0, none⟩), .bool true]) rfl rfl) ?_
              refine l_val (v := .pointer (some ⟨J52, 0, none⟩)) rfl rfl rfl (e_assign) ?_
              refine l_val (v := .bool true) rfl rfl rfl (e_assign) ?_
              refine l_nil ?_
              refine f_then ?_
              refine c_seq ?_
              refine c_region ?_
              refine l_val (v := .bool true) rfl rfl rfl (e_move) ?_
              refine l_val (v := .bool false) rfl rfl rfl (e_not (a := true) rfl) ?_
              refine l_nil ?_
              refine f_then ?_
              refine c_no rfl ?_
              refine c_skip ?_
              refine f_then ?_
              refine c_seq ?_
              refine c_region ?_
              refine l_val (v := .pointer (some ⟨J52, 0, none⟩)) rfl rfl rfl (e_move) ?_
              refine l_call rfl rfl rfl (cl_value (fst := []) (cap := []) (vs := [.pointer (some ⟨J52, 0, none⟩)]) (all := [.pointer (some ⟨J52, 0, none⟩)]) tf90 rfl rfl rfl) ?_
              intro w hw
              obtain ⟨β1, sb, kn, hw1, back⟩ := St.frame_all hw
              refine (next_ok β1 w hw1 J52 b1 I false (kn _ (Knows.of_res 0 rfl (JF.mono _ _ _ _) fun _ h => jour_jf h))).mono ?_
              rintro e w' ⟨rfl, hw'⟩
              refine ⟨_, rfl, _, back _ _ hw', ?_⟩
              clear hw hw1 hw' back kn sb
              refine l_val (v := Ix (((I.next : Nat) : Int) - 1)) rfl rfl rfl (e_move) ?_
              refine l_val (v := Ix ((((I.next : Nat) : Int) - 1) + (1 : Int))) rfl rfl rfl (e_add (a := (((I.next : Nat) : Int) - 1)) (b := (1 : Int)) rfl rfl (i64w (by omega))) ?_
              refine l_val (v := .bool (decide (((I.next : Nat) : Int) ≠ ((((I.next : Nat) : Int) - 1) + (1 : Int))))) rfl rfl rfl (e_neq (a := ((I.next : Nat) : Int)) (b := ((((I.next : Nat) : Int) - 1) + (1 : Int))) rfl rfl) ?_
              refine l_nil ?_
              refine f_then ?_
              refine c_if (((I.next : Nat) : Int) ≠ ((((I.next : Nat) : Int) - 1) + (1 : Int))) rfl (fun hc53 => ?_) (fun hc53 => ?_)
              ·
                exact absurd hc53 (by omega)
              ·
                refine c_skip ?_
                refine f_block ?_
                refine f_block ?_
                refine f_then ?_
                refine c_region ?_
                refine l_val (v := Nx (k + 1)) rfl rfl rfl (e_add (a := ((k : Nat) : Int)) (b := (1 : Int)) rfl rfl (i64n (by omega) (by omega))) ?_
                refine l_val (v := Nx (k + 1)) rfl rfl rfl (e_move) ?_
                refine l_nil ?_
                refine f_mask (L' := [jourR J52 b1 I false, storeR b1 (cutS (powS (ckS K (I.epoch + 1) I.next (x8.body.take 300))) I.epoch I.size)]) [true, true, false, false] rfl ?_
                exact f_cut ⟨(k + 1, (cutS (powS (ckS K (I.epoch + 1) I.next (x8.body.take 300))) I.epoch I.size), I, J52), ⟨⟨rfl, rfl, (congrArg (Value.int .i64) (by first | rfl | omega)), rfl, rfl, rfl⟩, rfl, ⟨by omega, ((hI2.pow (p := -1) (by decide) (by decide)).cut (show (-1 : Int) ≠ 0 by decide)).mono (by omega)⟩⟩, (show zs3.length - (k + 1) < zs3.length - k from by omega)⟩
            ·
              refine c_region ?_
              refine l_val (v := .pointer (some ⟨Jn, 0, none⟩)) rfl rfl rfl (e_move) ?_
              refine l_val (v := .agg #[Bx (x8.kind), Bx (x8.power), .slice a16 (x8.body.length) (c17)]) rfl rfl rfl (e_load tf87 (cs := [Bx (x8.kind), Bx (x8.power), .slice a16 (x8.body.length) (c17)]) rfl (k_pt 0 (cs := #[Bx (x8.kind), Bx (x8.power), .slice a16 (x8.body.length) (c17)]) (vs := [Bx (x8.kind), Bx (x8.power), .slice a16 (x8.body.length) (c17)]) rfl rfl) rfl) ?_
              refine l_call rfl rfl rfl (cl_value (fst := []) (cap := []) (vs := [.agg #[Bx (x8.kind), Bx (x8.power), .slice a16 (x8.body.length) (c17)]]) (all := [.agg #[Bx (x8.kind), Bx (x8.power), .slice a16 (x8.body.length) (c17)]]) tf100 rfl rfl rfl) ?_
              intro w hw
              obtain ⟨β1, sb, kn, hw1, back⟩ := St.frame_all hw
              refine (body_ok β1 w hw1 x8 a16 c17 (by omega) (by omega) (Elems.mono _ _ _ _ _ sb he20)).mono ?_
              rintro e w' ⟨rfl, hw'⟩
              refine ⟨_, rfl, _, back _ _ hw', ?_⟩
              clear hw hw1 hw' back kn sb
              refine l_call rfl rfl rfl (cl_value (fst := []) (cap := []) (vs := [.pointer (some ⟨Jn, 0, none⟩), .slice a16 ((x8.body.take 300).length) (c17)]) (all := [.pointer (some ⟨Jn, 0, none⟩), .slice a16 ((x8.body.take 300).length) (c17)]) tf103 rfl rfl rfl) ?_
              intro w hw
              replace hw := hw.perm (L' := _ :: _ :: _ :: []) (by exact (((perm_front 0 rfl).trans (perm_front 2 rfl)).trans (perm_front 2 rfl)))
              obtain ⟨β1, sb, kn, hw1, back⟩ := St.frame (L := [_, _]) (M := _ :: []) hw
              refine (checkp_fail β1 w Jn b1 K I (x8.body.take 300) (by simp; omega) hfit (by omega) hc _ (Sl.mono _ _ _ _ _ sb (⟨⟨_, _, rfl, by simp only [List.length_take]; omega, by omega, Elems.take 300 he20⟩⟩ : Sl U8R _ _ (x8.body.take 300))) hw1).mono ?_
              rintro e w' ⟨rfl, hw'⟩
              refine ⟨_, rfl, _, back _ _ hw', ?_⟩
              clear hw hw1 hw' back kn sb
              refine l_val (v := .int .i64 (310)) rfl rfl rfl (e_assign) ?_
              refine l_nil ?_
              refine f_then ?_
              refine c_seq ?_
              refine c_region ?_
              refine l_val (v := .int .i64 (310)) rfl rfl rfl (e_move) ?_
              refine l_val (v := .bool true) rfl rfl rfl (e_neq (a := (310 : Int)) (b := (0 : Int)) rfl rfl) ?_
              refine l_nil ?_
              refine f_then ?_
              refine c_yes rfl ?_
              refine c_seq ?_
              refine c_region ?_
              refine l_val (v := .pointer (some ⟨b1, 0, none⟩)) rfl rfl rfl (e_move) ?_
              refine l_call rfl rfl rfl (cl_value (fst := []) (cap := []) (vs := [.pointer (some ⟨b1, 0, none⟩)]) (all := [.pointer (some ⟨b1, 0, none⟩)]) tf107 rfl rfl rfl) ?_
              intro w hw
              replace hw := hw.perm (L' := _ :: _ :: _ :: []) (by exact (((perm_front 2 rfl).trans (perm_front 1 rfl)).trans (perm_front 2 rfl)))
              obtain ⟨β1, sb, kn, hw1, back⟩ := St.frame (L := [_]) (M := _ :: _ :: []) hw
              refine (again_ok β1 w b1 (ckS K (I.epoch + 1) I.next (x8.body.take 300)) ((hI2.pow (p := -1) (by decide) (by decide)).okP (by omega)) (ckI I (x8.body.take 300)) hI2.read hw1).mono ?_
              rintro e w' ⟨J54, rfl, hw'⟩
              refine ⟨_, rfl, _, back _ _ hw', ?_⟩
              clear hw hw1 hw' back kn sb
              refine l_val (v := .tuple #[.pointer (some ⟨J54, 0, none⟩), .bool true]) rfl rfl rfl (e_move) ?_
              refine l_val (v := .pointer (some ⟨J54, 0, none⟩)) rfl rfl rfl (e_extract (vs := #[.pointer (some ⟨J54, 0, none⟩), .bool true]) rfl rfl) ?_
              refine l_val (v := .bool true) rfl rfl rfl (e_extract (vs := #[.pointer (some ⟨J54, 0, none⟩), .bool true]) rfl rfl) ?_
              refine l_val (v := .pointer (some ⟨J54, 0, none⟩)) rfl rfl rfl (e_assign) ?_
              refine l_val (v := .bool true) rfl rfl rfl (e_assign) ?_
              refine l_nil ?_
              refine f_then ?_
              refine c_seq ?_
              refine c_region ?_
              refine l_val (v := .bool true) rfl rfl rfl (e_move) ?_
              refine l_val (v := .bool false) rfl rfl rfl (e_not (a := true) rfl) ?_
              refine l_nil ?_
              refine f_then ?_
              refine c_no rfl ?_
              refine c_skip ?_
              refine f_then ?_
              refine c_seq ?_
              refine c_region ?_
              refine l_val (v := .pointer (some ⟨J54, 0, none⟩)) rfl rfl rfl (e_move) ?_
              refine l_call rfl rfl rfl (cl_value (fst := []) (cap := []) (vs := [.pointer (some ⟨J54, 0, none⟩)]) (all := [.pointer (some ⟨J54, 0, none⟩)]) tf90 rfl rfl rfl) ?_
              intro w hw
              obtain ⟨β1, sb, kn, hw1, back⟩ := St.frame_all hw
              refine (next_ok β1 w hw1 J54 b1 (ckI I (x8.body.take 300)) false (kn _ (Knows.of_res 0 rfl (JF.mono _ _ _ _) fun _ h => jour_jf h))).mono ?_
              rintro e w' ⟨rfl, hw'⟩
              refine ⟨_, rfl, _, back _ _ hw', ?_⟩
              clear hw hw1 hw' back kn sb
              refine l_val (v := Ix (((I.next : Nat) : Int) - 1)) rfl rfl rfl (e_move) ?_
              refine l_val (v := Ix ((((I.next : Nat) : Int) - 1) + (1 : Int))) rfl rfl rfl (e_add (a := (((I.next : Nat) : Int) - 1)) (b := (1 : Int)) rfl rfl (i64w (by omega))) ?_
              refine l_val (v := .bool (decide ((((ckI I (x8.body.take 300)).next : Nat) : Int) ≠ ((((I.next : Nat) : Int) - 1) + (1 : Int))))) rfl rfl rfl (e_neq (a := (((ckI I (x8.body.take 300)).next : Nat) : Int)) (b := ((((I.next : Nat) : Int) - 1) + (1 : Int))) rfl rfl) ?_
              refine l_nil ?_
              refine f_then ?_
              refine c_if ((((ckI I (x8.body.take 300)).next : Nat) : Int) ≠ ((((I.next : Nat) : Int) - 1) + (1 : Int))) rfl (fun hc55 => ?_) (fun hc55 => ?_)
              ·
                exact absurd hc55 (by omega)
              ·
                refine c_skip ?_
                refine f_block ?_
                refine f_block ?_
                refine f_then ?_
                refine c_region ?_
                refine l_val (v := Nx (k + 1)) rfl rfl rfl (e_add (a := ((k : Nat) : Int)) (b := (1 : Int)) rfl rfl (i64n (by omega) (by omega))) ?_
                refine l_val (v := Nx (k + 1)) rfl rfl rfl (e_move) ?_
                refine l_nil ?_
                refine f_mask (L' := [jourR J54 b1 (ckI I (x8.body.take 300)) false, storeR b1 (cutS (powS (ckS K (I.epoch + 1) I.next (x8.body.take 300))) (ckI I (x8.body.take 300)).epoch (ckI I (x8.body.take 300)).size)]) [true, true, false, false] rfl ?_
                exact f_cut ⟨(k + 1, (cutS (powS (ckS K (I.epoch + 1) I.next (x8.body.take 300))) (ckI I (x8.body.take 300)).epoch (ckI I (x8.body.take 300)).size), (ckI I (x8.body.take 300)), J54), ⟨⟨rfl, rfl, (congrArg (Value.int .i64) (by first | rfl | omega)), rfl, rfl, rfl⟩, rfl, ⟨by omega, ((hI2.pow (p := -1) (by decide) (by decide)).cut (show (-1 : Int) ≠ 0 by decide)).mono (by omega)⟩⟩, (show zs3.length - (k + 1) < zs3.length - k from by omega)⟩
        ·
          refine c_seq ?_
          refine c_region ?_
          refine l_val (v := .bool (decide (((x8.kind.toNat % 5 : Nat) : Int) = (3 : Int)))) rfl rfl rfl (e_eql (a := ((x8.kind.toNat % 5 : Nat) : Int)) (b := (3 : Int)) rfl rfl) ?_
          refine l_val (v := .bool (decide (((x8.kind.toNat % 5 : Nat) : Int) = (3 : Int)))) rfl rfl rfl (e_assign) ?_
          refine l_nil ?_
          refine f_then ?_
          refine c_if (((x8.kind.toNat % 5 : Nat) : Int) = (3 : Int)) rfl (fun hc56 => ?_) (fun hc56 => ?_)
          ·
            refine c_perm (L' := [storeR b1 K, pt b21 (.cells #[Bx (x8.kind), Bx (x8.power), .slice a16 (x8.body.length) (c17)] 47), jourR Jn b1 I false]) (by exact (((perm_front 1 rfl).trans (perm_front 1 rfl)).trans (perm_front 2 rfl))) ?_
            refine c_openStore rfl (fun pH57 pA58 pB59 cH60 cA61 cB62 => ?_)
            refine c_rowcap 1 rfl (fun hcl63 hcm64 => ?_)
            refine c_rowcap 2 rfl (fun hcl65 hcm66 => ?_)
            refine c_rowcap 3 rfl (fun hcl67 hcm68 => ?_)
            refine c_region ?_
            refine l_val (v := .pointer (some ⟨b1, 0, none⟩)) rfl rfl rfl (e_move) ?_
            refine l_val (v := .agg #[Bx (x8.kind), Bx (x8.power), .slice a16 (x8.body.length) (c17)]) rfl rfl rfl (e_load tf87 (cs := [Bx (x8.kind), Bx (x8.power), .slice a16 (x8.body.length) (c17)]) rfl (k_pt 4 (cs := #[Bx (x8.kind), Bx (x8.power), .slice a16 (x8.body.length) (c17)]) (vs := [Bx (x8.kind), Bx (x8.power), .slice a16 (x8.body.length) (c17)]) rfl rfl) rfl) ?_
            refine l_call rfl rfl rfl (cl_value (fst := []) (cap := []) (vs := [.agg #[Bx (x8.kind), Bx (x8.power), .slice a16 (x8.body.length) (c17)]]) (all := [.agg #[Bx (x8.kind), Bx (x8.power), .slice a16 (x8.body.length) (c17)]]) tf110 rfl rfl rfl) ?_
            intro w hw
            obtain ⟨β1, sb, kn, hw1, back⟩ := St.frame_all hw
            refine (power_ok β1 w hw1 x8 a16 c17 (by omega) (by omega) (Elems.mono _ _ _ _ _ sb he20)).mono ?_
            rintro e w' ⟨rfl, hw'⟩
            refine ⟨_, rfl, _, back _ _ hw', ?_⟩
            clear hw hw1 hw' back kn sb
            refine l_val (v := .pointer (some ⟨b1, 0, none⟩)) rfl rfl rfl (e_nil (a := ⟨b1, 0, none⟩) rfl) ?_
            refine l_val (v := .pointer (some ⟨b1, 3, none⟩)) rfl rfl rfl (e_fieldPt (b := b1) (o := 0) rfl tf24) ?_
            refine l_mu rfl rfl (m_store 0 tf25 (b := b1) (o := 3) (T := 32) (cs := #[.slice pH57 (K.head).length cH60, .slice pA58 (K.a).length cA61, .slice pB59 (K.b).length cB62, Ix (K.power)]) (cs' := #[.slice pH57 (K.head).length cH60, .slice pA58 (K.a).length cA61, .slice pB59 (K.b).length cB62, Ix (powerF x8)]) (v := Ix (powerF x8)) rfl rfl rfl rfl rfl rfl rfl) ?_
            refine l_nil ?_
            refine f_block ?_
            refine f_block ?_
            refine f_then ?_
            refine c_perm (L' := [pt b1 (.cells #[.slice pH57 (K.head).length cH60, .slice pA58 (K.a).length cA61, .slice pB59 (K.b).length cB62, Ix (powerF x8)] 32), row (.slice pH57 (K.head).length cH60) 5 1 ((K.head).length) (BX K.head), row (.slice pA58 (K.a).length cA61) 5 1 ((K.a).length) (BX K.a), row (.slice pB59 (K.b).length cB62) 5 1 ((K.b).length) (BX K.b), pt b21 (.cells #[Bx (x8.kind), Bx (x8.power), .slice a16 (x8.body.length) (c17)] 47), jourR Jn b1 I false]) (by exact ((((((perm_front 5 rfl).trans (perm_front 5 rfl)).trans (perm_front 5 rfl)).trans (perm_front 5 rfl)).trans (perm_front 5 rfl)).trans (perm_front 5 rfl))) ?_
            refine c_closeStore (S := b1) (k := ({ K with power := powerF x8 } : KS)) (pH := pH57) (pA := pA58) (pB := pB59) (cH := cH60) (cA := cA61) (cB := cB62) (M := (pt b21 (.cells #[Bx (x8.kind), Bx (x8.power), .slice a16 (x8.body.length) (c17)] 47) :: jourR Jn b1 I false :: [])) rfl ?_
            refine c_region ?_
            refine l_val (v := Nx (k + 1)) rfl rfl rfl (e_add (a := ((k : Nat) : Int)) (b := (1 : Int)) rfl rfl (i64n (by omega) (by omega))) ?_
            refine l_val (v := Nx (k + 1)) rfl rfl rfl (e_move) ?_
            refine l_nil ?_
            refine f_perm (L' := [jourR Jn b1 I false, storeR b1 ({ K with power := powerF x8 } : KS), pt b21 (.cells #[Bx (x8.kind), Bx (x8.power), .slice a16 (x8.body.length) (c17)] 47)]) (((perm_front 1 rfl).trans (perm_front 1 rfl)).trans (perm_front 2 rfl)) ?_
            refine f_mask (L' := [jourR Jn b1 I false, storeR b1 ({ K with power := powerF x8 } : KS)]) [true, true, false] rfl ?_
            exact f_cut ⟨(k + 1, ({ K with power := powerF x8 } : KS), I, Jn), ⟨⟨rfl, rfl, (congrArg (Value.int .i64) (by first | rfl | omega)), rfl, rfl, rfl⟩, rfl, ⟨by omega, (hI.pow (powerF_ge _) (powerF_le _)).mono (by omega)⟩⟩, (show zs3.length - (k + 1) < zs3.length - k from by omega)⟩
          ·
            refine c_seq ?_
            refine c_region ?_
            refine l_val (v := .pointer (some ⟨b1, 0, none⟩)) rfl rfl rfl (e_move) ?_
            refine l_call rfl rfl rfl (cl_value (fst := []) (cap := []) (vs := [.pointer (some ⟨b1, 0, none⟩)]) (all := [.pointer (some ⟨b1, 0, none⟩)]) tf107 rfl rfl rfl) ?_
            intro w hw
            replace hw := hw.perm (L' := _ :: _ :: _ :: []) (by exact (((perm_front 1 rfl).trans (perm_front 1 rfl)).trans (perm_front 2 rfl)))
            obtain ⟨β1, sb, kn, hw1, back⟩ := St.frame (L := [_]) (M := _ :: _ :: []) hw
            refine (again_ok β1 w b1 K ((hI.pow (p := -1) (by decide) (by decide)).okP (by omega)) I hI.read hw1).mono ?_
            rintro e w' ⟨J69, rfl, hw'⟩
            refine ⟨_, rfl, _, back _ _ hw', ?_⟩
            clear hw hw1 hw' back kn sb
            refine l_val (v := .tuple #[.pointer (some ⟨J69, 0, none⟩), .bool true]) rfl rfl rfl (e_move) ?_
            refine l_val (v := .pointer (some ⟨J69, 0, none⟩)) rfl rfl rfl (e_extract (vs := #[.pointer (some ⟨J69, 0, none⟩), .bool true]) rfl rfl) ?_
            refine l_val (v := .bool true) rfl rfl rfl (e_extract (vs := #[.pointer (some ⟨J69, 0, none⟩), .bool true]) rfl rfl) ?_
            refine l_val (v := .pointer (some ⟨J69, 0, none⟩)) rfl rfl rfl (e_assign) ?_
            refine l_val (v := .bool true) rfl rfl rfl (e_assign) ?_
            refine l_nil ?_
            refine f_then ?_
            refine c_seq ?_
            refine c_region ?_
            refine l_val (v := .bool true) rfl rfl rfl (e_move) ?_
            refine l_val (v := .bool false) rfl rfl rfl (e_not (a := true) rfl) ?_
            refine l_val (v := .bool false) rfl rfl rfl (e_move) ?_
            refine g_val (v := .pointer (some ⟨J69, 0, none⟩)) rfl rfl rfl rfl rfl (e_move) ?_
            refine g_call rfl rfl rfl rfl rfl (cl_value (fst := []) (cap := []) (vs := [.pointer (some ⟨J69, 0, none⟩)]) (all := [.pointer (some ⟨J69, 0, none⟩)]) tf90 rfl rfl rfl) ?_
            intro w hw
            obtain ⟨β1, sb, kn, hw1, back⟩ := St.frame_all hw
            refine (next_ok β1 w hw1 J69 b1 I false (kn _ (Knows.of_res 0 rfl (JF.mono _ _ _ _) fun _ h => jour_jf h))).mono ?_
            rintro e w' ⟨rfl, hw'⟩
            refine ⟨_, rfl, _, back _ _ hw', ?_⟩
            clear hw hw1 hw' back kn sb
            refine g_val (v := Ix (((I.next : Nat) : Int) - 1)) rfl rfl rfl rfl rfl (e_move) ?_
            refine g_val (v := Ix ((((I.next : Nat) : Int) - 1) + (1 : Int))) rfl rfl rfl rfl rfl (e_add (a := (((I.next : Nat) : Int) - 1)) (b := (1 : Int)) rfl rfl (i64w (by omega))) ?_
            refine g_val (v := .bool (decide (((I.next : Nat) : Int) ≠ ((((I.next : Nat) : Int) - 1) + (1 : Int))))) rfl rfl rfl rfl rfl (e_neq (a := ((I.next : Nat) : Int)) (b := ((((I.next : Nat) : Int) - 1) + (1 : Int))) rfl rfl) ?_
            refine l_val (v := .bool (decide (((I.next : Nat) : Int) ≠ ((((I.next : Nat) : Int) - 1) + (1 : Int))))) rfl rfl rfl (e_pick_f rfl) ?_
            refine l_nil ?_
            refine f_then ?_
            refine c_if (((I.next : Nat) : Int) ≠ ((((I.next : Nat) : Int) - 1) + (1 : Int))) rfl (fun hc70 => ?_) (fun hc70 => ?_)
            ·
              exact absurd hc70 (by omega)
            ·
              refine c_skip ?_
              refine f_block ?_
              refine f_block ?_
              refine f_then ?_
              refine c_region ?_
              refine l_val (v := Nx (k + 1)) rfl rfl rfl (e_add (a := ((k : Nat) : Int)) (b := (1 : Int)) rfl rfl (i64n (by omega) (by omega))) ?_
              refine l_val (v := Nx (k + 1)) rfl rfl rfl (e_move) ?_
              refine l_nil ?_
              refine f_mask (L' := [jourR J69 b1 I false, storeR b1 (cutS (powS K) I.epoch I.size)]) [true, true, false, false] rfl ?_
              exact f_cut ⟨(k + 1, (cutS (powS K) I.epoch I.size), I, J69), ⟨⟨rfl, rfl, (congrArg (Value.int .i64) (by first | rfl | omega)), rfl, rfl, rfl⟩, rfl, ⟨by omega, ((hI.pow (p := -1) (by decide) (by decide)).cut (show (-1 : Int) ≠ 0 by decide)).mono (by omega)⟩⟩, (show zs3.length - (k + 1) < zs3.length - k from by omega)⟩
  ·
    refine c_exit ?_
    refine f_then_exit ?_
    refine f_then_exit ?_
    refine f_exit ?_
    refine f_then ?_
    refine c_seq ?_
    refine c_region ?_
    refine l_call rfl rfl rfl (cl_value (fst := []) (cap := []) (vs := []) (all := []) tf111 rfl rfl rfl) ?_
    intro w hw
    obtain ⟨β1, sb, kn, hw1, back⟩ := St.frame_all hw
    refine (awake_ok β1 w hw1).mono ?_
    rintro e w' ⟨rfl, hw'⟩
    refine ⟨_, rfl, _, back _ _ hw', ?_⟩
    clear hw hw1 hw' back kn sb
    refine l_val (v := .bool true) rfl rfl rfl (e_assign) ?_
    refine l_nil ?_
    refine f_then ?_
    refine c_ret ?_
    refine ret1 Try.results4 (v := .bool true) rfl ?_
    intro w hw
    exact ⟨rfl, st_mask [false, false] rfl hw⟩
end Go.Proofs
