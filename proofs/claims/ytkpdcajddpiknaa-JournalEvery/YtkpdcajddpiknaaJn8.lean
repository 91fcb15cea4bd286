/-
 Steps of a script, and what a Journal is held against, walked. Printed by a program of my own.
-/
import Derived.Test.YtkpdcajddpiknaaJn7
namespace Go.Proofs
open Go Go.Sl Go.Jn
theorem tf88 : cfB Try.prog 41 = true := by kernel_rfl
theorem tf89 : fldB Try.prog 27 0 0 1 false = true := by kernel_rfl
theorem tf90 : cfB Try.prog 19 = true := by kernel_rfl
theorem tf91 : fldB Try.prog 27 1 1 1 false = true := by kernel_rfl
theorem tf92 : cfB Try.prog 42 = true := by kernel_rfl
theorem tf93 : fldB Try.prog 27 2 2 1 false = true := by kernel_rfl
theorem tf94 : cfB Try.prog 43 = true := by kernel_rfl
theorem tf95 : cfB Try.prog 15 = true := by kernel_rfl
theorem tf96 : fldB Try.prog 27 3 3 1 false = true := by kernel_rfl
theorem tf97 : tyB Try.prog 25 false 1 = true := by kernel_rfl
theorem tf98 : cfB Try.prog 14 = true := by kernel_rfl
theorem tf99 : (Try.prog.info? 27).bind (·.zero) = some (.agg #[.int .i64 (0), .int .i64 (0), .string ⟨#[]⟩, .slice none 0 0]) := by kernel_rfl
theorem tf100 : cfB Try.prog 18 = true := by kernel_rfl
theorem tf101 : tyB Try.prog 27 true 4 = true := by kernel_rfl
theorem tf102 : cfB Try.prog 17 = true := by kernel_rfl
theorem tf103 : cfB Try.prog 20 = true := by kernel_rfl
theorem tf104 : cfB Try.prog 40 = true := by kernel_rfl
set_option maxHeartbeats 4000000 in
theorem is_ok (β : Base) (w : World) (hw : St β [] w) (c : KC) (ca : Option Addr) (cc : Nat) (cl : c.recs.length ≤ cc) (cm : cc ≤ 9223372036854775807) (ce : Elems StrR β.heap ca c.recs) (J S : Nat) (i : KI) (dn : Bool) (hj : JF J S i dn β.heap) (hb : i.state.length ≤ 1048576) (hn : i.recs.length ≤ 1048576) (hbs : ∀ b ∈ i.recs, b.length ≤ 1048576) : Calls Try.prog 38 #[.agg #[Nx c.epoch, Nx c.next, .string c.state, .slice ca c.recs.length cc], .pointer (some ⟨J, 0, none⟩)] w fun r w' => r = .returned (.bool (decide (isP c i))) ∧ St β [] w' := by
 refine enter (n := 33) Try.func38 rfl Try.ntmps38 rfl ?_ hw
 refine c_seq ?_
 refine c_region ?_
 refine l_mv rfl rfl rfl (m_box (v := .agg #[Nx (c.epoch), Nx (c.next), .string (c.state), .slice ca (c.recs.length) (cc)]) rfl) ?_
 rintro _ _ ⟨b1, rfl, rfl⟩
 refine l_val (v := .bool false) rfl rfl rfl (e_assign) ?_
 refine l_nil ?_
 refine f_then ?_
 refine c_seq ?_
 by_cases hg2 : ((i.epoch : Nat) : Int) = ((c.epoch : Nat) : Int)
 ·
  by_cases hg3 : ((i.next : Nat) : Int) = ((c.next : Nat) : Int)
  ·
   by_cases hg4 : (str i.state) = c.state
   ·
    refine c_any [⟨[], [], [0], [5], fun f => f 5 = .pointer (some ⟨J, 0, none⟩)⟩, ⟨[0], [0], [], [6], fun f => f 6 = Nx (i.epoch)⟩, ⟨[], [], [1], [7], fun f => f 7 = .pointer (some ⟨b1, 0, none⟩)⟩, ⟨[2], [2], [], [8], fun f => f 8 = Nx (c.epoch)⟩, ⟨[0, 1, 2, 3], [1, 3], [], [9], fun f => f 9 = .bool true⟩, ⟨[0, 1, 2, 3, 4], [4], [], [10], fun f => f 10 = .bool true⟩, ⟨[0, 1, 2, 3, 4, 5], [5], [0], [11], fun f => f 11 = .pointer (some ⟨J, 0, none⟩)⟩, ⟨[0, 1, 2, 3, 4, 5, 6], [6, 5], [], [12], fun f => f 12 = Nx (i.next)⟩, ⟨[0, 1, 2, 3, 4, 5], [5], [1], [13], fun f => f 13 = .pointer (some ⟨b1, 1, none⟩)⟩, ⟨[0, 1, 2, 3, 4, 5, 8], [8, 5], [], [14], fun f => f 14 = Nx (c.next)⟩, ⟨[0, 1, 2, 3, 4, 5, 6, 7, 8, 9], [7, 9, 5], [], [15], fun f => f 15 = .bool true⟩, ⟨[0, 1, 2, 3, 4, 5, 6, 7, 8, 9, 10], [5, 10], [], [16], fun f => f 16 = .bool true⟩, ⟨[0, 1, 2, 3, 4, 5, 6, 7, 8, 9, 10, 11], [11], [], [17], fun f => f 17 = .bool true⟩, ⟨[0, 1, 2, 3, 4, 5, 6, 7, 8, 9, 10, 11, 12], [12], [0], [18], fun f => f 18 = .pointer (some ⟨J, 0, none⟩)⟩, ⟨[0, 1, 2, 3, 4, 5, 6, 7, 8, 9, 10, 11, 12, 13], [13, 12], [], [19], fun f => f 19 = .slice (sla (f 19)) (i.state).length (slc (f 19))⟩, ⟨[0, 1, 2, 3, 4, 5, 6, 7, 8, 9, 10, 11, 12, 13, 14], [14, 12], [], [20], fun f => f 20 = .string (str i.state)⟩, ⟨[0, 1, 2, 3, 4, 5, 6, 7, 8, 9, 10, 11, 12], [12], [1], [21], fun f => f 21 = .pointer (some ⟨b1, 2, none⟩)⟩, ⟨[0, 1, 2, 3, 4, 5, 6, 7, 8, 9, 10, 11, 12, 16], [16, 12], [], [22], fun f => f 22 = .string (c.state)⟩, ⟨[0, 1, 2, 3, 4, 5, 6, 7, 8, 9, 10, 11, 12, 13, 14, 15, 16, 17], [15, 17, 12], [], [23], fun f => f 23 = .bool true⟩, ⟨[0, 1, 2, 3, 4, 5, 6, 7, 8, 9, 10, 11, 12, 13, 14, 15, 16, 17, 18], [12, 18], [], [24], fun f => f 24 = .bool true⟩, ⟨[0, 1, 2, 3, 4, 5, 6, 7, 8, 9, 10, 11, 12, 13, 14, 15, 16, 17, 18, 19], [19], [], [25], fun f => f 25 = .bool true⟩, ⟨[0, 1, 2, 3, 4, 5, 6, 7, 8, 9, 10, 11, 12, 13, 14, 15, 16, 17, 18, 19, 20], [20], [0], [26], fun f => f 26 = .pointer (some ⟨J, 0, none⟩)⟩, ⟨[0, 1, 2, 3, 4, 5, 6, 7, 8, 9, 10, 11, 12, 13, 14, 15, 16, 17, 18, 19, 20, 21], [21, 20], [], [27], fun f => f 27 = .slice (sla (f 27)) (i.recs).length (slc (f 27))⟩, ⟨[0, 1, 2, 3, 4, 5, 6, 7, 8, 9, 10, 11, 12, 13, 14, 15, 16, 17, 18, 19, 20, 21, 22], [22, 20], [], [28], fun f => f 28 = .slice (sla (f 28)) (i.recs.map str).length (slc (f 28))⟩, ⟨[0, 1, 2, 3, 4, 5, 6, 7, 8, 9, 10, 11, 12, 13, 14, 15, 16, 17, 18, 19, 20], [20], [1], [29], fun f => f 29 = .pointer (some ⟨b1, 3, none⟩)⟩, ⟨[0, 1, 2, 3, 4, 5, 6, 7, 8, 9, 10, 11, 12, 13, 14, 15, 16, 17, 18, 19, 20, 24], [24, 20], [], [30], fun f => f 30 = .slice ca (c.recs.length) (cc)⟩, ⟨[0, 1, 2, 3, 4, 5, 6, 7, 8, 9, 10, 11, 12, 13, 14, 15, 16, 17, 18, 19, 20, 21, 22, 23, 24, 25], [23, 25, 20], [], [31], fun f => f 31 = .bool (decide ((i.recs.map str) = c.recs))⟩, ⟨[0, 1, 2, 3, 4, 5, 6, 7, 8, 9, 10, 11, 12, 13, 14, 15, 16, 17, 18, 19, 20, 21, 22, 23, 24, 25, 26], [20, 26], [], [32], fun f => f 32 = .bool (decide ((i.recs.map str) = c.recs))⟩, ⟨[0, 1, 2, 3, 4, 5, 6, 7, 8, 9, 10, 11, 12, 13, 14, 15, 16, 17, 18, 19, 20, 21, 22, 23, 24, 25, 26, 27], [27], [], [4], fun f => f 4 = .bool (decide ((i.recs.map str) = c.recs))⟩] [⟨none, none, [3, 9, 17, 25], [], fun _ => pt b1 (.cells #[Nx (c.epoch), Nx (c.next), .string (c.state), .slice ca (c.recs.length) (cc)] 27)⟩, ⟨(some 14), none, [15], [19], fun f => row (.slice (sla (f 19)) (i.state).length (slc (f 19))) 5 1 ((i.state).length) (BX i.state)⟩, ⟨(some 22), none, [23], [27], fun f => recsR 30 (sla (f 27)) (slc (f 27)) i.recs⟩, ⟨(some 23), none, [26], [28], fun f => row (.slice (sla (f 28)) (i.recs.map str).length (slc (f 28))) 9 1 ((i.recs.map str).length) ((i.recs.map str).map (fun s : ByteArray => Value.string s))⟩] [(1, .pointer (some ⟨J, 0, none⟩)), (2, .pointer (some ⟨b1, 0, none⟩))] [] [] (by kernel_rfl) (by kernel_rfl) (by kernel_rfl) (by kernel_rfl) rfl ⟨rfl, rfl, trivial⟩ ⟨?_, ?_, ?_, ?_, ?_, ?_, ?_, ?_, ?_, ?_, ?_, ?_, ?_, ?_, ?_, ?_, ?_, ?_, ?_, ?_, ?_, ?_, ?_, ?_, ?_, ?_, ?_, ?_, ?_, trivial⟩ ?_
    ·rintro f M - ⟨i0, -⟩
     have hs1 : f 1 = .pointer (some ⟨J, 0, none⟩) := i0
     refine ob_start (L' := M) (by rfl) (up_cons rfl hs1) ?_
     refine l_val (v := .pointer (some ⟨J, 0, none⟩)) rfl rfl rfl (e_move) ?_
     refine l_nil ?_
     exact f_owes_d (up_cons rfl hs1) rfl (List.Perm.refl _)
    ·rintro f M ⟨k0, -⟩ -
     have hs5 : f 5 = .pointer (some ⟨J, 0, none⟩) := k0
     refine ob_start (L' := M) (by rfl) (up_cons rfl hs5) ?_
     refine l_call rfl rfl rfl (cl_value (fst := []) (cap := []) (vs := [.pointer (some ⟨J, 0, none⟩)]) (all := [.pointer (some ⟨J, 0, none⟩)]) tf88 rfl rfl rfl) ?_
     intro w hw
     obtain ⟨β1, sb, kn, hw1, back⟩ := St.frame_all hw
     refine (epochm_ok β1 w hw1 J S i dn (JF.mono _ _ _ _ _ _ sb hj)).mono ?_
     rintro e w' ⟨rfl, hw'⟩
     refine ⟨_, rfl, _, back _ _ hw', ?_⟩
     clear hw hw1 hw' back kn sb
     refine l_nil ?_
     exact f_owes_d (up_cons rfl hs5) rfl (List.Perm.refl _)
    ·rintro f M - ⟨i0, -⟩
     have hs2 : f 2 = .pointer (some ⟨b1, 0, none⟩) := i0
     refine ob_start (L' := M) (by rfl) (up_cons rfl hs2) ?_
     refine l_val (v := .pointer (some ⟨b1, 0, none⟩)) rfl rfl rfl (e_fieldPt (b := b1) (o := 0) rfl tf89) ?_
     refine l_nil ?_
     exact f_owes_d (up_cons rfl hs2) rfl (List.Perm.refl _)
    ·rintro f M ⟨k0, -⟩ -
     have hs7 : f 7 = .pointer (some ⟨b1, 0, none⟩) := k0
     refine ob_start (L' := pt b1 (.cells #[Nx (c.epoch), Nx (c.next), .string (c.state), .slice ca (c.recs.length) (cc)] 27) :: M) (by rfl) (up_cons rfl hs7) ?_
     refine l_val (v := Nx (c.epoch)) rfl rfl rfl (e_load1 tf25 (v := Nx (c.epoch)) rfl (k_pt 0 (cs := #[Nx (c.epoch), Nx (c.next), .string (c.state), .slice ca (c.recs.length) (cc)]) (vs := [Nx (c.epoch)]) rfl rfl)) ?_
     refine l_nil ?_
     exact f_owes_d (up_cons rfl hs7) rfl (perm_front 0 rfl)
    ·rintro f M ⟨k0, k1, -⟩ -
     have hs6 : f 6 = Nx (i.epoch) := k0
     have hs8 : f 8 = Nx (c.epoch) := k1
     refine ob_start (L' := M) (by rfl) (up_cons (up_cons rfl hs6) hs8) ?_
     refine l_val (v := .bool true) rfl rfl rfl ((ev_t hg2 (e_eql (a := ((i.epoch : Nat) : Int)) (b := ((c.epoch : Nat) : Int)) rfl rfl))) ?_
     refine l_nil ?_
     exact f_owes_d (up_cons (up_cons rfl hs6) hs8) rfl (List.Perm.refl _)
    ·rintro f M ⟨k0, -⟩ -
     have hs9 : f 9 = .bool true := k0
     refine ob_start (L' := M) (by rfl) (up_cons rfl hs9) ?_
     refine l_val (v := .bool true) rfl rfl rfl (e_move) ?_
     refine l_nil ?_
     exact f_owes_d (up_cons rfl hs9) rfl (List.Perm.refl _)
    ·rintro f M ⟨k0, -⟩ ⟨i0, -⟩
     have hs1 : f 1 = .pointer (some ⟨J, 0, none⟩) := i0
     have hs10 : f 10 = .bool true := k0
     refine ob_start (L' := M) (by rfl) (up_cons (up_cons rfl hs1) hs10) ?_
     refine g_val (v := .pointer (some ⟨J, 0, none⟩)) rfl rfl rfl rfl rfl (e_move) ?_
     refine l_nil ?_
     exact f_owes_d (up_cons (up_cons rfl hs1) hs10) rfl (List.Perm.refl _)
    ·rintro f M ⟨k0, k1, -⟩ -
     have hs11 : f 11 = .pointer (some ⟨J, 0, none⟩) := k0
     have hs10 : f 10 = .bool true := k1
     refine ob_start (L' := M) (by rfl) (up_cons (up_cons rfl hs11) hs10) ?_
     refine g_call rfl rfl rfl rfl rfl (cl_value (fst := []) (cap := []) (vs := [.pointer (some ⟨J, 0, none⟩)]) (all := [.pointer (some ⟨J, 0, none⟩)]) tf90 rfl rfl rfl) ?_
     intro w hw
     obtain ⟨β1, sb, kn, hw1, back⟩ := St.frame_all hw
     refine (next_ok β1 w hw1 J S i dn (JF.mono _ _ _ _ _ _ sb hj)).mono ?_
     rintro e w' ⟨rfl, hw'⟩
     refine ⟨_, rfl, _, back _ _ hw', ?_⟩
     clear hw hw1 hw' back kn sb
     refine l_nil ?_
     exact f_owes_d (up_cons (up_cons rfl hs11) hs10) rfl (List.Perm.refl _)
    ·rintro f M ⟨k0, -⟩ ⟨i0, -⟩
     have hs2 : f 2 = .pointer (some ⟨b1, 0, none⟩) := i0
     have hs10 : f 10 = .bool true := k0
     refine ob_start (L' := M) (by rfl) (up_cons (up_cons rfl hs2) hs10) ?_
     refine g_val (v := .pointer (some ⟨b1, 1, none⟩)) rfl rfl rfl rfl rfl (e_fieldPt (b := b1) (o := 0) rfl tf91) ?_
     refine l_nil ?_
     exact f_owes_d (up_cons (up_cons rfl hs2) hs10) rfl (List.Perm.refl _)
    ·rintro f M ⟨k0, k1, -⟩ -
     have hs13 : f 13 = .pointer (some ⟨b1, 1, none⟩) := k0
     have hs10 : f 10 = .bool true := k1
     refine ob_start (L' := pt b1 (.cells #[Nx (c.epoch), Nx (c.next), .string (c.state), .slice ca (c.recs.length) (cc)] 27) :: M) (by rfl) (up_cons (up_cons rfl hs13) hs10) ?_
     refine g_val (v := Nx (c.next)) rfl rfl rfl rfl rfl (e_load1 tf25 (v := Nx (c.next)) rfl (k_pt 0 (cs := #[Nx (c.epoch), Nx (c.next), .string (c.state), .slice ca (c.recs.length) (cc)]) (vs := [Nx (c.next)]) rfl rfl)) ?_
     refine l_nil ?_
     exact f_owes_d (up_cons (up_cons rfl hs13) hs10) rfl (perm_front 0 rfl)
    ·rintro f M ⟨k0, k1, k2, -⟩ -
     have hs12 : f 12 = Nx (i.next) := k0
     have hs14 : f 14 = Nx (c.next) := k1
     have hs10 : f 10 = .bool true := k2
     refine ob_start (L' := M) (by rfl) (up_cons (up_cons (up_cons rfl hs12) hs14) hs10) ?_
     refine g_val (v := .bool true) rfl rfl rfl rfl rfl ((ev_t hg3 (e_eql (a := ((i.next : Nat) : Int)) (b := ((c.next : Nat) : Int)) rfl rfl))) ?_
     refine l_nil ?_
     exact f_owes_d (up_cons (up_cons (up_cons rfl hs12) hs14) hs10) rfl (List.Perm.refl _)
    ·rintro f M ⟨k0, k1, -⟩ -
     have hs10 : f 10 = .bool true := k0
     have hs15 : f 15 = .bool true := k1
     refine ob_start (L' := M) (by rfl) (up_cons (up_cons rfl hs10) hs15) ?_
     refine l_val (v := .bool true) rfl rfl rfl (e_pick_t rfl) ?_
     refine l_nil ?_
     exact f_owes_d (up_cons (up_cons rfl hs10) hs15) rfl (List.Perm.refl _)
    ·rintro f M ⟨k0, -⟩ -
     have hs16 : f 16 = .bool true := k0
     refine ob_start (L' := M) (by rfl) (up_cons rfl hs16) ?_
     refine l_val (v := .bool true) rfl rfl rfl (e_move) ?_
     refine l_nil ?_
     exact f_owes_d (up_cons rfl hs16) rfl (List.Perm.refl _)
    ·rintro f M ⟨k0, -⟩ ⟨i0, -⟩
     have hs1 : f 1 = .pointer (some ⟨J, 0, none⟩) := i0
     have hs17 : f 17 = .bool true := k0
     refine ob_start (L' := M) (by rfl) (up_cons (up_cons rfl hs1) hs17) ?_
     refine g_val (v := .pointer (some ⟨J, 0, none⟩)) rfl rfl rfl rfl rfl (e_move) ?_
     refine l_nil ?_
     exact f_owes_d (up_cons (up_cons rfl hs1) hs17) rfl (List.Perm.refl _)
    ·rintro f M ⟨k0, k1, -⟩ -
     have hs18 : f 18 = .pointer (some ⟨J, 0, none⟩) := k0
     have hs17 : f 17 = .bool true := k1
     refine ob_start (L' := M) (by rfl) (up_cons (up_cons rfl hs18) hs17) ?_
     refine g_call rfl rfl rfl rfl rfl (cl_value (fst := []) (cap := []) (vs := [.pointer (some ⟨J, 0, none⟩)]) (all := [.pointer (some ⟨J, 0, none⟩)]) tf92 rfl rfl rfl) ?_
     intro w hw
     obtain ⟨β1, sb, kn, hw1, back⟩ := St.frame_all hw
     refine (state_ok β1 w hw1 J S i dn (JF.mono _ _ _ _ _ _ sb hj) hb).mono ?_
     rintro e w' ⟨p7, c8, rfl, hw'⟩
     refine ⟨_, rfl, _, back _ _ hw', ?_⟩
     clear hw hw1 hw' back kn sb
     refine l_nil ?_
     exact f_owes_d (up_cons (up_cons rfl hs18) hs17) rfl (perm_front 0 rfl)
    ·rintro f M ⟨k0, k1, -⟩ -
     have hs19 : f 19 = .slice (sla (f 19)) (i.state).length (slc (f 19)) := k0
     have hs17 : f 17 = .bool true := k1
     refine ob_start (L' := row (.slice (sla (f 19)) (i.state).length (slc (f 19))) 5 1 ((i.state).length) (BX i.state) :: M) (by rfl) (up_cons (up_cons rfl hs19) hs17) ?_
     refine g_val (v := .string (str i.state)) rfl rfl rfl rfl rfl (e_bytesStr (a := (sla (f 19))) (bs := i.state) (m := (i.state).length) (c := (slc (f 19))) rfl (by first | rfl | simp) tf11 tf8 tf7 (k_rowE 0 rfl)) ?_
     refine l_nil ?_
     exact f_owes_d (up_cons (up_cons rfl hs19) hs17) rfl (perm_front 0 rfl)
    ·rintro f M ⟨k0, -⟩ ⟨i0, -⟩
     have hs2 : f 2 = .pointer (some ⟨b1, 0, none⟩) := i0
     have hs17 : f 17 = .bool true := k0
     refine ob_start (L' := M) (by rfl) (up_cons (up_cons rfl hs2) hs17) ?_
     refine g_val (v := .pointer (some ⟨b1, 2, none⟩)) rfl rfl rfl rfl rfl (e_fieldPt (b := b1) (o := 0) rfl tf93) ?_
     refine l_nil ?_
     exact f_owes_d (up_cons (up_cons rfl hs2) hs17) rfl (List.Perm.refl _)
    ·rintro f M ⟨k0, k1, -⟩ -
     have hs21 : f 21 = .pointer (some ⟨b1, 2, none⟩) := k0
     have hs17 : f 17 = .bool true := k1
     refine ob_start (L' := pt b1 (.cells #[Nx (c.epoch), Nx (c.next), .string (c.state), .slice ca (c.recs.length) (cc)] 27) :: M) (by rfl) (up_cons (up_cons rfl hs21) hs17) ?_
     refine g_val (v := .string (c.state)) rfl rfl rfl rfl rfl (e_load1 tf6 (v := .string (c.state)) rfl (k_pt 0 (cs := #[Nx (c.epoch), Nx (c.next), .string (c.state), .slice ca (c.recs.length) (cc)]) (vs := [.string (c.state)]) rfl rfl)) ?_
     refine l_nil ?_
     exact f_owes_d (up_cons (up_cons rfl hs21) hs17) rfl (perm_front 0 rfl)
    ·rintro f M ⟨k0, k1, k2, -⟩ -
     have hs20 : f 20 = .string (str i.state) := k0
     have hs22 : f 22 = .string (c.state) := k1
     have hs17 : f 17 = .bool true := k2
     refine ob_start (L' := M) (by rfl) (up_cons (up_cons (up_cons rfl hs20) hs22) hs17) ?_
     refine g_val (v := .bool true) rfl rfl rfl rfl rfl ((ev_t hg4 (e_eql_s (a := (str i.state)) (b := c.state) rfl rfl))) ?_
     refine l_nil ?_
     exact f_owes_d (up_cons (up_cons (up_cons rfl hs20) hs22) hs17) rfl (List.Perm.refl _)
    ·rintro f M ⟨k0, k1, -⟩ -
     have hs17 : f 17 = .bool true := k0
     have hs23 : f 23 = .bool true := k1
     refine ob_start (L' := M) (by rfl) (up_cons (up_cons rfl hs17) hs23) ?_
     refine l_val (v := .bool true) rfl rfl rfl (e_pick_t rfl) ?_
     refine l_nil ?_
     exact f_owes_d (up_cons (up_cons rfl hs17) hs23) rfl (List.Perm.refl _)
    ·rintro f M ⟨k0, -⟩ -
     have hs24 : f 24 = .bool true := k0
     refine ob_start (L' := M) (by rfl) (up_cons rfl hs24) ?_
     refine l_val (v := .bool true) rfl rfl rfl (e_move) ?_
     refine l_nil ?_
     exact f_owes_d (up_cons rfl hs24) rfl (List.Perm.refl _)
    ·rintro f M ⟨k0, -⟩ ⟨i0, -⟩
     have hs1 : f 1 = .pointer (some ⟨J, 0, none⟩) := i0
     have hs25 : f 25 = .bool true := k0
     refine ob_start (L' := M) (by rfl) (up_cons (up_cons rfl hs1) hs25) ?_
     refine g_val (v := .pointer (some ⟨J, 0, none⟩)) rfl rfl rfl rfl rfl (e_move) ?_
     refine l_nil ?_
     exact f_owes_d (up_cons (up_cons rfl hs1) hs25) rfl (List.Perm.refl _)
    ·rintro f M ⟨k0, k1, -⟩ -
     have hs26 : f 26 = .pointer (some ⟨J, 0, none⟩) := k0
     have hs25 : f 25 = .bool true := k1
     refine ob_start (L' := M) (by rfl) (up_cons (up_cons rfl hs26) hs25) ?_
     refine g_call rfl rfl rfl rfl rfl (cl_value (fst := []) (cap := []) (vs := [.pointer (some ⟨J, 0, none⟩)]) (all := [.pointer (some ⟨J, 0, none⟩)]) tf94 rfl rfl rfl) ?_
     intro w hw
     obtain ⟨β1, sb, kn, hw1, back⟩ := St.frame_all hw
     refine (records_ok β1 w hw1 J S i dn (JF.mono _ _ _ _ _ _ sb hj) hn hbs).mono ?_
     rintro e w' ⟨p11, c12, rfl, hw'⟩
     refine ⟨_, rfl, _, back _ _ hw', ?_⟩
     clear hw hw1 hw' back kn sb
     refine l_nil ?_
     exact f_owes_d (up_cons (up_cons rfl hs26) hs25) rfl (perm_front 0 rfl)
    ·rintro f M ⟨k0, k1, -⟩ -
     have hs27 : f 27 = .slice (sla (f 27)) (i.recs).length (slc (f 27)) := k0
     have hs25 : f 25 = .bool true := k1
     refine ob_start (L' := recsR 30 (sla (f 27)) (slc (f 27)) i.recs :: M) (by rfl) (up_cons (up_cons rfl hs27) hs25) ?_
     refine g_call rfl rfl rfl rfl rfl (cl_value (fst := []) (cap := []) (vs := [.slice (sla (f 27)) (i.recs).length (slc (f 27))]) (all := [.slice (sla (f 27)) (i.recs).length (slc (f 27))]) tf95 rfl rfl rfl) ?_
     intro w hw
     obtain ⟨β1, sb, kn, hw1, back⟩ := St.frame_all hw
     refine (text_ok β1 w hw1 i.recs _ hn (kn _ (Knows.of_res 0 rfl (Sl.mono BsR _ _) fun _ h => recs_sl h))).mono ?_
     rintro e w' ⟨p15, c16, rfl, hw'⟩
     refine ⟨_, rfl, _, back _ _ hw', ?_⟩
     clear hw hw1 hw' back kn sb
     refine l_nil ?_
     exact f_owes_d (up_cons (up_cons rfl hs27) hs25) rfl ((perm_front 0 rfl).trans (perm_front 1 rfl))
    ·rintro f M ⟨k0, -⟩ ⟨i0, -⟩
     have hs2 : f 2 = .pointer (some ⟨b1, 0, none⟩) := i0
     have hs25 : f 25 = .bool true := k0
     refine ob_start (L' := M) (by rfl) (up_cons (up_cons rfl hs2) hs25) ?_
     refine g_val (v := .pointer (some ⟨b1, 3, none⟩)) rfl rfl rfl rfl rfl (e_fieldPt (b := b1) (o := 0) rfl tf96) ?_
     refine l_nil ?_
     exact f_owes_d (up_cons (up_cons rfl hs2) hs25) rfl (List.Perm.refl _)
    ·rintro f M ⟨k0, k1, -⟩ -
     have hs29 : f 29 = .pointer (some ⟨b1, 3, none⟩) := k0
     have hs25 : f 25 = .bool true := k1
     refine ob_start (L' := pt b1 (.cells #[Nx (c.epoch), Nx (c.next), .string (c.state), .slice ca (c.recs.length) (cc)] 27) :: M) (by rfl) (up_cons (up_cons rfl hs29) hs25) ?_
     refine g_val (v := .slice ca (c.recs.length) (cc)) rfl rfl rfl rfl rfl (e_load1 tf97 (v := .slice ca (c.recs.length) (cc)) rfl (k_pt 0 (cs := #[Nx (c.epoch), Nx (c.next), .string (c.state), .slice ca (c.recs.length) (cc)]) (vs := [.slice ca (c.recs.length) (cc)]) rfl rfl)) ?_
     refine l_nil ?_
     exact f_owes_d (up_cons (up_cons rfl hs29) hs25) rfl (perm_front 0 rfl)
    ·rintro f M ⟨k0, k1, k2, -⟩ -
     have hs28 : f 28 = .slice (sla (f 28)) (i.recs.map str).length (slc (f 28)) := k0
     have hs30 : f 30 = .slice ca (c.recs.length) (cc) := k1
     have hs25 : f 25 = .bool true := k2
     refine ob_start (L' := row (.slice (sla (f 28)) (i.recs.map str).length (slc (f 28))) 9 1 ((i.recs.map str).length) ((i.recs.map str).map (fun s : ByteArray => Value.string s)) :: M) (by rfl) (up_cons (up_cons (up_cons rfl hs28) hs30) hs25) ?_
     refine g_call rfl rfl rfl rfl rfl (cl_value (fst := []) (cap := []) (vs := [.slice (sla (f 28)) (i.recs.map str).length (slc (f 28)), .slice ca (c.recs.length) (cc)]) (all := [.slice (sla (f 28)) (i.recs.map str).length (slc (f 28)), .slice ca (c.recs.length) (cc)]) tf98 rfl rfl rfl) ?_
     intro w hw
     obtain ⟨β1, sb, kn, hw1, back⟩ := St.frame_all hw
     refine (samet_ok β1 w hw1 (i.recs.map str) c.recs _ _ (kn _ (Knows.of_res 0 rfl (Sl.mono StrR _ _) fun _ h => row_str h)) (Sl.mono _ _ _ _ _ sb (⟨⟨_, _, rfl, cl, cm, ce⟩⟩ : Sl StrR _ _ c.recs))).mono ?_
     rintro e w' ⟨rfl, hw'⟩
     refine ⟨_, rfl, _, back _ _ hw', ?_⟩
     clear hw hw1 hw' back kn sb
     refine l_nil ?_
     exact f_owes_d (up_cons (up_cons (up_cons rfl hs28) hs30) hs25) rfl (perm_front 0 rfl)
    ·rintro f M ⟨k0, k1, -⟩ -
     have hs25 : f 25 = .bool true := k0
     have hs31 : f 31 = .bool (decide ((i.recs.map str) = c.recs)) := k1
     refine ob_start (L' := M) (by rfl) (up_cons (up_cons rfl hs25) hs31) ?_
     refine l_val (v := .bool (decide ((i.recs.map str) = c.recs))) rfl rfl rfl (e_pick_t rfl) ?_
     refine l_nil ?_
     exact f_owes_d (up_cons (up_cons rfl hs25) hs31) rfl (List.Perm.refl _)
    ·rintro f M ⟨k0, -⟩ -
     have hs32 : f 32 = .bool (decide ((i.recs.map str) = c.recs)) := k0
     refine ob_start (L' := M) (by rfl) (up_cons rfl hs32) ?_
     refine l_val (v := .bool (decide ((i.recs.map str) = c.recs))) rfl rfl rfl (e_assign) ?_
     refine l_nil ?_
     exact f_owes_d (up_cons rfl hs32) rfl (List.Perm.refl _)
    rintro fa17 ⟨-, -, -, -, -, -, -, -, -, -, -, -, -, -, -, -, -, -, -, -, -, -, -, -, -, -, -, -, k28, -⟩ -
    refine f_re (L' := [pt b1 (.cells #[Nx (c.epoch), Nx (c.next), .string (c.state), .slice ca (c.recs.length) (cc)] 27), row (.slice (sla (fa17 19)) (i.state).length (slc (fa17 19))) 5 1 ((i.state).length) (BX i.state), recsR 30 (sla (fa17 27)) (slc (fa17 27)) i.recs, row (.slice (sla (fa17 28)) (i.recs.map str).length (slc (fa17 28))) 9 1 ((i.recs.map str).length) ((i.recs.map str).map (fun s : ByteArray => Value.string s))]) (by rfl) ?_
    refine f_rebase (d := 4) (v := .bool (decide ((i.recs.map str) = c.recs))) k28 ?_
    refine f_then ?_
    refine c_ret ?_
    refine ret1 Try.results38 (v := .bool (decide ((i.recs.map str) = c.recs))) rfl ?_
    intro w hw
    exact ⟨bool_d ⟨fun q => ⟨by omega, by omega, hg4, q⟩, fun q => q.2.2.2⟩, st_mask [false, false, false, false] rfl hw⟩
   ·
    refine c_any [⟨[], [], [0], [5], fun f => f 5 = .pointer (some ⟨J, 0, none⟩)⟩, ⟨[0], [0], [], [6], fun f => f 6 = Nx (i.epoch)⟩, ⟨[], [], [1], [7], fun f => f 7 = .pointer (some ⟨b1, 0, none⟩)⟩, ⟨[2], [2], [], [8], fun f => f 8 = Nx (c.epoch)⟩, ⟨[0, 1, 2, 3], [1, 3], [], [9], fun f => f 9 = .bool true⟩, ⟨[0, 1, 2, 3, 4], [4], [], [10], fun f => f 10 = .bool true⟩, ⟨[0, 1, 2, 3, 4, 5], [5], [0], [11], fun f => f 11 = .pointer (some ⟨J, 0, none⟩)⟩, ⟨[0, 1, 2, 3, 4, 5, 6], [6, 5], [], [12], fun f => f 12 = Nx (i.next)⟩, ⟨[0, 1, 2, 3, 4, 5], [5], [1], [13], fun f => f 13 = .pointer (some ⟨b1, 1, none⟩)⟩, ⟨[0, 1, 2, 3, 4, 5, 8], [8, 5], [], [14], fun f => f 14 = Nx (c.next)⟩, ⟨[0, 1, 2, 3, 4, 5, 6, 7, 8, 9], [7, 9, 5], [], [15], fun f => f 15 = .bool true⟩, ⟨[0, 1, 2, 3, 4, 5, 6, 7, 8, 9, 10], [5, 10], [], [16], fun f => f 16 = .bool true⟩, ⟨[0, 1, 2, 3, 4, 5, 6, 7, 8, 9, 10, 11], [11], [], [17], fun f => f 17 = .bool true⟩, ⟨[0, 1, 2, 3, 4, 5, 6, 7, 8, 9, 10, 11, 12], [12], [0], [18], fun f => f 18 = .pointer (some ⟨J, 0, none⟩)⟩, ⟨[0, 1, 2, 3, 4, 5, 6, 7, 8, 9, 10, 11, 12, 13], [13, 12], [], [19], fun f => f 19 = .slice (sla (f 19)) (i.state).length (slc (f 19))⟩, ⟨[0, 1, 2, 3, 4, 5, 6, 7, 8, 9, 10, 11, 12, 13, 14], [14, 12], [], [20], fun f => f 20 = .string (str i.state)⟩, ⟨[0, 1, 2, 3, 4, 5, 6, 7, 8, 9, 10, 11, 12], [12], [1], [21], fun f => f 21 = .pointer (some ⟨b1, 2, none⟩)⟩, ⟨[0, 1, 2, 3, 4, 5, 6, 7, 8, 9, 10, 11, 12, 16], [16, 12], [], [22], fun f => f 22 = .string (c.state)⟩, ⟨[0, 1, 2, 3, 4, 5, 6, 7, 8, 9, 10, 11, 12, 13, 14, 15, 16, 17], [15, 17, 12], [], [23], fun f => f 23 = .bool false⟩, ⟨[0, 1, 2, 3, 4, 5, 6, 7, 8, 9, 10, 11, 12, 13, 14, 15, 16, 17, 18], [12, 18], [], [24], fun f => f 24 = .bool false⟩, ⟨[0, 1, 2, 3, 4, 5, 6, 7, 8, 9, 10, 11, 12, 13, 14, 15, 16, 17, 18, 19], [19], [], [25], fun f => f 25 = .bool false⟩, ⟨[0, 1, 2, 3, 4, 5, 6, 7, 8, 9, 10, 11, 12, 13, 14, 15, 16, 17, 18, 19, 20], [20], [0], [26], fun f => f 26 = undef⟩, ⟨[0, 1, 2, 3, 4, 5, 6, 7, 8, 9, 10, 11, 12, 13, 14, 15, 16, 17, 18, 19, 20, 21], [21, 20], [], [27], fun f => f 27 = undef⟩, ⟨[0, 1, 2, 3, 4, 5, 6, 7, 8, 9, 10, 11, 12, 13, 14, 15, 16, 17, 18, 19, 20, 21, 22], [22, 20], [], [28], fun f => f 28 = undef⟩, ⟨[0, 1, 2, 3, 4, 5, 6, 7, 8, 9, 10, 11, 12, 13, 14, 15, 16, 17, 18, 19, 20], [20], [1], [29], fun f => f 29 = undef⟩, ⟨[0, 1, 2, 3, 4, 5, 6, 7, 8, 9, 10, 11, 12, 13, 14, 15, 16, 17, 18, 19, 20, 24], [24, 20], [], [30], fun f => f 30 = undef⟩, ⟨[0, 1, 2, 3, 4, 5, 6, 7, 8, 9, 10, 11, 12, 13, 14, 15, 16, 17, 18, 19, 20, 21, 22, 23, 24, 25], [23, 25, 20], [], [31], fun f => f 31 = undef⟩, ⟨[0, 1, 2, 3, 4, 5, 6, 7, 8, 9, 10, 11, 12, 13, 14, 15, 16, 17, 18, 19, 20, 21, 22, 23, 24, 25, 26], [20, 26], [], [32], fun f => f 32 = .bool false⟩, ⟨[0, 1, 2, 3, 4, 5, 6, 7, 8, 9, 10, 11, 12, 13, 14, 15, 16, 17, 18, 19, 20, 21, 22, 23, 24, 25, 26, 27], [27], [], [4], fun f => f 4 = .bool false⟩] [⟨none, none, [3, 9, 17], [], fun _ => pt b1 (.cells #[Nx (c.epoch), Nx (c.next), .string (c.state), .slice ca (c.recs.length) (cc)] 27)⟩, ⟨(some 14), none, [15], [19], fun f => row (.slice (sla (f 19)) (i.state).length (slc (f 19))) 5 1 ((i.state).length) (BX i.state)⟩] [(1, .pointer (some ⟨J, 0, none⟩)), (2, .pointer (some ⟨b1, 0, none⟩))] [] [] (by kernel_rfl) (by kernel_rfl) (by kernel_rfl) (by kernel_rfl) rfl ⟨rfl, rfl, trivial⟩ ⟨?_, ?_, ?_, ?_, ?_, ?_, ?_, ?_, ?_, ?_, ?_, ?_, ?_, ?_, ?_, ?_, ?_, ?_, ?_, ?_, ?_, ?_, ?_, ?_, ?_, ?_, ?_, ?_, ?_, trivial⟩ ?_
    ·rintro f M - ⟨i0, -⟩
     have hs1 : f 1 = .pointer (some ⟨J, 0, none⟩) := i0
     refine ob_start (L' := M) (by rfl) (up_cons rfl hs1) ?_
     refine l_val (v := .pointer (some ⟨J, 0, none⟩)) rfl rfl rfl (e_move) ?_
     refine l_nil ?_
     exact f_owes_d (up_cons rfl hs1) rfl (List.Perm.refl _)
    ·rintro f M ⟨k0, -⟩ -
     have hs5 : f 5 = .pointer (some ⟨J, 0, none⟩) := k0
     refine ob_start (L' := M) (by rfl) (up_cons rfl hs5) ?_
     refine l_call rfl rfl rfl (cl_value (fst := []) (cap := []) (vs := [.pointer (some ⟨J, 0, none⟩)]) (all := [.pointer (some ⟨J, 0, none⟩)]) tf88 rfl rfl rfl) ?_
     intro w hw
     obtain ⟨β1, sb, kn, hw1, back⟩ := St.frame_all hw
     refine (epochm_ok β1 w hw1 J S i dn (JF.mono _ _ _ _ _ _ sb hj)).mono ?_
     rintro e w' ⟨rfl, hw'⟩
     refine ⟨_, rfl, _, back _ _ hw', ?_⟩
     clear hw hw1 hw' back kn sb
     refine l_nil ?_
     exact f_owes_d (up_cons rfl hs5) rfl (List.Perm.refl _)
    ·rintro f M - ⟨i0, -⟩
     have hs2 : f 2 = .pointer (some ⟨b1, 0, none⟩) := i0
     refine ob_start (L' := M) (by rfl) (up_cons rfl hs2) ?_
     refine l_val (v := .pointer (some ⟨b1, 0, none⟩)) rfl rfl rfl (e_fieldPt (b := b1) (o := 0) rfl tf89) ?_
     refine l_nil ?_
     exact f_owes_d (up_cons rfl hs2) rfl (List.Perm.refl _)
    ·rintro f M ⟨k0, -⟩ -
     have hs7 : f 7 = .pointer (some ⟨b1, 0, none⟩) := k0
     refine ob_start (L' := pt b1 (.cells #[Nx (c.epoch), Nx (c.next), .string (c.state), .slice ca (c.recs.length) (cc)] 27) :: M) (by rfl) (up_cons rfl hs7) ?_
     refine l_val (v := Nx (c.epoch)) rfl rfl rfl (e_load1 tf25 (v := Nx (c.epoch)) rfl (k_pt 0 (cs := #[Nx (c.epoch), Nx (c.next), .string (c.state), .slice ca (c.recs.length) (cc)]) (vs := [Nx (c.epoch)]) rfl rfl)) ?_
     refine l_nil ?_
     exact f_owes_d (up_cons rfl hs7) rfl (perm_front 0 rfl)
    ·rintro f M ⟨k0, k1, -⟩ -
     have hs6 : f 6 = Nx (i.epoch) := k0
     have hs8 : f 8 = Nx (c.epoch) := k1
     refine ob_start (L' := M) (by rfl) (up_cons (up_cons rfl hs6) hs8) ?_
     refine l_val (v := .bool true) rfl rfl rfl ((ev_t hg2 (e_eql (a := ((i.epoch : Nat) : Int)) (b := ((c.epoch : Nat) : Int)) rfl rfl))) ?_
     refine l_nil ?_
     exact f_owes_d (up_cons (up_cons rfl hs6) hs8) rfl (List.Perm.refl _)
    ·rintro f M ⟨k0, -⟩ -
     have hs9 : f 9 = .bool true := k0
     refine ob_start (L' := M) (by rfl) (up_cons rfl hs9) ?_
     refine l_val (v := .bool true) rfl rfl rfl (e_move) ?_
     refine l_nil ?_
     exact f_owes_d (up_cons rfl hs9) rfl (List.Perm.refl _)
    ·rintro f M ⟨k0, -⟩ ⟨i0, -⟩
     have hs1 : f 1 = .pointer (some ⟨J, 0, none⟩) := i0
     have hs10 : f 10 = .bool true := k0
     refine ob_start (L' := M) (by rfl) (up_cons (up_cons rfl hs1) hs10) ?_
     refine g_val (v := .pointer (some ⟨J, 0, none⟩)) rfl rfl rfl rfl rfl (e_move) ?_
     refine l_nil ?_
     exact f_owes_d (up_cons (up_cons rfl hs1) hs10) rfl (List.Perm.refl _)
    ·rintro f M ⟨k0, k1, -⟩ -
     have hs11 : f 11 = .pointer (some ⟨J, 0, none⟩) := k0
     have hs10 : f 10 = .bool true := k1
     refine ob_start (L' := M) (by rfl) (up_cons (up_cons rfl hs11) hs10) ?_
     refine g_call rfl rfl rfl rfl rfl (cl_value (fst := []) (cap := []) (vs := [.pointer (some ⟨J, 0, none⟩)]) (all := [.pointer (some ⟨J, 0, none⟩)]) tf90 rfl rfl rfl) ?_
     intro w hw
     obtain ⟨β1, sb, kn, hw1, back⟩ := St.frame_all hw
     refine (next_ok β1 w hw1 J S i dn (JF.mono _ _ _ _ _ _ sb hj)).mono ?_
     rintro e w' ⟨rfl, hw'⟩
     refine ⟨_, rfl, _, back _ _ hw', ?_⟩
     clear hw hw1 hw' back kn sb
     refine l_nil ?_
     exact f_owes_d (up_cons (up_cons rfl hs11) hs10) rfl (List.Perm.refl _)
    ·rintro f M ⟨k0, -⟩ ⟨i0, -⟩
     have hs2 : f 2 = .pointer (some ⟨b1, 0, none⟩) := i0
     have hs10 : f 10 = .bool true := k0
     refine ob_start (L' := M) (by rfl) (up_cons (up_cons rfl hs2) hs10) ?_
     refine g_val (v := .pointer (some ⟨b1, 1, none⟩)) rfl rfl rfl rfl rfl (e_fieldPt (b := b1) (o := 0) rfl tf91) ?_
     refine l_nil ?_
     exact f_owes_d (up_cons (up_cons rfl hs2) hs10) rfl (List.Perm.refl _)
    ·rintro f M ⟨k0, k1, -⟩ -
     have hs13 : f 13 = .pointer (some ⟨b1, 1, none⟩) := k0
     have hs10 : f 10 = .bool true := k1
     refine ob_start (L' := pt b1 (.cells #[Nx (c.epoch), Nx (c.next), .string (c.state), .slice ca (c.recs.length) (cc)] 27) :: M) (by rfl) (up_cons (up_cons rfl hs13) hs10) ?_
     refine g_val (v := Nx (c.next)) rfl rfl rfl rfl rfl (e_load1 tf25 (v := Nx (c.next)) rfl (k_pt 0 (cs := #[Nx (c.epoch), Nx (c.next), .string (c.state), .slice ca (c.recs.length) (cc)]) (vs := [Nx (c.next)]) rfl rfl)) ?_
     refine l_nil ?_
     exact f_owes_d (up_cons (up_cons rfl hs13) hs10) rfl (perm_front 0 rfl)
    ·rintro f M ⟨k0, k1, k2, -⟩ -
     have hs12 : f 12 = Nx (i.next) := k0
     have hs14 : f 14 = Nx (c.next) := k1
     have hs10 : f 10 = .bool true := k2
     refine ob_start (L' := M) (by rfl) (up_cons (up_cons (up_cons rfl hs12) hs14) hs10) ?_
     refine g_val (v := .bool true) rfl rfl rfl rfl rfl ((ev_t hg3 (e_eql (a := ((i.next : Nat) : Int)) (b := ((c.next : Nat) : Int)) rfl rfl))) ?_
     refine l_nil ?_
     exact f_owes_d (up_cons (up_cons (up_cons rfl hs12) hs14) hs10) rfl (List.Perm.refl _)
    ·rintro f M ⟨k0, k1, -⟩ -
     have hs10 : f 10 = .bool true := k0
     have hs15 : f 15 = .bool true := k1
     refine ob_start (L' := M) (by rfl) (up_cons (up_cons rfl hs10) hs15) ?_
     refine l_val (v := .bool true) rfl rfl rfl (e_pick_t rfl) ?_
     refine l_nil ?_
     exact f_owes_d (up_cons (up_cons rfl hs10) hs15) rfl (List.Perm.refl _)
    ·rintro f M ⟨k0, -⟩ -
     have hs16 : f 16 = .bool true := k0
     refine ob_start (L' := M) (by rfl) (up_cons rfl hs16) ?_
     refine l_val (v := .bool true) rfl rfl rfl (e_move) ?_
     refine l_nil ?_
     exact f_owes_d (up_cons rfl hs16) rfl (List.Perm.refl _)
    ·rintro f M ⟨k0, -⟩ ⟨i0, -⟩
     have hs1 : f 1 = .pointer (some ⟨J, 0, none⟩) := i0
     have hs17 : f 17 = .bool true := k0
     refine ob_start (L' := M) (by rfl) (up_cons (up_cons rfl hs1) hs17) ?_
     refine g_val (v := .pointer (some ⟨J, 0, none⟩)) rfl rfl rfl rfl rfl (e_move) ?_
     refine l_nil ?_
     exact f_owes_d (up_cons (up_cons rfl hs1) hs17) rfl (List.Perm.refl _)
    ·rintro f M ⟨k0, k1, -⟩ -
     have hs18 : f 18 = .pointer (some ⟨J, 0, none⟩) := k0
     have hs17 : f 17 = .bool true := k1
     refine ob_start (L' := M) (by rfl) (up_cons (up_cons rfl hs18) hs17) ?_
     refine g_call rfl rfl rfl rfl rfl (cl_value (fst := []) (cap := []) (vs := [.pointer (some ⟨J, 0, none⟩)]) (all := [.pointer (some ⟨J, 0, none⟩)]) tf92 rfl rfl rfl) ?_
     intro w hw
     obtain ⟨β1, sb, kn, hw1, back⟩ := St.frame_all hw
     refine (state_ok β1 w hw1 J S i dn (JF.mono _ _ _ _ _ _ sb hj) hb).mono ?_
     rintro e w' ⟨p20, c21, rfl, hw'⟩
     refine ⟨_, rfl, _, back _ _ hw', ?_⟩
     clear hw hw1 hw' back kn sb
     refine l_nil ?_
     exact f_owes_d (up_cons (up_cons rfl hs18) hs17) rfl (perm_front 0 rfl)
    ·rintro f M ⟨k0, k1, -⟩ -
     have hs19 : f 19 = .slice (sla (f 19)) (i.state).length (slc (f 19)) := k0
     have hs17 : f 17 = .bool true := k1
     refine ob_start (L' := row (.slice (sla (f 19)) (i.state).length (slc (f 19))) 5 1 ((i.state).length) (BX i.state) :: M) (by rfl) (up_cons (up_cons rfl hs19) hs17) ?_
     refine g_val (v := .string (str i.state)) rfl rfl rfl rfl rfl (e_bytesStr (a := (sla (f 19))) (bs := i.state) (m := (i.state).length) (c := (slc (f 19))) rfl (by first | rfl | simp) tf11 tf8 tf7 (k_rowE 0 rfl)) ?_
     refine l_nil ?_
     exact f_owes_d (up_cons (up_cons rfl hs19) hs17) rfl (perm_front 0 rfl)
    ·rintro f M ⟨k0, -⟩ ⟨i0, -⟩
     have hs2 : f 2 = .pointer (some ⟨b1, 0, none⟩) := i0
     have hs17 : f 17 = .bool true := k0
     refine ob_start (L' := M) (by rfl) (up_cons (up_cons rfl hs2) hs17) ?_
     refine g_val (v := .pointer (some ⟨b1, 2, none⟩)) rfl rfl rfl rfl rfl (e_fieldPt (b := b1) (o := 0) rfl tf93) ?_
     refine l_nil ?_
     exact f_owes_d (up_cons (up_cons rfl hs2) hs17) rfl (List.Perm.refl _)
    ·rintro f M ⟨k0, k1, -⟩ -
     have hs21 : f 21 = .pointer (some ⟨b1, 2, none⟩) := k0
     have hs17 : f 17 = .bool true := k1
     refine ob_start (L' := pt b1 (.cells #[Nx (c.epoch), Nx (c.next), .string (c.state), .slice ca (c.recs.length) (cc)] 27) :: M) (by rfl) (up_cons (up_cons rfl hs21) hs17) ?_
     refine g_val (v := .string (c.state)) rfl rfl rfl rfl rfl (e_load1 tf6 (v := .string (c.state)) rfl (k_pt 0 (cs := #[Nx (c.epoch), Nx (c.next), .string (c.state), .slice ca (c.recs.length) (cc)]) (vs := [.string (c.state)]) rfl rfl)) ?_
     refine l_nil ?_
     exact f_owes_d (up_cons (up_cons rfl hs21) hs17) rfl (perm_front 0 rfl)
    ·rintro f M ⟨k0, k1, k2, -⟩ -
     have hs20 : f 20 = .string (str i.state) := k0
     have hs22 : f 22 = .string (c.state) := k1
     have hs17 : f 17 = .bool true := k2
     refine ob_start (L' := M) (by rfl) (up_cons (up_cons (up_cons rfl hs20) hs22) hs17) ?_
     refine g_val (v := .bool false) rfl rfl rfl rfl rfl ((ev_f hg4 (e_eql_s (a := (str i.state)) (b := c.state) rfl rfl))) ?_
     refine l_nil ?_
     exact f_owes_d (up_cons (up_cons (up_cons rfl hs20) hs22) hs17) rfl (List.Perm.refl _)
    ·rintro f M ⟨k0, k1, -⟩ -
     have hs17 : f 17 = .bool true := k0
     have hs23 : f 23 = .bool false := k1
     refine ob_start (L' := M) (by rfl) (up_cons (up_cons rfl hs17) hs23) ?_
     refine l_val (v := .bool false) rfl rfl rfl (e_pick_t rfl) ?_
     refine l_nil ?_
     exact f_owes_d (up_cons (up_cons rfl hs17) hs23) rfl (List.Perm.refl _)
    ·rintro f M ⟨k0, -⟩ -
     have hs24 : f 24 = .bool false := k0
     refine ob_start (L' := M) (by rfl) (up_cons rfl hs24) ?_
     refine l_val (v := .bool false) rfl rfl rfl (e_move) ?_
     refine l_nil ?_
     exact f_owes_d (up_cons rfl hs24) rfl (List.Perm.refl _)
    ·rintro f M ⟨k0, -⟩ ⟨i0, -⟩
     have hs1 : f 1 = .pointer (some ⟨J, 0, none⟩) := i0
     have hs25 : f 25 = .bool false := k0
     refine ob_start (L' := M) (by rfl) (up_cons (up_cons rfl hs1) hs25) ?_
     refine l_skip rfl rfl rfl rfl rfl rfl ?_
     refine l_nil ?_
     exact f_owes_d (up_cons (up_cons rfl hs1) hs25) rfl (List.Perm.refl _)
    ·rintro f M ⟨k0, k1, -⟩ -
     have hs26 : f 26 = undef := k0
     have hs25 : f 25 = .bool false := k1
     refine ob_start (L' := M) (by rfl) (up_cons (up_cons rfl hs26) hs25) ?_
     refine l_skip rfl rfl rfl rfl rfl rfl ?_
     refine l_nil ?_
     exact f_owes_d (up_cons (up_cons rfl hs26) hs25) rfl (List.Perm.refl _)
    ·rintro f M ⟨k0, k1, -⟩ -
     have hs27 : f 27 = undef := k0
     have hs25 : f 25 = .bool false := k1
     refine ob_start (L' := M) (by rfl) (up_cons (up_cons rfl hs27) hs25) ?_
     refine l_skip rfl rfl rfl rfl rfl rfl ?_
     refine l_nil ?_
     exact f_owes_d (up_cons (up_cons rfl hs27) hs25) rfl (List.Perm.refl _)
    ·rintro f M ⟨k0, -⟩ ⟨i0, -⟩
     have hs2 : f 2 = .pointer (some ⟨b1, 0, none⟩) := i0
     have hs25 : f 25 = .bool false := k0
     refine ob_start (L' := M) (by rfl) (up_cons (up_cons rfl hs2) hs25) ?_
     refine l_skip rfl rfl rfl rfl rfl rfl ?_
     refine l_nil ?_
     exact f_owes_d (up_cons (up_cons rfl hs2) hs25) rfl (List.Perm.refl _)
    ·rintro f M ⟨k0, k1, -⟩ -
     have hs29 : f 29 = undef := k0
     have hs25 : f 25 = .bool false := k1
     refine ob_start (L' := M) (by rfl) (up_cons (up_cons rfl hs29) hs25) ?_
     refine l_skip rfl rfl rfl rfl rfl rfl ?_
     refine l_nil ?_
     exact f_owes_d (up_cons (up_cons rfl hs29) hs25) rfl (List.Perm.refl _)
    ·rintro f M ⟨k0, k1, k2, -⟩ -
     have hs28 : f 28 = undef := k0
     have hs30 : f 30 = undef := k1
     have hs25 : f 25 = .bool false := k2
     refine ob_start (L' := M) (by rfl) (up_cons (up_cons (up_cons rfl hs28) hs30) hs25) ?_
     refine l_skip rfl rfl rfl rfl rfl rfl ?_
     refine l_nil ?_
     exact f_owes_d (up_cons (up_cons (up_cons rfl hs28) hs30) hs25) rfl (List.Perm.refl _)
    ·rintro f M ⟨k0, k1, -⟩ -
     have hs25 : f 25 = .bool false := k0
     have hs31 : f 31 = undef := k1
     refine ob_start (L' := M) (by rfl) (up_cons (up_cons rfl hs25) hs31) ?_
     refine l_val (v := .bool false) rfl rfl rfl (e_pick_f rfl) ?_
     refine l_nil ?_
     exact f_owes_d (up_cons (up_cons rfl hs25) hs31) rfl (List.Perm.refl _)
    ·rintro f M ⟨k0, -⟩ -
     have hs32 : f 32 = .bool false := k0
     refine ob_start (L' := M) (by rfl) (up_cons rfl hs32) ?_
     refine l_val (v := .bool false) rfl rfl rfl (e_assign) ?_
     refine l_nil ?_
     exact f_owes_d (up_cons rfl hs32) rfl (List.Perm.refl _)
    rintro fa22 ⟨-, -, -, -, -, -, -, -, -, -, -, -, -, -, -, -, -, -, -, -, -, -, -, -, -, -, -, -, k28, -⟩ -
    refine f_re (L' := [pt b1 (.cells #[Nx (c.epoch), Nx (c.next), .string (c.state), .slice ca (c.recs.length) (cc)] 27), row (.slice (sla (fa22 19)) (i.state).length (slc (fa22 19))) 5 1 ((i.state).length) (BX i.state)]) (by rfl) ?_
    refine f_rebase (d := 4) (v := .bool false) k28 ?_
    refine f_then ?_
    refine c_ret ?_
    refine ret1 Try.results38 (v := .bool false) rfl ?_
    intro w hw
    exact ⟨bool_f (fun q => hg4 q.2.2.1), st_mask [false, false] rfl hw⟩
  ·
   refine c_any [⟨[], [], [0], [5], fun f => f 5 = .pointer (some ⟨J, 0, none⟩)⟩, ⟨[0], [0], [], [6], fun f => f 6 = Nx (i.epoch)⟩, ⟨[], [], [1], [7], fun f => f 7 = .pointer (some ⟨b1, 0, none⟩)⟩, ⟨[2], [2], [], [8], fun f => f 8 = Nx (c.epoch)⟩, ⟨[0, 1, 2, 3], [1, 3], [], [9], fun f => f 9 = .bool true⟩, ⟨[0, 1, 2, 3, 4], [4], [], [10], fun f => f 10 = .bool true⟩, ⟨[0, 1, 2, 3, 4, 5], [5], [0], [11], fun f => f 11 = .pointer (some ⟨J, 0, none⟩)⟩, ⟨[0, 1, 2, 3, 4, 5, 6], [6, 5], [], [12], fun f => f 12 = Nx (i.next)⟩, ⟨[0, 1, 2, 3, 4, 5], [5], [1], [13], fun f => f 13 = .pointer (some ⟨b1, 1, none⟩)⟩, ⟨[0, 1, 2, 3, 4, 5, 8], [8, 5], [], [14], fun f => f 14 = Nx (c.next)⟩, ⟨[0, 1, 2, 3, 4, 5, 6, 7, 8, 9], [7, 9, 5], [], [15], fun f => f 15 = .bool false⟩, ⟨[0, 1, 2, 3, 4, 5, 6, 7, 8, 9, 10], [5, 10], [], [16], fun f => f 16 = .bool false⟩, ⟨[0, 1, 2, 3, 4, 5, 6, 7, 8, 9, 10, 11], [11], [], [17], fun f => f 17 = .bool false⟩, ⟨[0, 1, 2, 3, 4, 5, 6, 7, 8, 9, 10, 11, 12], [12], [0], [18], fun f => f 18 = undef⟩, ⟨[0, 1, 2, 3, 4, 5, 6, 7, 8, 9, 10, 11, 12, 13], [13, 12], [], [19], fun f => f 19 = undef⟩, ⟨[0, 1, 2, 3, 4, 5, 6, 7, 8, 9, 10, 11, 12, 13, 14], [14, 12], [], [20], fun f => f 20 = undef⟩, ⟨[0, 1, 2, 3, 4, 5, 6, 7, 8, 9, 10, 11, 12], [12], [1], [21], fun f => f 21 = undef⟩, ⟨[0, 1, 2, 3, 4, 5, 6, 7, 8, 9, 10, 11, 12, 16], [16, 12], [], [22], fun f => f 22 = undef⟩, ⟨[0, 1, 2, 3, 4, 5, 6, 7, 8, 9, 10, 11, 12, 13, 14, 15, 16, 17], [15, 17, 12], [], [23], fun f => f 23 = undef⟩, ⟨[0, 1, 2, 3, 4, 5, 6, 7, 8, 9, 10, 11, 12, 13, 14, 15, 16, 17, 18], [12, 18], [], [24], fun f => f 24 = .bool false⟩, ⟨[0, 1, 2, 3, 4, 5, 6, 7, 8, 9, 10, 11, 12, 13, 14, 15, 16, 17, 18, 19], [19], [], [25], fun f => f 25 = .bool false⟩, ⟨[0, 1, 2, 3, 4, 5, 6, 7, 8, 9, 10, 11, 12, 13, 14, 15, 16, 17, 18, 19, 20], [20], [0], [26], fun f => f 26 = undef⟩, ⟨[0, 1, 2, 3, 4, 5, 6, 7, 8, 9, 10, 11, 12, 13, 14, 15, 16, 17, 18, 19, 20, 21], [21, 20], [], [27], fun f => f 27 = undef⟩, ⟨[0, 1, 2, 3, 4, 5, 6, 7, 8, 9, 10, 11, 12, 13, 14, 15, 16, 17, 18, 19, 20, 21, 22], [22, 20], [], [28], fun f => f 28 = undef⟩, ⟨[0, 1, 2, 3, 4, 5, 6, 7, 8, 9, 10, 11, 12, 13, 14, 15, 16, 17, 18, 19, 20], [20], [1], [29], fun f => f 29 = undef⟩, ⟨[0, 1, 2, 3, 4, 5, 6, 7, 8, 9, 10, 11, 12, 13, 14, 15, 16, 17, 18, 19, 20, 24], [24, 20], [], [30], fun f => f 30 = undef⟩, ⟨[0, 1, 2, 3, 4, 5, 6, 7, 8, 9, 10, 11, 12, 13, 14, 15, 16, 17, 18, 19, 20, 21, 22, 23, 24, 25], [23, 25, 20], [], [31], fun f => f 31 = undef⟩, ⟨[0, 1, 2, 3, 4, 5, 6, 7, 8, 9, 10, 11, 12, 13, 14, 15, 16, 17, 18, 19, 20, 21, 22, 23, 24, 25, 26], [20, 26], [], [32], fun f => f 32 = .bool false⟩, ⟨[0, 1, 2, 3, 4, 5, 6, 7, 8, 9, 10, 11, 12, 13, 14, 15, 16, 17, 18, 19, 20, 21, 22, 23, 24, 25, 26, 27], [27], [], [4], fun f => f 4 = .bool false⟩] [⟨none, none, [3, 9], [], fun _ => pt b1 (.cells #[Nx (c.epoch), Nx (c.next), .string (c.state), .slice ca (c.recs.length) (cc)] 27)⟩] [(1, .pointer (some ⟨J, 0, none⟩)), (2, .pointer (some ⟨b1, 0, none⟩))] [] [] (by kernel_rfl) (by kernel_rfl) (by kernel_rfl) (by kernel_rfl) rfl ⟨rfl, rfl, trivial⟩ ⟨?_, ?_, ?_, ?_, ?_, ?_, ?_, ?_, ?_, ?_, ?_, ?_, ?_, ?_, ?_, ?_, ?_, ?_, ?_, ?_, ?_, ?_, ?_, ?_, ?_, ?_, ?_, ?_, ?_, trivial⟩ ?_
   ·rintro f M - ⟨i0, -⟩
    have hs1 : f 1 = .pointer (some ⟨J, 0, none⟩) := i0
    refine ob_start (L' := M) (by rfl) (up_cons rfl hs1) ?_
    refine l_val (v := .pointer (some ⟨J, 0, none⟩)) rfl rfl rfl (e_move) ?_
    refine l_nil ?_
    exact f_owes_d (up_cons rfl hs1) rfl (List.Perm.refl _)
   ·rintro f M ⟨k0, -⟩ -
    have hs5 : f 5 = .pointer (some ⟨J, 0, none⟩) := k0
    refine ob_start (L' := M) (by rfl) (up_cons rfl hs5) ?_
    refine l_call rfl rfl rfl (cl_value (fst := []) (cap := []) (vs := [.pointer (some ⟨J, 0, none⟩)]) (all := [.pointer (some ⟨J, 0, none⟩)]) tf88 rfl rfl rfl) ?_
    intro w hw
    obtain ⟨β1, sb, kn, hw1, back⟩ := St.frame_all hw
    refine (epochm_ok β1 w hw1 J S i dn (JF.mono _ _ _ _ _ _ sb hj)).mono ?_
    rintro e w' ⟨rfl, hw'⟩
    refine ⟨_, rfl, _, back _ _ hw', ?_⟩
    clear hw hw1 hw' back kn sb
    refine l_nil ?_
    exact f_owes_d (up_cons rfl hs5) rfl (List.Perm.refl _)
   ·rintro f M - ⟨i0, -⟩
    have hs2 : f 2 = .pointer (some ⟨b1, 0, none⟩) := i0
    refine ob_start (L' := M) (by rfl) (up_cons rfl hs2) ?_
    refine l_val (v := .pointer (some ⟨b1, 0, none⟩)) rfl rfl rfl (e_fieldPt (b := b1) (o := 0) rfl tf89) ?_
    refine l_nil ?_
    exact f_owes_d (up_cons rfl hs2) rfl (List.Perm.refl _)
   ·rintro f M ⟨k0, -⟩ -
    have hs7 : f 7 = .pointer (some ⟨b1, 0, none⟩) := k0
    refine ob_start (L' := pt b1 (.cells #[Nx (c.epoch), Nx (c.next), .string (c.state), .slice ca (c.recs.length) (cc)] 27) :: M) (by rfl) (up_cons rfl hs7) ?_
    refine l_val (v := Nx (c.epoch)) rfl rfl rfl (e_load1 tf25 (v := Nx (c.epoch)) rfl (k_pt 0 (cs := #[Nx (c.epoch), Nx (c.next), .string (c.state), .slice ca (c.recs.length) (cc)]) (vs := [Nx (c.epoch)]) rfl rfl)) ?_
    refine l_nil ?_
    exact f_owes_d (up_cons rfl hs7) rfl (perm_front 0 rfl)
   ·rintro f M ⟨k0, k1, -⟩ -
    have hs6 : f 6 = Nx (i.epoch) := k0
    have hs8 : f 8 = Nx (c.epoch) := k1
    refine ob_start (L' := M) (by rfl) (up_cons (up_cons rfl hs6) hs8) ?_
    refine l_val (v := .bool true) rfl rfl rfl ((ev_t hg2 (e_eql (a := ((i.epoch : Nat) : Int)) (b := ((c.epoch : Nat) : Int)) rfl rfl))) ?_
    refine l_nil ?_
    exact f_owes_d (up_cons (up_cons rfl hs6) hs8) rfl (List.Perm.refl _)
   ·rintro f M ⟨k0, -⟩ -
    have hs9 : f 9 = .bool true := k0
    refine ob_start (L' := M) (by rfl) (up_cons rfl hs9) ?_
    refine l_val (v := .bool true) rfl rfl rfl (e_move) ?_
    refine l_nil ?_
    exact f_owes_d (up_cons rfl hs9) rfl (List.Perm.refl _)
   ·rintro f M ⟨k0, -⟩ ⟨i0, -⟩
    have hs1 : f 1 = .pointer (some ⟨J, 0, none⟩) := i0
    have hs10 : f 10 = .bool true := k0
    refine ob_start (L' := M) (by rfl) (up_cons (up_cons rfl hs1) hs10) ?_
    refine g_val (v := .pointer (some ⟨J, 0, none⟩)) rfl rfl rfl rfl rfl (e_move) ?_
    refine l_nil ?_
    exact f_owes_d (up_cons (up_cons rfl hs1) hs10) rfl (List.Perm.refl _)
   ·rintro f M ⟨k0, k1, -⟩ -
    have hs11 : f 11 = .pointer (some ⟨J, 0, none⟩) := k0
    have hs10 : f 10 = .bool true := k1
    refine ob_start (L' := M) (by rfl) (up_cons (up_cons rfl hs11) hs10) ?_
    refine g_call rfl rfl rfl rfl rfl (cl_value (fst := []) (cap := []) (vs := [.pointer (some ⟨J, 0, none⟩)]) (all := [.pointer (some ⟨J, 0, none⟩)]) tf90 rfl rfl rfl) ?_
    intro w hw
    obtain ⟨β1, sb, kn, hw1, back⟩ := St.frame_all hw
    refine (next_ok β1 w hw1 J S i dn (JF.mono _ _ _ _ _ _ sb hj)).mono ?_
    rintro e w' ⟨rfl, hw'⟩
    refine ⟨_, rfl, _, back _ _ hw', ?_⟩
    clear hw hw1 hw' back kn sb
    refine l_nil ?_
    exact f_owes_d (up_cons (up_cons rfl hs11) hs10) rfl (List.Perm.refl _)
   ·rintro f M ⟨k0, -⟩ ⟨i0, -⟩
    have hs2 : f 2 = .pointer (some ⟨b1, 0, none⟩) := i0
    have hs10 : f 10 = .bool true := k0
    refine ob_start (L' := M) (by rfl) (up_cons (up_cons rfl hs2) hs10) ?_
    refine g_val (v := .pointer (some ⟨b1, 1, none⟩)) rfl rfl rfl rfl rfl (e_fieldPt (b := b1) (o := 0) rfl tf91) ?_
    refine l_nil ?_
    exact f_owes_d (up_cons (up_cons rfl hs2) hs10) rfl (List.Perm.refl _)
   ·rintro f M ⟨k0, k1, -⟩ -
    have hs13 : f 13 = .pointer (some ⟨b1, 1, none⟩) := k0
    have hs10 : f 10 = .bool true := k1
    refine ob_start (L' := pt b1 (.cells #[Nx (c.epoch), Nx (c.next), .string (c.state), .slice ca (c.recs.length) (cc)] 27) :: M) (by rfl) (up_cons (up_cons rfl hs13) hs10) ?_
    refine g_val (v := Nx (c.next)) rfl rfl rfl rfl rfl (e_load1 tf25 (v := Nx (c.next)) rfl (k_pt 0 (cs := #[Nx (c.epoch), Nx (c.next), .string (c.state), .slice ca (c.recs.length) (cc)]) (vs := [Nx (c.next)]) rfl rfl)) ?_
    refine l_nil ?_
    exact f_owes_d (up_cons (up_cons rfl hs13) hs10) rfl (perm_front 0 rfl)
   ·rintro f M ⟨k0, k1, k2, -⟩ -
    have hs12 : f 12 = Nx (i.next) := k0
    have hs14 : f 14 = Nx (c.next) := k1
    have hs10 : f 10 = .bool true := k2
    refine ob_start (L' := M) (by rfl) (up_cons (up_cons (up_cons rfl hs12) hs14) hs10) ?_
    refine g_val (v := .bool false) rfl rfl rfl rfl rfl ((ev_f hg3 (e_eql (a := ((i.next : Nat) : Int)) (b := ((c.next : Nat) : Int)) rfl rfl))) ?_
    refine l_nil ?_
    exact f_owes_d (up_cons (up_cons (up_cons rfl hs12) hs14) hs10) rfl (List.Perm.refl _)
   ·rintro f M ⟨k0, k1, -⟩ -
    have hs10 : f 10 = .bool true := k0
    have hs15 : f 15 = .bool false := k1
    refine ob_start (L' := M) (by rfl) (up_cons (up_cons rfl hs10) hs15) ?_
    refine l_val (v := .bool false) rfl rfl rfl (e_pick_t rfl) ?_
    refine l_nil ?_
    exact f_owes_d (up_cons (up_cons rfl hs10) hs15) rfl (List.Perm.refl _)
   ·rintro f M ⟨k0, -⟩ -
    have hs16 : f 16 = .bool false := k0
    refine ob_start (L' := M) (by rfl) (up_cons rfl hs16) ?_
    refine l_val (v := .bool false) rfl rfl rfl (e_move) ?_
    refine l_nil ?_
    exact f_owes_d (up_cons rfl hs16) rfl (List.Perm.refl _)
   ·rintro f M ⟨k0, -⟩ ⟨i0, -⟩
    have hs1 : f 1 = .pointer (some ⟨J, 0, none⟩) := i0
    have hs17 : f 17 = .bool false := k0
    refine ob_start (L' := M) (by rfl) (up_cons (up_cons rfl hs1) hs17) ?_
    refine l_skip rfl rfl rfl rfl rfl rfl ?_
    refine l_nil ?_
    exact f_owes_d (up_cons (up_cons rfl hs1) hs17) rfl (List.Perm.refl _)
   ·rintro f M ⟨k0, k1, -⟩ -
    have hs18 : f 18 = undef := k0
    have hs17 : f 17 = .bool false := k1
    refine ob_start (L' := M) (by rfl) (up_cons (up_cons rfl hs18) hs17) ?_
    refine l_skip rfl rfl rfl rfl rfl rfl ?_
    refine l_nil ?_
    exact f_owes_d (up_cons (up_cons rfl hs18) hs17) rfl (List.Perm.refl _)
   ·rintro f M ⟨k0, k1, -⟩ -
    have hs19 : f 19 = undef := k0
    have hs17 : f 17 = .bool false := k1
    refine ob_start (L' := M) (by rfl) (up_cons (up_cons rfl hs19) hs17) ?_
    refine l_skip rfl rfl rfl rfl rfl rfl ?_
    refine l_nil ?_
    exact f_owes_d (up_cons (up_cons rfl hs19) hs17) rfl (List.Perm.refl _)
   ·rintro f M ⟨k0, -⟩ ⟨i0, -⟩
    have hs2 : f 2 = .pointer (some ⟨b1, 0, none⟩) := i0
    have hs17 : f 17 = .bool false := k0
    refine ob_start (L' := M) (by rfl) (up_cons (up_cons rfl hs2) hs17) ?_
    refine l_skip rfl rfl rfl rfl rfl rfl ?_
    refine l_nil ?_
    exact f_owes_d (up_cons (up_cons rfl hs2) hs17) rfl (List.Perm.refl _)
   ·rintro f M ⟨k0, k1, -⟩ -
    have hs21 : f 21 = undef := k0
    have hs17 : f 17 = .bool false := k1
    refine ob_start (L' := M) (by rfl) (up_cons (up_cons rfl hs21) hs17) ?_
    refine l_skip rfl rfl rfl rfl rfl rfl ?_
    refine l_nil ?_
    exact f_owes_d (up_cons (up_cons rfl hs21) hs17) rfl (List.Perm.refl _)
   ·rintro f M ⟨k0, k1, k2, -⟩ -
    have hs20 : f 20 = undef := k0
    have hs22 : f 22 = undef := k1
    have hs17 : f 17 = .bool false := k2
    refine ob_start (L' := M) (by rfl) (up_cons (up_cons (up_cons rfl hs20) hs22) hs17) ?_
    refine l_skip rfl rfl rfl rfl rfl rfl ?_
    refine l_nil ?_
    exact f_owes_d (up_cons (up_cons (up_cons rfl hs20) hs22) hs17) rfl (List.Perm.refl _)
   ·rintro f M ⟨k0, k1, -⟩ -
    have hs17 : f 17 = .bool false := k0
    have hs23 : f 23 = undef := k1
    refine ob_start (L' := M) (by rfl) (up_cons (up_cons rfl hs17) hs23) ?_
    refine l_val (v := .bool false) rfl rfl rfl (e_pick_f rfl) ?_
    refine l_nil ?_
    exact f_owes_d (up_cons (up_cons rfl hs17) hs23) rfl (List.Perm.refl _)
   ·rintro f M ⟨k0, -⟩ -
    have hs24 : f 24 = .bool false := k0
    refine ob_start (L' := M) (by rfl) (up_cons rfl hs24) ?_
    refine l_val (v := .bool false) rfl rfl rfl (e_move) ?_
    refine l_nil ?_
    exact f_owes_d (up_cons rfl hs24) rfl (List.Perm.refl _)
   ·rintro f M ⟨k0, -⟩ ⟨i0, -⟩
    have hs1 : f 1 = .pointer (some ⟨J, 0, none⟩) := i0
    have hs25 : f 25 = .bool false := k0
    refine ob_start (L' := M) (by rfl) (up_cons (up_cons rfl hs1) hs25) ?_
    refine l_skip rfl rfl rfl rfl rfl rfl ?_
    refine l_nil ?_
    exact f_owes_d (up_cons (up_cons rfl hs1) hs25) rfl (List.Perm.refl _)
   ·rintro f M ⟨k0, k1, -⟩ -
    have hs26 : f 26 = undef := k0
    have hs25 : f 25 = .bool false := k1
    refine ob_start (L' := M) (by rfl) (up_cons (up_cons rfl hs26) hs25) ?_
    refine l_skip rfl rfl rfl rfl rfl rfl ?_
    refine l_nil ?_
    exact f_owes_d (up_cons (up_cons rfl hs26) hs25) rfl (List.Perm.refl _)
   ·rintro f M ⟨k0, k1, -⟩ -
    have hs27 : f 27 = undef := k0
    have hs25 : f 25 = .bool false := k1
    refine ob_start (L' := M) (by rfl) (up_cons (up_cons rfl hs27) hs25) ?_
    refine l_skip rfl rfl rfl rfl rfl rfl ?_
    refine l_nil ?_
    exact f_owes_d (up_cons (up_cons rfl hs27) hs25) rfl (List.Perm.refl _)
   ·rintro f M ⟨k0, -⟩ ⟨i0, -⟩
    have hs2 : f 2 = .pointer (some ⟨b1, 0, none⟩) := i0
    have hs25 : f 25 = .bool false := k0
    refine ob_start (L' := M) (by rfl) (up_cons (up_cons rfl hs2) hs25) ?_
    refine l_skip rfl rfl rfl rfl rfl rfl ?_
    refine l_nil ?_
    exact f_owes_d (up_cons (up_cons rfl hs2) hs25) rfl (List.Perm.refl _)
   ·rintro f M ⟨k0, k1, -⟩ -
    have hs29 : f 29 = undef := k0
    have hs25 : f 25 = .bool false := k1
    refine ob_start (L' := M) (by rfl) (up_cons (up_cons rfl hs29) hs25) ?_
    refine l_skip rfl rfl rfl rfl rfl rfl ?_
    refine l_nil ?_
    exact f_owes_d (up_cons (up_cons rfl hs29) hs25) rfl (List.Perm.refl _)
   ·rintro f M ⟨k0, k1, k2, -⟩ -
    have hs28 : f 28 = undef := k0
    have hs30 : f 30 = undef := k1
    have hs25 : f 25 = .bool false := k2
    refine ob_start (L' := M) (by rfl) (up_cons (up_cons (up_cons rfl hs28) hs30) hs25) ?_
    refine l_skip rfl rfl rfl rfl rfl rfl ?_
    refine l_nil ?_
    exact f_owes_d (up_cons (up_cons (up_cons rfl hs28) hs30) hs25) rfl (List.Perm.refl _)
   ·rintro f M ⟨k0, k1, -⟩ -
    have hs25 : f 25 = .bool false := k0
    have hs31 : f 31 = undef := k1
    refine ob_start (L' := M) (by rfl) (up_cons (up_cons rfl hs25) hs31) ?_
    refine l_val (v := .bool false) rfl rfl rfl (e_pick_f rfl) ?_
    refine l_nil ?_
    exact f_owes_d (up_cons (up_cons rfl hs25) hs31) rfl (List.Perm.refl _)
   ·rintro f M ⟨k0, -⟩ -
    have hs32 : f 32 = .bool false := k0
    refine ob_start (L' := M) (by rfl) (up_cons rfl hs32) ?_
    refine l_val (v := .bool false) rfl rfl rfl (e_assign) ?_
    refine l_nil ?_
    exact f_owes_d (up_cons rfl hs32) rfl (List.Perm.refl _)
   rintro fa23 ⟨-, -, -, -, -, -, -, -, -, -, -, -, -, -, -, -, -, -, -, -, -, -, -, -, -, -, -, -, k28, -⟩ -
   refine f_re (L' := [pt b1 (.cells #[Nx (c.epoch), Nx (c.next), .string (c.state), .slice ca (c.recs.length) (cc)] 27)]) (by rfl) ?_
   refine f_rebase (d := 4) (v := .bool false) k28 ?_
   refine f_then ?_
   refine c_ret ?_
   refine ret1 Try.results38 (v := .bool false) rfl ?_
   intro w hw
   exact ⟨bool_f (fun q => hg3 (by rw [q.2.1])), st_mask [false] rfl hw⟩
 ·
  refine c_any [⟨[], [], [0], [5], fun f => f 5 = .pointer (some ⟨J, 0, none⟩)⟩, ⟨[0], [0], [], [6], fun f => f 6 = Nx (i.epoch)⟩, ⟨[], [], [1], [7], fun f => f 7 = .pointer (some ⟨b1, 0, none⟩)⟩, ⟨[2], [2], [], [8], fun f => f 8 = Nx (c.epoch)⟩, ⟨[0, 1, 2, 3], [1, 3], [], [9], fun f => f 9 = .bool false⟩, ⟨[0, 1, 2, 3, 4], [4], [], [10], fun f => f 10 = .bool false⟩, ⟨[0, 1, 2, 3, 4, 5], [5], [0], [11], fun f => f 11 = undef⟩, ⟨[0, 1, 2, 3, 4, 5, 6], [6, 5], [], [12], fun f => f 12 = undef⟩, ⟨[0, 1, 2, 3, 4, 5], [5], [1], [13], fun f => f 13 = undef⟩, ⟨[0, 1, 2, 3, 4, 5, 8], [8, 5], [], [14], fun f => f 14 = undef⟩, ⟨[0, 1, 2, 3, 4, 5, 6, 7, 8, 9], [7, 9, 5], [], [15], fun f => f 15 = undef⟩, ⟨[0, 1, 2, 3, 4, 5, 6, 7, 8, 9, 10], [5, 10], [], [16], fun f => f 16 = .bool false⟩, ⟨[0, 1, 2, 3, 4, 5, 6, 7, 8, 9, 10, 11], [11], [], [17], fun f => f 17 = .bool false⟩, ⟨[0, 1, 2, 3, 4, 5, 6, 7, 8, 9, 10, 11, 12], [12], [0], [18], fun f => f 18 = undef⟩, ⟨[0, 1, 2, 3, 4, 5, 6, 7, 8, 9, 10, 11, 12, 13], [13, 12], [], [19], fun f => f 19 = undef⟩, ⟨[0, 1, 2, 3, 4, 5, 6, 7, 8, 9, 10, 11, 12, 13, 14], [14, 12], [], [20], fun f => f 20 = undef⟩, ⟨[0, 1, 2, 3, 4, 5, 6, 7, 8, 9, 10, 11, 12], [12], [1], [21], fun f => f 21 = undef⟩, ⟨[0, 1, 2, 3, 4, 5, 6, 7, 8, 9, 10, 11, 12, 16], [16, 12], [], [22], fun f => f 22 = undef⟩, ⟨[0, 1, 2, 3, 4, 5, 6, 7, 8, 9, 10, 11, 12, 13, 14, 15, 16, 17], [15, 17, 12], [], [23], fun f => f 23 = undef⟩, ⟨[0, 1, 2, 3, 4, 5, 6, 7, 8, 9, 10, 11, 12, 13, 14, 15, 16, 17, 18], [12, 18], [], [24], fun f => f 24 = .bool false⟩, ⟨[0, 1, 2, 3, 4, 5, 6, 7, 8, 9, 10, 11, 12, 13, 14, 15, 16, 17, 18, 19], [19], [], [25], fun f => f 25 = .bool false⟩, ⟨[0, 1, 2, 3, 4, 5, 6, 7, 8, 9, 10, 11, 12, 13, 14, 15, 16, 17, 18, 19, 20], [20], [0], [26], fun f => f 26 = undef⟩, ⟨[0, 1, 2, 3, 4, 5, 6, 7, 8, 9, 10, 11, 12, 13, 14, 15, 16, 17, 18, 19, 20, 21], [21, 20], [], [27], fun f => f 27 = undef⟩, ⟨[0, 1, 2, 3, 4, 5, 6, 7, 8, 9, 10, 11, 12, 13, 14, 15, 16, 17, 18, 19, 20, 21, 22], [22, 20], [], [28], fun f => f 28 = undef⟩, ⟨[0, 1, 2, 3, 4, 5, 6, 7, 8, 9, 10, 11, 12, 13, 14, 15, 16, 17, 18, 19, 20], [20], [1], [29], fun f => f 29 = undef⟩, ⟨[0, 1, 2, 3, 4, 5, 6, 7, 8, 9, 10, 11, 12, 13, 14, 15, 16, 17, 18, 19, 20, 24], [24, 20], [], [30], fun f => f 30 = undef⟩, ⟨[0, 1, 2, 3, 4, 5, 6, 7, 8, 9, 10, 11, 12, 13, 14, 15, 16, 17, 18, 19, 20, 21, 22, 23, 24, 25], [23, 25, 20], [], [31], fun f => f 31 = undef⟩, ⟨[0, 1, 2, 3, 4, 5, 6, 7, 8, 9, 10, 11, 12, 13, 14, 15, 16, 17, 18, 19, 20, 21, 22, 23, 24, 25, 26], [20, 26], [], [32], fun f => f 32 = .bool false⟩, ⟨[0, 1, 2, 3, 4, 5, 6, 7, 8, 9, 10, 11, 12, 13, 14, 15, 16, 17, 18, 19, 20, 21, 22, 23, 24, 25, 26, 27], [27], [], [4], fun f => f 4 = .bool false⟩] [⟨none, none, [3], [], fun _ => pt b1 (.cells #[Nx (c.epoch), Nx (c.next), .string (c.state), .slice ca (c.recs.length) (cc)] 27)⟩] [(1, .pointer (some ⟨J, 0, none⟩)), (2, .pointer (some ⟨b1, 0, none⟩))] [] [] (by kernel_rfl) (by kernel_rfl) (by kernel_rfl) (by kernel_rfl) rfl ⟨rfl, rfl, trivial⟩ ⟨?_, ?_, ?_, ?_, ?_, ?_, ?_, ?_, ?_, ?_, ?_, ?_, ?_, ?_, ?_, ?_, ?_, ?_, ?_, ?_, ?_, ?_, ?_, ?_, ?_, ?_, ?_, ?_, ?_, trivial⟩ ?_
  ·rintro f M - ⟨i0, -⟩
   have hs1 : f 1 = .pointer (some ⟨J, 0, none⟩) := i0
   refine ob_start (L' := M) (by rfl) (up_cons rfl hs1) ?_
   refine l_val (v := .pointer (some ⟨J, 0, none⟩)) rfl rfl rfl (e_move) ?_
   refine l_nil ?_
   exact f_owes_d (up_cons rfl hs1) rfl (List.Perm.refl _)
  ·rintro f M ⟨k0, -⟩ -
   have hs5 : f 5 = .pointer (some ⟨J, 0, none⟩) := k0
   refine ob_start (L' := M) (by rfl) (up_cons rfl hs5) ?_
   refine l_call rfl rfl rfl (cl_value (fst := []) (cap := []) (vs := [.pointer (some ⟨J, 0, none⟩)]) (all := [.pointer (some ⟨J, 0, none⟩)]) tf88 rfl rfl rfl) ?_
   intro w hw
   obtain ⟨β1, sb, kn, hw1, back⟩ := St.frame_all hw
   refine (epochm_ok β1 w hw1 J S i dn (JF.mono _ _ _ _ _ _ sb hj)).mono ?_
   rintro e w' ⟨rfl, hw'⟩
   refine ⟨_, rfl, _, back _ _ hw', ?_⟩
   clear hw hw1 hw' back kn sb
   refine l_nil ?_
   exact f_owes_d (up_cons rfl hs5) rfl (List.Perm.refl _)
  ·rintro f M - ⟨i0, -⟩
   have hs2 : f 2 = .pointer (some ⟨b1, 0, none⟩) := i0
   refine ob_start (L' := M) (by rfl) (up_cons rfl hs2) ?_
   refine l_val (v := .pointer (some ⟨b1, 0, none⟩)) rfl rfl rfl (e_fieldPt (b := b1) (o := 0) rfl tf89) ?_
   refine l_nil ?_
   exact f_owes_d (up_cons rfl hs2) rfl (List.Perm.refl _)
  ·rintro f M ⟨k0, -⟩ -
   have hs7 : f 7 = .pointer (some ⟨b1, 0, none⟩) := k0
   refine ob_start (L' := pt b1 (.cells #[Nx (c.epoch), Nx (c.next), .string (c.state), .slice ca (c.recs.length) (cc)] 27) :: M) (by rfl) (up_cons rfl hs7) ?_
   refine l_val (v := Nx (c.epoch)) rfl rfl rfl (e_load1 tf25 (v := Nx (c.epoch)) rfl (k_pt 0 (cs := #[Nx (c.epoch), Nx (c.next), .string (c.state), .slice ca (c.recs.length) (cc)]) (vs := [Nx (c.epoch)]) rfl rfl)) ?_
   refine l_nil ?_
   exact f_owes_d (up_cons rfl hs7) rfl (perm_front 0 rfl)
  ·rintro f M ⟨k0, k1, -⟩ -
   have hs6 : f 6 = Nx (i.epoch) := k0
   have hs8 : f 8 = Nx (c.epoch) := k1
   refine ob_start (L' := M) (by rfl) (up_cons (up_cons rfl hs6) hs8) ?_
   refine l_val (v := .bool false) rfl rfl rfl ((ev_f hg2 (e_eql (a := ((i.epoch : Nat) : Int)) (b := ((c.epoch : Nat) : Int)) rfl rfl))) ?_
   refine l_nil ?_
   exact f_owes_d (up_cons (up_cons rfl hs6) hs8) rfl (List.Perm.refl _)
  ·rintro f M ⟨k0, -⟩ -
   have hs9 : f 9 = .bool false := k0
   refine ob_start (L' := M) (by rfl) (up_cons rfl hs9) ?_
   refine l_val (v := .bool false) rfl rfl rfl (e_move) ?_
   refine l_nil ?_
   exact f_owes_d (up_cons rfl hs9) rfl (List.Perm.refl _)
  ·rintro f M ⟨k0, -⟩ ⟨i0, -⟩
   have hs1 : f 1 = .pointer (some ⟨J, 0, none⟩) := i0
   have hs10 : f 10 = .bool false := k0
   refine ob_start (L' := M) (by rfl) (up_cons (up_cons rfl hs1) hs10) ?_
   refine l_skip rfl rfl rfl rfl rfl rfl ?_
   refine l_nil ?_
   exact f_owes_d (up_cons (up_cons rfl hs1) hs10) rfl (List.Perm.refl _)
  ·rintro f M ⟨k0, k1, -⟩ -
   have hs11 : f 11 = undef := k0
   have hs10 : f 10 = .bool false := k1
   refine ob_start (L' := M) (by rfl) (up_cons (up_cons rfl hs11) hs10) ?_
   refine l_skip rfl rfl rfl rfl rfl rfl ?_
   refine l_nil ?_
   exact f_owes_d (up_cons (up_cons rfl hs11) hs10) rfl (List.Perm.refl _)
  ·rintro f M ⟨k0, -⟩ ⟨i0, -⟩
   have hs2 : f 2 = .pointer (some ⟨b1, 0, none⟩) := i0
   have hs10 : f 10 = .bool false := k0
   refine ob_start (L' := M) (by rfl) (up_cons (up_cons rfl hs2) hs10) ?_
   refine l_skip rfl rfl rfl rfl rfl rfl ?_
   refine l_nil ?_
   exact f_owes_d (up_cons (up_cons rfl hs2) hs10) rfl (List.Perm.refl _)
  ·rintro f M ⟨k0, k1, -⟩ -
   have hs13 : f 13 = undef := k0
   have hs10 : f 10 = .bool false := k1
   refine ob_start (L' := M) (by rfl) (up_cons (up_cons rfl hs13) hs10) ?_
   refine l_skip rfl rfl rfl rfl rfl rfl ?_
   refine l_nil ?_
   exact f_owes_d (up_cons (up_cons rfl hs13) hs10) rfl (List.Perm.refl _)
  ·rintro f M ⟨k0, k1, k2, -⟩ -
   have hs12 : f 12 = undef := k0
   have hs14 : f 14 = undef := k1
   have hs10 : f 10 = .bool false := k2
   refine ob_start (L' := M) (by rfl) (up_cons (up_cons (up_cons rfl hs12) hs14) hs10) ?_
   refine l_skip rfl rfl rfl rfl rfl rfl ?_
   refine l_nil ?_
   exact f_owes_d (up_cons (up_cons (up_cons rfl hs12) hs14) hs10) rfl (List.Perm.refl _)
  ·rintro f M ⟨k0, k1, -⟩ -
   have hs10 : f 10 = .bool false := k0
   have hs15 : f 15 = undef := k1
   refine ob_start (L' := M) (by rfl) (up_cons (up_cons rfl hs10) hs15) ?_
   refine l_val (v := .bool false) rfl rfl rfl (e_pick_f rfl) ?_
   refine l_nil ?_
   exact f_owes_d (up_cons (up_cons rfl hs10) hs15) rfl (List.Perm.refl _)
  ·rintro f M ⟨k0, -⟩ -
   have hs16 : f 16 = .bool false := k0
   refine ob_start (L' := M) (by rfl) (up_cons rfl hs16) ?_
   refine l_val (v := .bool false) rfl rfl rfl (e_move) ?_
   refine l_nil ?_
   exact f_owes_d (up_cons rfl hs16) rfl (List.Perm.refl _)
  ·rintro f M ⟨k0, -⟩ ⟨i0, -⟩
   have hs1 : f 1 = .pointer (some ⟨J, 0, none⟩) := i0
   have hs17 : f 17 = .bool false := k0
   refine ob_start (L' := M) (by rfl) (up_cons (up_cons rfl hs1) hs17) ?_
   refine l_skip rfl rfl rfl rfl rfl rfl ?_
   refine l_nil ?_
   exact f_owes_d (up_cons (up_cons rfl hs1) hs17) rfl (List.Perm.refl _)
  ·rintro f M ⟨k0, k1, -⟩ -
   have hs18 : f 18 = undef := k0
   have hs17 : f 17 = .bool false := k1
   refine ob_start (L' := M) (by rfl) (up_cons (up_cons rfl hs18) hs17) ?_
   refine l_skip rfl rfl rfl rfl rfl rfl ?_
   refine l_nil ?_
   exact f_owes_d (up_cons (up_cons rfl hs18) hs17) rfl (List.Perm.refl _)
  ·rintro f M ⟨k0, k1, -⟩ -
   have hs19 : f 19 = undef := k0
   have hs17 : f 17 = .bool false := k1
   refine ob_start (L' := M) (by rfl) (up_cons (up_cons rfl hs19) hs17) ?_
   refine l_skip rfl rfl rfl rfl rfl rfl ?_
   refine l_nil ?_
   exact f_owes_d (up_cons (up_cons rfl hs19) hs17) rfl (List.Perm.refl _)
  ·rintro f M ⟨k0, -⟩ ⟨i0, -⟩
   have hs2 : f 2 = .pointer (some ⟨b1, 0, none⟩) := i0
   have hs17 : f 17 = .bool false := k0
   refine ob_start (L' := M) (by rfl) (up_cons (up_cons rfl hs2) hs17) ?_
   refine l_skip rfl rfl rfl rfl rfl rfl ?_
   refine l_nil ?_
   exact f_owes_d (up_cons (up_cons rfl hs2) hs17) rfl (List.Perm.refl _)
  ·rintro f M ⟨k0, k1, -⟩ -
   have hs21 : f 21 = undef := k0
   have hs17 : f 17 = .bool false := k1
   refine ob_start (L' := M) (by rfl) (up_cons (up_cons rfl hs21) hs17) ?_
   refine l_skip rfl rfl rfl rfl rfl rfl ?_
   refine l_nil ?_
   exact f_owes_d (up_cons (up_cons rfl hs21) hs17) rfl (List.Perm.refl _)
  ·rintro f M ⟨k0, k1, k2, -⟩ -
   have hs20 : f 20 = undef := k0
   have hs22 : f 22 = undef := k1
   have hs17 : f 17 = .bool false := k2
   refine ob_start (L' := M) (by rfl) (up_cons (up_cons (up_cons rfl hs20) hs22) hs17) ?_
   refine l_skip rfl rfl rfl rfl rfl rfl ?_
   refine l_nil ?_
   exact f_owes_d (up_cons (up_cons (up_cons rfl hs20) hs22) hs17) rfl (List.Perm.refl _)
  ·rintro f M ⟨k0, k1, -⟩ -
   have hs17 : f 17 = .bool false := k0
   have hs23 : f 23 = undef := k1
   refine ob_start (L' := M) (by rfl) (up_cons (up_cons rfl hs17) hs23) ?_
   refine l_val (v := .bool false) rfl rfl rfl (e_pick_f rfl) ?_
   refine l_nil ?_
   exact f_owes_d (up_cons (up_cons rfl hs17) hs23) rfl (List.Perm.refl _)
  ·rintro f M ⟨k0, -⟩ -
   have hs24 : f 24 = .bool false := k0
   refine ob_start (L' := M) (by rfl) (up_cons rfl hs24) ?_
   refine l_val (v := .bool false) rfl rfl rfl (e_move) ?_
   refine l_nil ?_
   exact f_owes_d (up_cons rfl hs24) rfl (List.Perm.refl _)
  ·rintro f M ⟨k0, -⟩ ⟨i0, -⟩
   have hs1 : f 1 = .pointer (some ⟨J, 0, none⟩) := i0
   have hs25 : f 25 = .bool false := k0
   refine ob_start (L' := M) (by rfl) (up_cons (up_cons rfl hs1) hs25) ?_
   refine l_skip rfl rfl rfl rfl rfl rfl ?_
   refine l_nil ?_
   exact f_owes_d (up_cons (up_cons rfl hs1) hs25) rfl (List.Perm.refl _)
  ·rintro f M ⟨k0, k1, -⟩ -
   have hs26 : f 26 = undef := k0
   have hs25 : f 25 = .bool false := k1
   refine ob_start (L' := M) (by rfl) (up_cons (up_cons rfl hs26) hs25) ?_
   refine l_skip rfl rfl rfl rfl rfl rfl ?_
   refine l_nil ?_
   exact f_owes_d (up_cons (up_cons rfl hs26) hs25) rfl (List.Perm.refl _)
  ·rintro f M ⟨k0, k1, -⟩ -
   have hs27 : f 27 = undef := k0
   have hs25 : f 25 = .bool false := k1
   refine ob_start (L' := M) (by rfl) (up_cons (up_cons rfl hs27) hs25) ?_
   refine l_skip rfl rfl rfl rfl rfl rfl ?_
   refine l_nil ?_
   exact f_owes_d (up_cons (up_cons rfl hs27) hs25) rfl (List.Perm.refl _)
  ·rintro f M ⟨k0, -⟩ ⟨i0, -⟩
   have hs2 : f 2 = .pointer (some ⟨b1, 0, none⟩) := i0
   have hs25 : f 25 = .bool false := k0
   refine ob_start (L' := M) (by rfl) (up_cons (up_cons rfl hs2) hs25) ?_
   refine l_skip rfl rfl rfl rfl rfl rfl ?_
   refine l_nil ?_
   exact f_owes_d (up_cons (up_cons rfl hs2) hs25) rfl (List.Perm.refl _)
  ·rintro f M ⟨k0, k1, -⟩ -
   have hs29 : f 29 = undef := k0
   have hs25 : f 25 = .bool false := k1
   refine ob_start (L' := M) (by rfl) (up_cons (up_cons rfl hs29) hs25) ?_
   refine l_skip rfl rfl rfl rfl rfl rfl ?_
   refine l_nil ?_
   exact f_owes_d (up_cons (up_cons rfl hs29) hs25) rfl (List.Perm.refl _)
  ·rintro f M ⟨k0, k1, k2, -⟩ -
   have hs28 : f 28 = undef := k0
   have hs30 : f 30 = undef := k1
   have hs25 : f 25 = .bool false := k2
   refine ob_start (L' := M) (by rfl) (up_cons (up_cons (up_cons rfl hs28) hs30) hs25) ?_
   refine l_skip rfl rfl rfl rfl rfl rfl ?_
   refine l_nil ?_
   exact f_owes_d (up_cons (up_cons (up_cons rfl hs28) hs30) hs25) rfl (List.Perm.refl _)
  ·rintro f M ⟨k0, k1, -⟩ -
   have hs25 : f 25 = .bool false := k0
   have hs31 : f 31 = undef := k1
   refine ob_start (L' := M) (by rfl) (up_cons (up_cons rfl hs25) hs31) ?_
   refine l_val (v := .bool false) rfl rfl rfl (e_pick_f rfl) ?_
   refine l_nil ?_
   exact f_owes_d (up_cons (up_cons rfl hs25) hs31) rfl (List.Perm.refl _)
  ·rintro f M ⟨k0, -⟩ -
   have hs32 : f 32 = .bool false := k0
   refine ob_start (L' := M) (by rfl) (up_cons rfl hs32) ?_
   refine l_val (v := .bool false) rfl rfl rfl (e_assign) ?_
   refine l_nil ?_
   exact f_owes_d (up_cons rfl hs32) rfl (List.Perm.refl _)
  rintro fa24 ⟨-, -, -, -, -, -, -, -, -, -, -, -, -, -, -, -, -, -, -, -, -, -, -, -, -, -, -, -, k28, -⟩ -
  refine f_re (L' := [pt b1 (.cells #[Nx (c.epoch), Nx (c.next), .string (c.state), .slice ca (c.recs.length) (cc)] 27)]) (by rfl) ?_
  refine f_rebase (d := 4) (v := .bool false) k28 ?_
  refine f_then ?_
  refine c_ret ?_
  refine ret1 Try.results38 (v := .bool false) rfl ?_
  intro w hw
  exact ⟨bool_f (fun q => hg2 (by rw [q.1])), st_mask [false] rfl hw⟩
set_option maxHeartbeats 4000000 in
theorem with_0 (β : Base) (w : World) (hw : St β [] w) (c : KC) (ca : Option Addr) (cc : Nat) (cl : c.recs.length ≤ cc) (cm : cc ≤ 9223372036854775807) (ce : Elems StrR β.heap ca c.recs) (hn : c.recs.length ≤ 1048576) (hcn : c.next ≤ 4611686018427387904) (o : KOp) (oa : Option Addr) (oc : Nat) (ol : o.body.length ≤ oc) (om : oc ≤ 9223372036854775807) (oe : Elems U8R β.heap oa o.body) (hk : o.kind.toNat % 5 = 0) : Calls Try.prog 37 #[.agg #[Nx c.epoch, Nx c.next, .string c.state, .slice ca c.recs.length cc], .agg #[Bx o.kind, Bx o.power, .slice oa o.body.length oc]] w fun r w' => ∃ p c', r = .returned (.agg #[Nx c.epoch, Nx (c.next + 1), .string c.state, .slice p (([] ++ c.recs) ++ [str (o.body.take 300)]).length c']) ∧ St β [row (.slice p (([] ++ c.recs) ++ [str (o.body.take 300)]).length c') 9 1 (([] ++ c.recs) ++ [str (o.body.take 300)]).length ((([] ++ c.recs) ++ [str (o.body.take 300)]).map (fun s : ByteArray => Value.string s))] w' := by
 refine enter (n := 37) Try.func37 rfl Try.ntmps37 rfl ?_ hw
 refine c_seq ?_
 refine c_region ?_
 refine l_mv rfl rfl rfl (m_box (v := .agg #[Nx (c.epoch), Nx (c.next), .string (c.state), .slice ca (c.recs.length) (cc)]) rfl) ?_
 rintro _ _ ⟨b1, rfl, rfl⟩
 refine l_mv rfl rfl rfl (m_box (v := .agg #[Bx (o.kind), Bx (o.power), .slice oa (o.body.length) (oc)]) rfl) ?_
 rintro _ _ ⟨b2, rfl, rfl⟩
 refine l_mv rfl rfl rfl (m_alloc tf99) ?_
 rintro _ _ ⟨b3, rfl, rfl⟩
 refine l_nil ?_
 refine f_then ?_
 refine c_seq ?_
 refine c_seq ?_
 refine c_region ?_
 refine l_val (v := .pointer (some ⟨b2, 0, none⟩)) rfl rfl rfl (e_fieldPt (b := b2) (o := 0) rfl tf85) ?_
 refine l_val (v := Bx (o.kind)) rfl rfl rfl (e_load1 tf13 (v := Bx (o.kind)) rfl (k_pt 1 (cs := #[Bx (o.kind), Bx (o.power), .slice oa (o.body.length) (oc)]) (vs := [Bx (o.kind)]) rfl rfl)) ?_
 refine l_val (v := .int .u8 (((o.kind.toNat % 5 : Nat)) : Int)) rfl rfl rfl (e_rem (a := ((o.kind).toNat : Int)) (b := ((5 : Nat) : Int)) rfl rfl (by decide) (nat_tmod _ _)) ?_
 refine l_nil ?_
 refine f_then ?_
 refine c_block ?_
 refine c_seq ?_
 refine c_seq ?_
 refine c_region ?_
 refine l_val (v := .bool (decide (((o.kind.toNat % 5 : Nat) : Int) = (0 : Int)))) rfl rfl rfl (e_eql (a := ((o.kind.toNat % 5 : Nat) : Int)) (b := (0 : Int)) rfl rfl) ?_
 refine l_val (v := .bool (decide (((o.kind.toNat % 5 : Nat) : Int) = (0 : Int)))) rfl rfl rfl (e_assign) ?_
 refine l_nil ?_
 refine f_then ?_
 refine c_if (((o.kind.toNat % 5 : Nat) : Int) = (0 : Int)) rfl (fun hc4 => ?_) (fun hc4 => ?_)
 ·
  refine c_skip ?_
  refine f_then ?_
  refine c_if (((o.kind.toNat % 5 : Nat) : Int) = (0 : Int)) rfl (fun hc5 => ?_) (fun hc5 => ?_)
  ·
   refine c_seq ?_
   refine c_any [⟨[], [], [], [11], fun f => f 11 = .slice (some ⟨(blk (f 11)), 0, none⟩) 0 0⟩, ⟨[], [], [0], [12], fun f => f 12 = .pointer (some ⟨b1, 3, none⟩)⟩, ⟨[1], [1], [], [13], fun f => f 13 = .slice ca (c.recs.length) (cc)⟩, ⟨[0, 1, 2], [0, 2], [], [14], fun f => f 14 = .slice (sla (f 14)) ([] ++ c.recs).length (slc (f 14))⟩, ⟨[], [], [1], [15], fun f => f 15 = .agg #[Bx (o.kind), Bx (o.power), .slice oa (o.body.length) (oc)]⟩, ⟨[0, 1, 2, 3, 4], [4], [], [16], fun f => f 16 = .slice oa ((o.body.take 300).length) (oc)⟩, ⟨[0, 1, 2, 3, 4, 5], [5], [], [17], fun f => f 17 = .string (str (o.body.take 300))⟩, ⟨[0, 1, 2, 3, 4, 5, 6], [6], [], [18], fun f => f 18 = .slice (some ⟨(blk (f 18)), 0, none⟩) 1 1⟩, ⟨[0, 1, 2, 3, 4, 5, 6, 7], [3, 7], [], [19], fun f => f 19 = .slice (sla (f 19)) (([] ++ c.recs) ++ [str (o.body.take 300)]).length (slc (f 19))⟩, ⟨[0, 1, 2, 3, 4, 5, 6, 7, 8], [], [0], [20], fun f => f 20 = .pointer (some ⟨b1, 3, none⟩)⟩, ⟨[0, 1, 2, 3, 4, 5, 6, 7, 8, 9], [9, 8], [], [], fun _ => True⟩] [⟨none, none, [], [], fun _ => pt b3 (.cells #[.int .i64 (0), .int .i64 (0), .string ⟨#[]⟩, .slice none 0 0] 27)⟩, ⟨none, none, [4], [], fun _ => pt b2 (.cells #[Bx (o.kind), Bx (o.power), .slice oa (o.body.length) (oc)] 47)⟩, ⟨none, (some 10), [2, 10], [], fun _ => pt b1 (.cells #[Nx (c.epoch), Nx (c.next), .string (c.state), .slice ca (c.recs.length) (cc)] 27)⟩, ⟨(some 0), (some 3), [3], [11], fun f => pt (blk (f 11)) (.cells #[] 9)⟩, ⟨(some 3), (some 8), [8], [14], fun f => row (.slice (sla (f 14)) ([] ++ c.recs).length (slc (f 14))) 9 1 (([] ++ c.recs).length) (([] ++ c.recs).map (fun s : ByteArray => Value.string s))⟩, ⟨(some 7), none, [8], [18], fun f => pt (blk (f 18)) (.cells #[.string (str (o.body.take 300))] 9)⟩, ⟨(some 8), none, [], [19], fun f => row (.slice (sla (f 19)) (([] ++ c.recs) ++ [str (o.body.take 300)]).length (slc (f 19))) 9 1 ((([] ++ c.recs) ++ [str (o.body.take 300)]).length) ((([] ++ c.recs) ++ [str (o.body.take 300)]).map (fun s : ByteArray => Value.string s))⟩, ⟨(some 10), none, [], [19], fun f => pt b1 (.cells #[Nx (c.epoch), Nx (c.next), .string (c.state), .slice (sla (f 19)) (([] ++ c.recs) ++ [str (o.body.take 300)]).length (slc (f 19))] 27)⟩] [(2, .pointer (some ⟨b1, 0, none⟩)), (3, .pointer (some ⟨b2, 0, none⟩)), (4, .pointer (some ⟨b3, 0, none⟩))] [0, 2] [] (by kernel_rfl) (by kernel_rfl) (by kernel_rfl) (by kernel_rfl) rfl ⟨rfl, rfl, rfl, trivial⟩ ⟨?_, ?_, ?_, ?_, ?_, ?_, ?_, ?_, ?_, ?_, ?_, trivial⟩ ?_
   ·rintro f M - -
    refine ob_start (L' := M) (by rfl) rfl ?_
    refine l_mv rfl rfl rfl (m_slice0 tf78) ?_
    rintro _ _ ⟨b7, rfl, rfl⟩
    refine l_nil ?_
    exact f_owes_d rfl rfl (perm_front 0 rfl)
   ·rintro f M - ⟨i0, -⟩
    have hs2 : f 2 = .pointer (some ⟨b1, 0, none⟩) := i0
    refine ob_start (L' := M) (by rfl) (up_cons rfl hs2) ?_
    refine l_val (v := .pointer (some ⟨b1, 3, none⟩)) rfl rfl rfl (e_fieldPt (b := b1) (o := 0) rfl tf96) ?_
    refine l_nil ?_
    exact f_owes_d (up_cons rfl hs2) rfl (List.Perm.refl _)
   ·rintro f M ⟨k0, -⟩ -
    have hs12 : f 12 = .pointer (some ⟨b1, 3, none⟩) := k0
    refine ob_start (L' := pt b1 (.cells #[Nx (c.epoch), Nx (c.next), .string (c.state), .slice ca (c.recs.length) (cc)] 27) :: M) (by rfl) (up_cons rfl hs12) ?_
    refine l_val (v := .slice ca (c.recs.length) (cc)) rfl rfl rfl (e_load1 tf97 (v := .slice ca (c.recs.length) (cc)) rfl (k_pt 0 (cs := #[Nx (c.epoch), Nx (c.next), .string (c.state), .slice ca (c.recs.length) (cc)]) (vs := [.slice ca (c.recs.length) (cc)]) rfl rfl)) ?_
    refine l_nil ?_
    exact f_owes_d (up_cons rfl hs12) rfl (perm_front 0 rfl)
   ·rintro f M ⟨k0, k1, -⟩ -
    have hs11 : f 11 = .slice (some ⟨(blk (f 11)), 0, none⟩) 0 0 := k0
    have hs13 : f 13 = .slice ca (c.recs.length) (cc) := k1
    refine ob_start (L' := pt (blk (f 11)) (.cells #[] 9) :: M) (by rfl) (up_cons (up_cons rfl hs11) hs13) ?_
    refine l_conseq 0 (r' := row (.slice (some ⟨(blk (f 11)), 0, none⟩) 0 0) 9 1 0 ([].map (fun s : ByteArray => Value.string s))) rfl (fun a h => pt_row (m := 0) (by decide) rfl a h) ?_
    refine l_mv rfl rfl rfl (m_appendE (enc := (fun s : ByteArray => Value.string s)) 0 str_cell tf78 tf80 (v := .slice (some ⟨(blk (f 11)), 0, none⟩) 0 0) (xs := []) (ys := c.recs) (ao := ca) (c := cc) rfl rfl (by first | rfl | simp) rfl (by first | rfl | simp) (Knows.of_base (Elems.mono _ _ _) ce) (by first | omega | (simp only [List.length_append, List.length_nil, List.length_cons, be_length] at *; omega)) (by first | omega | (simp only [List.length_append, List.length_nil, List.length_cons, be_length] at *; omega))) ?_
    rintro _ _ ⟨rp10, rc11, rfl, rfl⟩
    refine l_nil ?_
    exact f_owes_d (up_cons (up_cons rfl hs11) hs13) rfl (perm_front 0 rfl)
   ·rintro f M - ⟨i0, -⟩
    have hs3 : f 3 = .pointer (some ⟨b2, 0, none⟩) := i0
    refine ob_start (L' := pt b2 (.cells #[Bx (o.kind), Bx (o.power), .slice oa (o.body.length) (oc)] 47) :: M) (by rfl) (up_cons rfl hs3) ?_
    refine l_val (v := .agg #[Bx (o.kind), Bx (o.power), .slice oa (o.body.length) (oc)]) rfl rfl rfl (e_load tf87 (cs := [Bx (o.kind), Bx (o.power), .slice oa (o.body.length) (oc)]) rfl (k_pt 0 (cs := #[Bx (o.kind), Bx (o.power), .slice oa (o.body.length) (oc)]) (vs := [Bx (o.kind), Bx (o.power), .slice oa (o.body.length) (oc)]) rfl rfl) rfl) ?_
    refine l_nil ?_
    exact f_owes_d (up_cons rfl hs3) rfl (perm_front 0 rfl)
   ·rintro f M ⟨k0, -⟩ -
    have hs15 : f 15 = .agg #[Bx (o.kind), Bx (o.power), .slice oa (o.body.length) (oc)] := k0
    refine ob_start (L' := M) (by rfl) (up_cons rfl hs15) ?_
    refine l_call rfl rfl rfl (cl_value (fst := []) (cap := []) (vs := [.agg #[Bx (o.kind), Bx (o.power), .slice oa (o.body.length) (oc)]]) (all := [.agg #[Bx (o.kind), Bx (o.power), .slice oa (o.body.length) (oc)]]) tf100 rfl rfl rfl) ?_
    intro w hw
    obtain ⟨β1, sb, kn, hw1, back⟩ := St.frame_all hw
    refine (body_ok β1 w hw1 (⟨o.kind, o.power, o.body⟩ : KOp) oa oc (by omega) (by omega) (Elems.mono _ _ _ _ _ sb oe)).mono ?_
    rintro e w' ⟨rfl, hw'⟩
    refine ⟨_, rfl, _, back _ _ hw', ?_⟩
    clear hw hw1 hw' back kn sb
    refine l_nil ?_
    exact f_owes_d (up_cons rfl hs15) rfl (List.Perm.refl _)
   ·rintro f M ⟨k0, -⟩ -
    have hs16 : f 16 = .slice oa ((o.body.take 300).length) (oc) := k0
    refine ob_start (L' := M) (by rfl) (up_cons rfl hs16) ?_
    refine l_val (v := .string (str (o.body.take 300))) rfl rfl rfl (e_bytesStr (a := oa) (bs := (o.body.take 300)) (m := (o.body.take 300).length) (c := oc) rfl (by first | rfl | simp) tf11 tf8 tf7 (Knows.of_base (Elems.mono _ _ _) (Elems.take 300 oe))) ?_
    refine l_nil ?_
    exact f_owes_d (up_cons rfl hs16) rfl (List.Perm.refl _)
   ·rintro f M ⟨k0, -⟩ -
    have hs17 : f 17 = .string (str (o.body.take 300)) := k0
    refine ob_start (L' := M) (by rfl) (up_cons rfl hs17) ?_
    refine l_mv rfl rfl rfl (m_slices tf78 tf79 (vs := [(0, .string (str (o.body.take 300)))]) (cells := #[.string (str (o.body.take 300))]) rfl rfl rfl rfl) ?_
    rintro _ _ ⟨b13, rfl, rfl⟩
    refine l_nil ?_
    exact f_owes_d (up_cons rfl hs17) rfl (perm_front 0 rfl)
   ·rintro f M ⟨k0, k1, -⟩ -
    have hs14 : f 14 = .slice (sla (f 14)) ([] ++ c.recs).length (slc (f 14)) := k0
    have hs18 : f 18 = .slice (some ⟨(blk (f 18)), 0, none⟩) 1 1 := k1
    refine ob_start (L' := row (.slice (sla (f 14)) ([] ++ c.recs).length (slc (f 14))) 9 1 (([] ++ c.recs).length) (([] ++ c.recs).map (fun s : ByteArray => Value.string s)) :: pt (blk (f 18)) (.cells #[.string (str (o.body.take 300))] 9) :: M) (by rfl) (up_cons (up_cons rfl hs14) hs18) ?_
    refine l_mv rfl rfl rfl (m_appendE (enc := (fun s : ByteArray => Value.string s)) 0 str_cell tf78 tf80 (v := .slice (sla (f 14)) ([] ++ c.recs).length (slc (f 14))) (xs := [] ++ c.recs) (ys := [str (o.body.take 300)]) (ao := some ⟨(blk (f 18)), 0, none⟩) (c := 1) rfl rfl (by first | rfl | simp) rfl (by first | rfl | simp) (k_ptE 1 (xs := [str (o.body.take 300)]) rfl) (by first | omega | (simp only [List.length_append, List.length_nil, List.length_cons, be_length] at *; omega)) (by first | omega | (simp only [List.length_append, List.length_nil, List.length_cons, be_length] at *; omega))) ?_
    rintro _ _ ⟨rp16, rc17, rfl, rfl⟩
    refine l_nil ?_
    exact f_owes_d (up_cons (up_cons rfl hs14) hs18) rfl ((perm_front 0 rfl).trans (perm_front 1 rfl))
   ·rintro f M - ⟨i0, -⟩
    have hs2 : f 2 = .pointer (some ⟨b1, 0, none⟩) := i0
    refine ob_start (L' := M) (by rfl) (up_cons rfl hs2) ?_
    refine l_val (v := .pointer (some ⟨b1, 3, none⟩)) rfl rfl rfl (e_fieldPt (b := b1) (o := 0) rfl tf96) ?_
    refine l_nil ?_
    exact f_owes_d (up_cons rfl hs2) rfl (List.Perm.refl _)
   ·rintro f M ⟨k0, k1, -⟩ -
    have hs20 : f 20 = .pointer (some ⟨b1, 3, none⟩) := k0
    have hs19 : f 19 = .slice (sla (f 19)) (([] ++ c.recs) ++ [str (o.body.take 300)]).length (slc (f 19)) := k1
    refine ob_start (L' := pt b1 (.cells #[Nx (c.epoch), Nx (c.next), .string (c.state), .slice ca (c.recs.length) (cc)] 27) :: M) (by rfl) (up_cons (up_cons rfl hs20) hs19) ?_
    refine l_mu rfl rfl (m_store 0 tf97 (b := b1) (o := 3) (T := 27) (cs := #[Nx (c.epoch), Nx (c.next), .string (c.state), .slice ca (c.recs.length) (cc)]) (cs' := #[Nx (c.epoch), Nx (c.next), .string (c.state), .slice (sla (f 19)) (([] ++ c.recs) ++ [str (o.body.take 300)]).length (slc (f 19))]) (v := .slice (sla (f 19)) (([] ++ c.recs) ++ [str (o.body.take 300)]).length (slc (f 19))) rfl rfl rfl rfl rfl rfl rfl) ?_
    refine l_nil ?_
    exact f_owes_n (up_cons (up_cons rfl hs20) hs19) trivial (perm_front 0 rfl)
   rintro fa18 ⟨-, -, -, -, -, -, -, -, -, -, -, -⟩ ⟨j0, j1, -⟩
   refine f_re (L' := [pt b3 (.cells #[.int .i64 (0), .int .i64 (0), .string ⟨#[]⟩, .slice none 0 0] 27), pt b2 (.cells #[Bx (o.kind), Bx (o.power), .slice oa (o.body.length) (oc)] 47), pt (blk (fa18 18)) (.cells #[.string (str (o.body.take 300))] 9), row (.slice (sla (fa18 19)) (([] ++ c.recs) ++ [str (o.body.take 300)]).length (slc (fa18 19))) 9 1 ((([] ++ c.recs) ++ [str (o.body.take 300)]).length) ((([] ++ c.recs) ++ [str (o.body.take 300)]).map (fun s : ByteArray => Value.string s)), pt b1 (.cells #[Nx (c.epoch), Nx (c.next), .string (c.state), .slice (sla (fa18 19)) (([] ++ c.recs) ++ [str (o.body.take 300)]).length (slc (fa18 19))] 27)]) (by rfl) ?_
   refine f_rebase (d := 2) (v := .pointer (some ⟨b1, 0, none⟩)) j0 ?_
   refine f_rebase (d := 4) (v := .pointer (some ⟨b3, 0, none⟩)) j1 ?_
   refine f_then ?_
   refine c_region ?_
   refine l_val (v := .pointer (some ⟨b1, 1, none⟩)) rfl rfl rfl (e_fieldPt (b := b1) (o := 0) rfl tf91) ?_
   refine l_val (v := Nx (c.next)) rfl rfl rfl (e_load1 tf25 (v := Nx (c.next)) rfl (k_pt 4 (cs := #[Nx (c.epoch), Nx (c.next), .string (c.state), .slice (sla (fa18 19)) (([] ++ c.recs) ++ [str (o.body.take 300)]).length (slc (fa18 19))]) (vs := [Nx (c.next)]) rfl rfl)) ?_
   refine l_val (v := Nx (c.next + 1)) rfl rfl rfl (e_add (a := ((c.next : Nat) : Int)) (b := (1 : Int)) rfl rfl (i64n (by omega) (by omega))) ?_
   refine l_val (v := .pointer (some ⟨b1, 1, none⟩)) rfl rfl rfl (e_fieldPt (b := b1) (o := 0) rfl tf91) ?_
   refine l_mu rfl rfl (m_store 4 tf25 (b := b1) (o := 1) (T := 27) (cs := #[Nx (c.epoch), Nx (c.next), .string (c.state), .slice (sla (fa18 19)) (([] ++ c.recs) ++ [str (o.body.take 300)]).length (slc (fa18 19))]) (cs' := #[Nx (c.epoch), Nx (c.next + 1), .string (c.state), .slice (sla (fa18 19)) (([] ++ c.recs) ++ [str (o.body.take 300)]).length (slc (fa18 19))]) (v := Nx (c.next + 1)) rfl rfl rfl rfl rfl rfl rfl) ?_
   refine l_nil ?_
   refine f_block ?_
   refine f_then ?_
   refine c_seq ?_
   refine c_region ?_
   refine l_val (v := .agg #[Nx (c.epoch), Nx (c.next + 1), .string (c.state), .slice (sla (fa18 19)) (([] ++ c.recs) ++ [str (o.body.take 300)]).length (slc (fa18 19))]) rfl rfl rfl (e_load tf101 (cs := [Nx (c.epoch), Nx (c.next + 1), .string (c.state), .slice (sla (fa18 19)) (([] ++ c.recs) ++ [str (o.body.take 300)]).length (slc (fa18 19))]) rfl (k_pt 4 (cs := #[Nx (c.epoch), Nx (c.next + 1), .string (c.state), .slice (sla (fa18 19)) (([] ++ c.recs) ++ [str (o.body.take 300)]).length (slc (fa18 19))]) (vs := [Nx (c.epoch), Nx (c.next + 1), .string (c.state), .slice (sla (fa18 19)) (([] ++ c.recs) ++ [str (o.body.take 300)]).length (slc (fa18 19))]) rfl rfl) rfl) ?_
   refine l_mu rfl rfl (m_store 0 tf101 (b := b3) (o := 0) (T := 27) (cs := #[.int .i64 (0), .int .i64 (0), .string ⟨#[]⟩, .slice none 0 0]) (cs' := #[Nx (c.epoch), Nx (c.next + 1), .string (c.state), .slice (sla (fa18 19)) (([] ++ c.recs) ++ [str (o.body.take 300)]).length (slc (fa18 19))]) (v := .agg #[Nx (c.epoch), Nx (c.next + 1), .string (c.state), .slice (sla (fa18 19)) (([] ++ c.recs) ++ [str (o.body.take 300)]).length (slc (fa18 19))]) rfl rfl rfl rfl rfl rfl rfl) ?_
   refine l_nil ?_
   refine f_then ?_
   refine c_ret ?_
   refine retG (l := [.cell 4 27]) (m := [.agg #[Nx (c.epoch), Nx (c.next + 1), .string (c.state), .slice (sla (fa18 19)) (([] ++ c.recs) ++ [str (o.body.take 300)]).length (slc (fa18 19))]]) (v := .agg #[Nx (c.epoch), Nx (c.next + 1), .string (c.state), .slice (sla (fa18 19)) (([] ++ c.recs) ++ [str (o.body.take 300)]).length (slc (fa18 19))]) Try.results37 ⟨rd_cell tf101 (cs := [Nx (c.epoch), Nx (c.next + 1), .string (c.state), .slice (sla (fa18 19)) (([] ++ c.recs) ++ [str (o.body.take 300)]).length (slc (fa18 19))]) rfl (k_pt 0 (cs := #[Nx (c.epoch), Nx (c.next + 1), .string (c.state), .slice (sla (fa18 19)) (([] ++ c.recs) ++ [str (o.body.take 300)]).length (slc (fa18 19))]) (vs := [Nx (c.epoch), Nx (c.next + 1), .string (c.state), .slice (sla (fa18 19)) (([] ++ c.recs) ++ [str (o.body.take 300)]).length (slc (fa18 19))]) rfl rfl) rfl, trivial⟩ rfl ?_
   intro w hw
   exact ⟨_, _, rfl, st_mask [false, false, false, true, false] rfl hw⟩
  ·
   exact absurd (by omega) hc5
 ·
  exact absurd (by omega) hc4
set_option maxHeartbeats 4000000 in
theorem with_1 (β : Base) (w : World) (hw : St β [] w) (c : KC) (ca : Option Addr) (cc : Nat) (cl : c.recs.length ≤ cc) (cm : cc ≤ 9223372036854775807) (ce : Elems StrR β.heap ca c.recs) (hn : c.recs.length ≤ 1048576) (hcn : c.next ≤ 4611686018427387904) (o : KOp) (oa : Option Addr) (oc : Nat) (ol : o.body.length ≤ oc) (om : oc ≤ 9223372036854775807) (oe : Elems U8R β.heap oa o.body) (hk : o.kind.toNat % 5 = 1) : Calls Try.prog 37 #[.agg #[Nx c.epoch, Nx c.next, .string c.state, .slice ca c.recs.length cc], .agg #[Bx o.kind, Bx o.power, .slice oa o.body.length oc]] w fun r w' => ∃ p c', r = .returned (.agg #[Nx c.epoch, Nx (c.next + 1), .string c.state, .slice p (([] ++ c.recs) ++ [str (o.body.take 300)]).length c']) ∧ St β [row (.slice p (([] ++ c.recs) ++ [str (o.body.take 300)]).length c') 9 1 (([] ++ c.recs) ++ [str (o.body.take 300)]).length ((([] ++ c.recs) ++ [str (o.body.take 300)]).map (fun s : ByteArray => Value.string s))] w' := by
 refine enter (n := 37) Try.func37 rfl Try.ntmps37 rfl ?_ hw
 refine c_seq ?_
 refine c_region ?_
 refine l_mv rfl rfl rfl (m_box (v := .agg #[Nx (c.epoch), Nx (c.next), .string (c.state), .slice ca (c.recs.length) (cc)]) rfl) ?_
 rintro _ _ ⟨b1, rfl, rfl⟩
 refine l_mv rfl rfl rfl (m_box (v := .agg #[Bx (o.kind), Bx (o.power), .slice oa (o.body.length) (oc)]) rfl) ?_
 rintro _ _ ⟨b2, rfl, rfl⟩
 refine l_mv rfl rfl rfl (m_alloc tf99) ?_
 rintro _ _ ⟨b3, rfl, rfl⟩
 refine l_nil ?_
 refine f_then ?_
 refine c_seq ?_
 refine c_seq ?_
 refine c_region ?_
 refine l_val (v := .pointer (some ⟨b2, 0, none⟩)) rfl rfl rfl (e_fieldPt (b := b2) (o := 0) rfl tf85) ?_
 refine l_val (v := Bx (o.kind)) rfl rfl rfl (e_load1 tf13 (v := Bx (o.kind)) rfl (k_pt 1 (cs := #[Bx (o.kind), Bx (o.power), .slice oa (o.body.length) (oc)]) (vs := [Bx (o.kind)]) rfl rfl)) ?_
 refine l_val (v := .int .u8 (((o.kind.toNat % 5 : Nat)) : Int)) rfl rfl rfl (e_rem (a := ((o.kind).toNat : Int)) (b := ((5 : Nat) : Int)) rfl rfl (by decide) (nat_tmod _ _)) ?_
 refine l_nil ?_
 refine f_then ?_
 refine c_block ?_
 refine c_seq ?_
 refine c_seq ?_
 refine c_region ?_
 refine l_val (v := .bool (decide (((o.kind.toNat % 5 : Nat) : Int) = (0 : Int)))) rfl rfl rfl (e_eql (a := ((o.kind.toNat % 5 : Nat) : Int)) (b := (0 : Int)) rfl rfl) ?_
 refine l_val (v := .bool (decide (((o.kind.toNat % 5 : Nat) : Int) = (0 : Int)))) rfl rfl rfl (e_assign) ?_
 refine l_nil ?_
 refine f_then ?_
 refine c_if (((o.kind.toNat % 5 : Nat) : Int) = (0 : Int)) rfl (fun hc4 => ?_) (fun hc4 => ?_)
 ·
  exact absurd hc4 (by omega)
 ·
  refine c_region ?_
  refine l_val (v := .bool (decide (((o.kind.toNat % 5 : Nat) : Int) = (1 : Int)))) rfl rfl rfl (e_eql (a := ((o.kind.toNat % 5 : Nat) : Int)) (b := (1 : Int)) rfl rfl) ?_
  refine l_val (v := .bool (decide (((o.kind.toNat % 5 : Nat) : Int) = (1 : Int)))) rfl rfl rfl (e_assign) ?_
  refine l_nil ?_
  refine f_then ?_
  refine c_if (((o.kind.toNat % 5 : Nat) : Int) = (1 : Int)) rfl (fun hc5 => ?_) (fun hc5 => ?_)
  ·
   refine c_seq ?_
   refine c_any [⟨[], [], [], [11], fun f => f 11 = .slice (some ⟨(blk (f 11)), 0, none⟩) 0 0⟩, ⟨[], [], [0], [12], fun f => f 12 = .pointer (some ⟨b1, 3, none⟩)⟩, ⟨[1], [1], [], [13], fun f => f 13 = .slice ca (c.recs.length) (cc)⟩, ⟨[0, 1, 2], [0, 2], [], [14], fun f => f 14 = .slice (sla (f 14)) ([] ++ c.recs).length (slc (f 14))⟩, ⟨[], [], [1], [15], fun f => f 15 = .agg #[Bx (o.kind), Bx (o.power), .slice oa (o.body.length) (oc)]⟩, ⟨[0, 1, 2, 3, 4], [4], [], [16], fun f => f 16 = .slice oa ((o.body.take 300).length) (oc)⟩, ⟨[0, 1, 2, 3, 4, 5], [5], [], [17], fun f => f 17 = .string (str (o.body.take 300))⟩, ⟨[0, 1, 2, 3, 4, 5, 6], [6], [], [18], fun f => f 18 = .slice (some ⟨(blk (f 18)), 0, none⟩) 1 1⟩, ⟨[0, 1, 2, 3, 4, 5, 6, 7], [3, 7], [], [19], fun f => f 19 = .slice (sla (f 19)) (([] ++ c.recs) ++ [str (o.body.take 300)]).length (slc (f 19))⟩, ⟨[0, 1, 2, 3, 4, 5, 6, 7, 8], [], [0], [20], fun f => f 20 = .pointer (some ⟨b1, 3, none⟩)⟩, ⟨[0, 1, 2, 3, 4, 5, 6, 7, 8, 9], [9, 8], [], [], fun _ => True⟩] [⟨none, none, [], [], fun _ => pt b3 (.cells #[.int .i64 (0), .int .i64 (0), .string ⟨#[]⟩, .slice none 0 0] 27)⟩, ⟨none, none, [4], [], fun _ => pt b2 (.cells #[Bx (o.kind), Bx (o.power), .slice oa (o.body.length) (oc)] 47)⟩, ⟨none, (some 10), [2, 10], [], fun _ => pt b1 (.cells #[Nx (c.epoch), Nx (c.next), .string (c.state), .slice ca (c.recs.length) (cc)] 27)⟩, ⟨(some 0), (some 3), [3], [11], fun f => pt (blk (f 11)) (.cells #[] 9)⟩, ⟨(some 3), (some 8), [8], [14], fun f => row (.slice (sla (f 14)) ([] ++ c.recs).length (slc (f 14))) 9 1 (([] ++ c.recs).length) (([] ++ c.recs).map (fun s : ByteArray => Value.string s))⟩, ⟨(some 7), none, [8], [18], fun f => pt (blk (f 18)) (.cells #[.string (str (o.body.take 300))] 9)⟩, ⟨(some 8), none, [], [19], fun f => row (.slice (sla (f 19)) (([] ++ c.recs) ++ [str (o.body.take 300)]).length (slc (f 19))) 9 1 ((([] ++ c.recs) ++ [str (o.body.take 300)]).length) ((([] ++ c.recs) ++ [str (o.body.take 300)]).map (fun s : ByteArray => Value.string s))⟩, ⟨(some 10), none, [], [19], fun f => pt b1 (.cells #[Nx (c.epoch), Nx (c.next), .string (c.state), .slice (sla (f 19)) (([] ++ c.recs) ++ [str (o.body.take 300)]).length (slc (f 19))] 27)⟩] [(2, .pointer (some ⟨b1, 0, none⟩)), (3, .pointer (some ⟨b2, 0, none⟩)), (4, .pointer (some ⟨b3, 0, none⟩))] [0, 2] [] (by kernel_rfl) (by kernel_rfl) (by kernel_rfl) (by kernel_rfl) rfl ⟨rfl, rfl, rfl, trivial⟩ ⟨?_, ?_, ?_, ?_, ?_, ?_, ?_, ?_, ?_, ?_, ?_, trivial⟩ ?_
   ·rintro f M - -
    refine ob_start (L' := M) (by rfl) rfl ?_
    refine l_mv rfl rfl rfl (m_slice0 tf78) ?_
    rintro _ _ ⟨b7, rfl, rfl⟩
    refine l_nil ?_
    exact f_owes_d rfl rfl (perm_front 0 rfl)
   ·rintro f M - ⟨i0, -⟩
    have hs2 : f 2 = .pointer (some ⟨b1, 0, none⟩) := i0
    refine ob_start (L' := M) (by rfl) (up_cons rfl hs2) ?_
    refine l_val (v := .pointer (some ⟨b1, 3, none⟩)) rfl rfl rfl (e_fieldPt (b := b1) (o := 0) rfl tf96) ?_
    refine l_nil ?_
    exact f_owes_d (up_cons rfl hs2) rfl (List.Perm.refl _)
   ·rintro f M ⟨k0, -⟩ -
    have hs12 : f 12 = .pointer (some ⟨b1, 3, none⟩) := k0
    refine ob_start (L' := pt b1 (.cells #[Nx (c.epoch), Nx (c.next), .string (c.state), .slice ca (c.recs.length) (cc)] 27) :: M) (by rfl) (up_cons rfl hs12) ?_
    refine l_val (v := .slice ca (c.recs.length) (cc)) rfl rfl rfl (e_load1 tf97 (v := .slice ca (c.recs.length) (cc)) rfl (k_pt 0 (cs := #[Nx (c.epoch), Nx (c.next), .string (c.state), .slice ca (c.recs.length) (cc)]) (vs := [.slice ca (c.recs.length) (cc)]) rfl rfl)) ?_
    refine l_nil ?_
    exact f_owes_d (up_cons rfl hs12) rfl (perm_front 0 rfl)
   ·rintro f M ⟨k0, k1, -⟩ -
    have hs11 : f 11 = .slice (some ⟨(blk (f 11)), 0, none⟩) 0 0 := k0
    have hs13 : f 13 = .slice ca (c.recs.length) (cc) := k1
    refine ob_start (L' := pt (blk (f 11)) (.cells #[] 9) :: M) (by rfl) (up_cons (up_cons rfl hs11) hs13) ?_
    refine l_conseq 0 (r' := row (.slice (some ⟨(blk (f 11)), 0, none⟩) 0 0) 9 1 0 ([].map (fun s : ByteArray => Value.string s))) rfl (fun a h => pt_row (m := 0) (by decide) rfl a h) ?_
    refine l_mv rfl rfl rfl (m_appendE (enc := (fun s : ByteArray => Value.string s)) 0 str_cell tf78 tf80 (v := .slice (some ⟨(blk (f 11)), 0, none⟩) 0 0) (xs := []) (ys := c.recs) (ao := ca) (c := cc) rfl rfl (by first | rfl | simp) rfl (by first | rfl | simp) (Knows.of_base (Elems.mono _ _ _) ce) (by first | omega | (simp only [List.length_append, List.length_nil, List.length_cons, be_length] at *; omega)) (by first | omega | (simp only [List.length_append, List.length_nil, List.length_cons, be_length] at *; omega))) ?_
    rintro _ _ ⟨rp10, rc11, rfl, rfl⟩
    refine l_nil ?_
    exact f_owes_d (up_cons (up_cons rfl hs11) hs13) rfl (perm_front 0 rfl)
   ·rintro f M - ⟨i0, -⟩
    have hs3 : f 3 = .pointer (some ⟨b2, 0, none⟩) := i0
    refine ob_start (L' := pt b2 (.cells #[Bx (o.kind), Bx (o.power), .slice oa (o.body.length) (oc)] 47) :: M) (by rfl) (up_cons rfl hs3) ?_
    refine l_val (v := .agg #[Bx (o.kind), Bx (o.power), .slice oa (o.body.length) (oc)]) rfl rfl rfl (e_load tf87 (cs := [Bx (o.kind), Bx (o.power), .slice oa (o.body.length) (oc)]) rfl (k_pt 0 (cs := #[Bx (o.kind), Bx (o.power), .slice oa (o.body.length) (oc)]) (vs := [Bx (o.kind), Bx (o.power), .slice oa (o.body.length) (oc)]) rfl rfl) rfl) ?_
    refine l_nil ?_
    exact f_owes_d (up_cons rfl hs3) rfl (perm_front 0 rfl)
   ·rintro f M ⟨k0, -⟩ -
    have hs15 : f 15 = .agg #[Bx (o.kind), Bx (o.power), .slice oa (o.body.length) (oc)] := k0
    refine ob_start (L' := M) (by rfl) (up_cons rfl hs15) ?_
    refine l_call rfl rfl rfl (cl_value (fst := []) (cap := []) (vs := [.agg #[Bx (o.kind), Bx (o.power), .slice oa (o.body.length) (oc)]]) (all := [.agg #[Bx (o.kind), Bx (o.power), .slice oa (o.body.length) (oc)]]) tf100 rfl rfl rfl) ?_
    intro w hw
    obtain ⟨β1, sb, kn, hw1, back⟩ := St.frame_all hw
    refine (body_ok β1 w hw1 (⟨o.kind, o.power, o.body⟩ : KOp) oa oc (by omega) (by omega) (Elems.mono _ _ _ _ _ sb oe)).mono ?_
    rintro e w' ⟨rfl, hw'⟩
    refine ⟨_, rfl, _, back _ _ hw', ?_⟩
    clear hw hw1 hw' back kn sb
    refine l_nil ?_
    exact f_owes_d (up_cons rfl hs15) rfl (List.Perm.refl _)
   ·rintro f M ⟨k0, -⟩ -
    have hs16 : f 16 = .slice oa ((o.body.take 300).length) (oc) := k0
    refine ob_start (L' := M) (by rfl) (up_cons rfl hs16) ?_
    refine l_val (v := .string (str (o.body.take 300))) rfl rfl rfl (e_bytesStr (a := oa) (bs := (o.body.take 300)) (m := (o.body.take 300).length) (c := oc) rfl (by first | rfl | simp) tf11 tf8 tf7 (Knows.of_base (Elems.mono _ _ _) (Elems.take 300 oe))) ?_
    refine l_nil ?_
    exact f_owes_d (up_cons rfl hs16) rfl (List.Perm.refl _)
   ·rintro f M ⟨k0, -⟩ -
    have hs17 : f 17 = .string (str (o.body.take 300)) := k0
    refine ob_start (L' := M) (by rfl) (up_cons rfl hs17) ?_
    refine l_mv rfl rfl rfl (m_slices tf78 tf79 (vs := [(0, .string (str (o.body.take 300)))]) (cells := #[.string (str (o.body.take 300))]) rfl rfl rfl rfl) ?_
    rintro _ _ ⟨b13, rfl, rfl⟩
    refine l_nil ?_
    exact f_owes_d (up_cons rfl hs17) rfl (perm_front 0 rfl)
   ·rintro f M ⟨k0, k1, -⟩ -
    have hs14 : f 14 = .slice (sla (f 14)) ([] ++ c.recs).length (slc (f 14)) := k0
    have hs18 : f 18 = .slice (some ⟨(blk (f 18)), 0, none⟩) 1 1 := k1
    refine ob_start (L' := row (.slice (sla (f 14)) ([] ++ c.recs).length (slc (f 14))) 9 1 (([] ++ c.recs).length) (([] ++ c.recs).map (fun s : ByteArray => Value.string s)) :: pt (blk (f 18)) (.cells #[.string (str (o.body.take 300))] 9) :: M) (by rfl) (up_cons (up_cons rfl hs14) hs18) ?_
    refine l_mv rfl rfl rfl (m_appendE (enc := (fun s : ByteArray => Value.string s)) 0 str_cell tf78 tf80 (v := .slice (sla (f 14)) ([] ++ c.recs).length (slc (f 14))) (xs := [] ++ c.recs) (ys := [str (o.body.take 300)]) (ao := some ⟨(blk (f 18)), 0, none⟩) (c := 1) rfl rfl (by first | rfl | simp) rfl (by first | rfl | simp) (k_ptE 1 (xs := [str (o.body.take 300)]) rfl) (by first | omega | (simp only [List.length_append, List.length_nil, List.length_cons, be_length] at *; omega)) (by first | omega | (simp only [List.length_append, List.length_nil, List.length_cons, be_length] at *; omega))) ?_
    rintro _ _ ⟨rp16, rc17, rfl, rfl⟩
    refine l_nil ?_
    exact f_owes_d (up_cons (up_cons rfl hs14) hs18) rfl ((perm_front 0 rfl).trans (perm_front 1 rfl))
   ·rintro f M - ⟨i0, -⟩
    have hs2 : f 2 = .pointer (some ⟨b1, 0, none⟩) := i0
    refine ob_start (L' := M) (by rfl) (up_cons rfl hs2) ?_
    refine l_val (v := .pointer (some ⟨b1, 3, none⟩)) rfl rfl rfl (e_fieldPt (b := b1) (o := 0) rfl tf96) ?_
    refine l_nil ?_
    exact f_owes_d (up_cons rfl hs2) rfl (List.Perm.refl _)
   ·rintro f M ⟨k0, k1, -⟩ -
    have hs20 : f 20 = .pointer (some ⟨b1, 3, none⟩) := k0
    have hs19 : f 19 = .slice (sla (f 19)) (([] ++ c.recs) ++ [str (o.body.take 300)]).length (slc (f 19)) := k1
    refine ob_start (L' := pt b1 (.cells #[Nx (c.epoch), Nx (c.next), .string (c.state), .slice ca (c.recs.length) (cc)] 27) :: M) (by rfl) (up_cons (up_cons rfl hs20) hs19) ?_
    refine l_mu rfl rfl (m_store 0 tf97 (b := b1) (o := 3) (T := 27) (cs := #[Nx (c.epoch), Nx (c.next), .string (c.state), .slice ca (c.recs.length) (cc)]) (cs' := #[Nx (c.epoch), Nx (c.next), .string (c.state), .slice (sla (f 19)) (([] ++ c.recs) ++ [str (o.body.take 300)]).length (slc (f 19))]) (v := .slice (sla (f 19)) (([] ++ c.recs) ++ [str (o.body.take 300)]).length (slc (f 19))) rfl rfl rfl rfl rfl rfl rfl) ?_
    refine l_nil ?_
    exact f_owes_n (up_cons (up_cons rfl hs20) hs19) trivial (perm_front 0 rfl)
   rintro fa18 ⟨-, -, -, -, -, -, -, -, -, -, -, -⟩ ⟨j0, j1, -⟩
   refine f_re (L' := [pt b3 (.cells #[.int .i64 (0), .int .i64 (0), .string ⟨#[]⟩, .slice none 0 0] 27), pt b2 (.cells #[Bx (o.kind), Bx (o.power), .slice oa (o.body.length) (oc)] 47), pt (blk (fa18 18)) (.cells #[.string (str (o.body.take 300))] 9), row (.slice (sla (fa18 19)) (([] ++ c.recs) ++ [str (o.body.take 300)]).length (slc (fa18 19))) 9 1 ((([] ++ c.recs) ++ [str (o.body.take 300)]).length) ((([] ++ c.recs) ++ [str (o.body.take 300)]).map (fun s : ByteArray => Value.string s)), pt b1 (.cells #[Nx (c.epoch), Nx (c.next), .string (c.state), .slice (sla (fa18 19)) (([] ++ c.recs) ++ [str (o.body.take 300)]).length (slc (fa18 19))] 27)]) (by rfl) ?_
   refine f_rebase (d := 2) (v := .pointer (some ⟨b1, 0, none⟩)) j0 ?_
   refine f_rebase (d := 4) (v := .pointer (some ⟨b3, 0, none⟩)) j1 ?_
   refine f_then ?_
   refine c_region ?_
   refine l_val (v := .pointer (some ⟨b1, 1, none⟩)) rfl rfl rfl (e_fieldPt (b := b1) (o := 0) rfl tf91) ?_
   refine l_val (v := Nx (c.next)) rfl rfl rfl (e_load1 tf25 (v := Nx (c.next)) rfl (k_pt 4 (cs := #[Nx (c.epoch), Nx (c.next), .string (c.state), .slice (sla (fa18 19)) (([] ++ c.recs) ++ [str (o.body.take 300)]).length (slc (fa18 19))]) (vs := [Nx (c.next)]) rfl rfl)) ?_
   refine l_val (v := Nx (c.next + 1)) rfl rfl rfl (e_add (a := ((c.next : Nat) : Int)) (b := (1 : Int)) rfl rfl (i64n (by omega) (by omega))) ?_
   refine l_val (v := .pointer (some ⟨b1, 1, none⟩)) rfl rfl rfl (e_fieldPt (b := b1) (o := 0) rfl tf91) ?_
   refine l_mu rfl rfl (m_store 4 tf25 (b := b1) (o := 1) (T := 27) (cs := #[Nx (c.epoch), Nx (c.next), .string (c.state), .slice (sla (fa18 19)) (([] ++ c.recs) ++ [str (o.body.take 300)]).length (slc (fa18 19))]) (cs' := #[Nx (c.epoch), Nx (c.next + 1), .string (c.state), .slice (sla (fa18 19)) (([] ++ c.recs) ++ [str (o.body.take 300)]).length (slc (fa18 19))]) (v := Nx (c.next + 1)) rfl rfl rfl rfl rfl rfl rfl) ?_
   refine l_nil ?_
   refine f_block ?_
   refine f_then ?_
   refine c_seq ?_
   refine c_region ?_
   refine l_val (v := .agg #[Nx (c.epoch), Nx (c.next + 1), .string (c.state), .slice (sla (fa18 19)) (([] ++ c.recs) ++ [str (o.body.take 300)]).length (slc (fa18 19))]) rfl rfl rfl (e_load tf101 (cs := [Nx (c.epoch), Nx (c.next + 1), .string (c.state), .slice (sla (fa18 19)) (([] ++ c.recs) ++ [str (o.body.take 300)]).length (slc (fa18 19))]) rfl (k_pt 4 (cs := #[Nx (c.epoch), Nx (c.next + 1), .string (c.state), .slice (sla (fa18 19)) (([] ++ c.recs) ++ [str (o.body.take 300)]).length (slc (fa18 19))]) (vs := [Nx (c.epoch), Nx (c.next + 1), .string (c.state), .slice (sla (fa18 19)) (([] ++ c.recs) ++ [str (o.body.take 300)]).length (slc (fa18 19))]) rfl rfl) rfl) ?_
   refine l_mu rfl rfl (m_store 0 tf101 (b := b3) (o := 0) (T := 27) (cs := #[.int .i64 (0), .int .i64 (0), .string ⟨#[]⟩, .slice none 0 0]) (cs' := #[Nx (c.epoch), Nx (c.next + 1), .string (c.state), .slice (sla (fa18 19)) (([] ++ c.recs) ++ [str (o.body.take 300)]).length (slc (fa18 19))]) (v := .agg #[Nx (c.epoch), Nx (c.next + 1), .string (c.state), .slice (sla (fa18 19)) (([] ++ c.recs) ++ [str (o.body.take 300)]).length (slc (fa18 19))]) rfl rfl rfl rfl rfl rfl rfl) ?_
   refine l_nil ?_
   refine f_then ?_
   refine c_ret ?_
   refine retG (l := [.cell 4 27]) (m := [.agg #[Nx (c.epoch), Nx (c.next + 1), .string (c.state), .slice (sla (fa18 19)) (([] ++ c.recs) ++ [str (o.body.take 300)]).length (slc (fa18 19))]]) (v := .agg #[Nx (c.epoch), Nx (c.next + 1), .string (c.state), .slice (sla (fa18 19)) (([] ++ c.recs) ++ [str (o.body.take 300)]).length (slc (fa18 19))]) Try.results37 ⟨rd_cell tf101 (cs := [Nx (c.epoch), Nx (c.next + 1), .string (c.state), .slice (sla (fa18 19)) (([] ++ c.recs) ++ [str (o.body.take 300)]).length (slc (fa18 19))]) rfl (k_pt 0 (cs := #[Nx (c.epoch), Nx (c.next + 1), .string (c.state), .slice (sla (fa18 19)) (([] ++ c.recs) ++ [str (o.body.take 300)]).length (slc (fa18 19))]) (vs := [Nx (c.epoch), Nx (c.next + 1), .string (c.state), .slice (sla (fa18 19)) (([] ++ c.recs) ++ [str (o.body.take 300)]).length (slc (fa18 19))]) rfl rfl) rfl, trivial⟩ rfl ?_
   intro w hw
   exact ⟨_, _, rfl, st_mask [false, false, false, true, false] rfl hw⟩
  ·
   exact absurd (by omega) hc5
set_option maxHeartbeats 4000000 in
theorem with_2 (β : Base) (w : World) (hw : St β [] w) (c : KC) (ca : Option Addr) (cc : Nat) (cl : c.recs.length ≤ cc) (cm : cc ≤ 9223372036854775807) (ce : Elems StrR β.heap ca c.recs) (hcn : c.epoch ≤ 4611686018427387904) (o : KOp) (oa : Option Addr) (oc : Nat) (ol : o.body.length ≤ oc) (om : oc ≤ 9223372036854775807) (oe : Elems U8R β.heap oa o.body) (hk : o.kind.toNat % 5 = 2) : Calls Try.prog 37 #[.agg #[Nx c.epoch, Nx c.next, .string c.state, .slice ca c.recs.length cc], .agg #[Bx o.kind, Bx o.power, .slice oa o.body.length oc]] w fun r w' => r = .returned (.agg #[Nx (c.epoch + 1), Nx c.next, .string (str (o.body.take 300)), .slice none 0 0]) ∧ St β [] w' := by
 refine enter (n := 37) Try.func37 rfl Try.ntmps37 rfl ?_ hw
 refine c_seq ?_
 refine c_region ?_
 refine l_mv rfl rfl rfl (m_box (v := .agg #[Nx (c.epoch), Nx (c.next), .string (c.state), .slice ca (c.recs.length) (cc)]) rfl) ?_
 rintro _ _ ⟨b1, rfl, rfl⟩
 refine l_mv rfl rfl rfl (m_box (v := .agg #[Bx (o.kind), Bx (o.power), .slice oa (o.body.length) (oc)]) rfl) ?_
 rintro _ _ ⟨b2, rfl, rfl⟩
 refine l_mv rfl rfl rfl (m_alloc tf99) ?_
 rintro _ _ ⟨b3, rfl, rfl⟩
 refine l_nil ?_
 refine f_then ?_
 refine c_seq ?_
 refine c_seq ?_
 refine c_region ?_
 refine l_val (v := .pointer (some ⟨b2, 0, none⟩)) rfl rfl rfl (e_fieldPt (b := b2) (o := 0) rfl tf85) ?_
 refine l_val (v := Bx (o.kind)) rfl rfl rfl (e_load1 tf13 (v := Bx (o.kind)) rfl (k_pt 1 (cs := #[Bx (o.kind), Bx (o.power), .slice oa (o.body.length) (oc)]) (vs := [Bx (o.kind)]) rfl rfl)) ?_
 refine l_val (v := .int .u8 (((o.kind.toNat % 5 : Nat)) : Int)) rfl rfl rfl (e_rem (a := ((o.kind).toNat : Int)) (b := ((5 : Nat) : Int)) rfl rfl (by decide) (nat_tmod _ _)) ?_
 refine l_nil ?_
 refine f_then ?_
 refine c_block ?_
 refine c_seq ?_
 refine c_seq ?_
 refine c_region ?_
 refine l_val (v := .bool (decide (((o.kind.toNat % 5 : Nat) : Int) = (0 : Int)))) rfl rfl rfl (e_eql (a := ((o.kind.toNat % 5 : Nat) : Int)) (b := (0 : Int)) rfl rfl) ?_
 refine l_val (v := .bool (decide (((o.kind.toNat % 5 : Nat) : Int) = (0 : Int)))) rfl rfl rfl (e_assign) ?_
 refine l_nil ?_
 refine f_then ?_
 refine c_if (((o.kind.toNat % 5 : Nat) : Int) = (0 : Int)) rfl (fun hc4 => ?_) (fun hc4 => ?_)
 ·
  exact absurd hc4 (by omega)
 ·
  refine c_region ?_
  refine l_val (v := .bool (decide (((o.kind.toNat % 5 : Nat) : Int) = (1 : Int)))) rfl rfl rfl (e_eql (a := ((o.kind.toNat % 5 : Nat) : Int)) (b := (1 : Int)) rfl rfl) ?_
  refine l_val (v := .bool (decide (((o.kind.toNat % 5 : Nat) : Int) = (1 : Int)))) rfl rfl rfl (e_assign) ?_
  refine l_nil ?_
  refine f_then ?_
  refine c_if (((o.kind.toNat % 5 : Nat) : Int) = (1 : Int)) rfl (fun hc5 => ?_) (fun hc5 => ?_)
  ·
   exact absurd hc5 (by omega)
  ·
   refine c_seq ?_
   refine c_region ?_
   refine l_val (v := .bool (decide (((o.kind.toNat % 5 : Nat) : Int) = (2 : Int)))) rfl rfl rfl (e_eql (a := ((o.kind.toNat % 5 : Nat) : Int)) (b := (2 : Int)) rfl rfl) ?_
   refine l_val (v := .bool (decide (((o.kind.toNat % 5 : Nat) : Int) = (2 : Int)))) rfl rfl rfl (e_assign) ?_
   refine l_nil ?_
   refine f_then ?_
   refine c_if (((o.kind.toNat % 5 : Nat) : Int) = (2 : Int)) rfl (fun hc6 => ?_) (fun hc6 => ?_)
   ·
    refine c_any [⟨[], [], [0], [27], fun f => f 27 = .agg #[Bx (o.kind), Bx (o.power), .slice oa (o.body.length) (oc)]⟩, ⟨[0], [0], [], [28], fun f => f 28 = .slice oa ((o.body.take 300).length) (oc)⟩, ⟨[0, 1], [1], [], [29], fun f => f 29 = .string (str (o.body.take 300))⟩, ⟨[], [], [1], [30], fun f => f 30 = .pointer (some ⟨b1, 0, none⟩)⟩, ⟨[3], [3], [], [31], fun f => f 31 = Nx (c.epoch)⟩, ⟨[3, 4], [4], [], [32], fun f => f 32 = Nx (c.epoch + 1)⟩, ⟨[0, 1, 2, 3, 4], [], [1], [33], fun f => f 33 = .pointer (some ⟨b1, 2, none⟩)⟩, ⟨[0, 1, 2, 3, 4, 6], [6, 2], [], [], fun _ => True⟩, ⟨[0, 1, 2, 3, 4, 6, 7], [], [1], [34], fun f => f 34 = .pointer (some ⟨b1, 3, none⟩)⟩, ⟨[0, 1, 2, 3, 4, 6, 7, 8], [8], [], [], fun _ => True⟩, ⟨[0, 1, 2, 3, 4, 5, 6, 7, 8, 9], [], [1], [35], fun f => f 35 = .pointer (some ⟨b1, 0, none⟩)⟩, ⟨[0, 1, 2, 3, 4, 5, 6, 7, 8, 9, 10], [10, 5], [], [], fun _ => True⟩] [⟨none, none, [], [], fun _ => pt b3 (.cells #[.int .i64 (0), .int .i64 (0), .string ⟨#[]⟩, .slice none 0 0] 27)⟩, ⟨none, none, [0], [], fun _ => pt b2 (.cells #[Bx (o.kind), Bx (o.power), .slice oa (o.body.length) (oc)] 47)⟩, ⟨none, (some 7), [4, 7], [], fun _ => pt b1 (.cells #[Nx (c.epoch), Nx (c.next), .string (c.state), .slice ca (c.recs.length) (cc)] 27)⟩, ⟨(some 7), (some 9), [9], [], fun _ => pt b1 (.cells #[Nx (c.epoch), Nx (c.next), .string (str (o.body.take 300)), .slice ca (c.recs.length) (cc)] 27)⟩, ⟨(some 9), (some 11), [11], [], fun _ => pt b1 (.cells #[Nx (c.epoch), Nx (c.next), .string (str (o.body.take 300)), .slice none 0 0] 27)⟩, ⟨(some 11), none, [], [], fun _ => pt b1 (.cells #[Nx (c.epoch + 1), Nx (c.next), .string (str (o.body.take 300)), .slice none 0 0] 27)⟩] [(3, .pointer (some ⟨b2, 0, none⟩)), (2, .pointer (some ⟨b1, 0, none⟩)), (4, .pointer (some ⟨b3, 0, none⟩))] [1, 2] [] (by kernel_rfl) (by kernel_rfl) (by kernel_rfl) (by kernel_rfl) rfl ⟨rfl, rfl, rfl, trivial⟩ ⟨?_, ?_, ?_, ?_, ?_, ?_, ?_, ?_, ?_, ?_, ?_, ?_, trivial⟩ ?_
    ·rintro f M - ⟨i0, -⟩
     have hs3 : f 3 = .pointer (some ⟨b2, 0, none⟩) := i0
     refine ob_start (L' := pt b2 (.cells #[Bx (o.kind), Bx (o.power), .slice oa (o.body.length) (oc)] 47) :: M) (by rfl) (up_cons rfl hs3) ?_
     refine l_val (v := .agg #[Bx (o.kind), Bx (o.power), .slice oa (o.body.length) (oc)]) rfl rfl rfl (e_load tf87 (cs := [Bx (o.kind), Bx (o.power), .slice oa (o.body.length) (oc)]) rfl (k_pt 0 (cs := #[Bx (o.kind), Bx (o.power), .slice oa (o.body.length) (oc)]) (vs := [Bx (o.kind), Bx (o.power), .slice oa (o.body.length) (oc)]) rfl rfl) rfl) ?_
     refine l_nil ?_
     exact f_owes_d (up_cons rfl hs3) rfl (perm_front 0 rfl)
    ·rintro f M ⟨k0, -⟩ -
     have hs27 : f 27 = .agg #[Bx (o.kind), Bx (o.power), .slice oa (o.body.length) (oc)] := k0
     refine ob_start (L' := M) (by rfl) (up_cons rfl hs27) ?_
     refine l_call rfl rfl rfl (cl_value (fst := []) (cap := []) (vs := [.agg #[Bx (o.kind), Bx (o.power), .slice oa (o.body.length) (oc)]]) (all := [.agg #[Bx (o.kind), Bx (o.power), .slice oa (o.body.length) (oc)]]) tf100 rfl rfl rfl) ?_
     intro w hw
     obtain ⟨β1, sb, kn, hw1, back⟩ := St.frame_all hw
     refine (body_ok β1 w hw1 (⟨o.kind, o.power, o.body⟩ : KOp) oa oc (by omega) (by omega) (Elems.mono _ _ _ _ _ sb oe)).mono ?_
     rintro e w' ⟨rfl, hw'⟩
     refine ⟨_, rfl, _, back _ _ hw', ?_⟩
     clear hw hw1 hw' back kn sb
     refine l_nil ?_
     exact f_owes_d (up_cons rfl hs27) rfl (List.Perm.refl _)
    ·rintro f M ⟨k0, -⟩ -
     have hs28 : f 28 = .slice oa ((o.body.take 300).length) (oc) := k0
     refine ob_start (L' := M) (by rfl) (up_cons rfl hs28) ?_
     refine l_val (v := .string (str (o.body.take 300))) rfl rfl rfl (e_bytesStr (a := oa) (bs := (o.body.take 300)) (m := (o.body.take 300).length) (c := oc) rfl (by first | rfl | simp) tf11 tf8 tf7 (Knows.of_base (Elems.mono _ _ _) (Elems.take 300 oe))) ?_
     refine l_nil ?_
     exact f_owes_d (up_cons rfl hs28) rfl (List.Perm.refl _)
    ·rintro f M - ⟨i0, -⟩
     have hs2 : f 2 = .pointer (some ⟨b1, 0, none⟩) := i0
     refine ob_start (L' := M) (by rfl) (up_cons rfl hs2) ?_
     refine l_val (v := .pointer (some ⟨b1, 0, none⟩)) rfl rfl rfl (e_fieldPt (b := b1) (o := 0) rfl tf89) ?_
     refine l_nil ?_
     exact f_owes_d (up_cons rfl hs2) rfl (List.Perm.refl _)
    ·rintro f M ⟨k0, -⟩ -
     have hs30 : f 30 = .pointer (some ⟨b1, 0, none⟩) := k0
     refine ob_start (L' := pt b1 (.cells #[Nx (c.epoch), Nx (c.next), .string (c.state), .slice ca (c.recs.length) (cc)] 27) :: M) (by rfl) (up_cons rfl hs30) ?_
     refine l_val (v := Nx (c.epoch)) rfl rfl rfl (e_load1 tf25 (v := Nx (c.epoch)) rfl (k_pt 0 (cs := #[Nx (c.epoch), Nx (c.next), .string (c.state), .slice ca (c.recs.length) (cc)]) (vs := [Nx (c.epoch)]) rfl rfl)) ?_
     refine l_nil ?_
     exact f_owes_d (up_cons rfl hs30) rfl (perm_front 0 rfl)
    ·rintro f M ⟨k0, -⟩ -
     have hs31 : f 31 = Nx (c.epoch) := k0
     refine ob_start (L' := M) (by rfl) (up_cons rfl hs31) ?_
     refine l_val (v := Nx (c.epoch + 1)) rfl rfl rfl (e_add (a := ((c.epoch : Nat) : Int)) (b := (1 : Int)) rfl rfl (i64n (by omega) (by omega))) ?_
     refine l_nil ?_
     exact f_owes_d (up_cons rfl hs31) rfl (List.Perm.refl _)
    ·rintro f M - ⟨i0, -⟩
     have hs2 : f 2 = .pointer (some ⟨b1, 0, none⟩) := i0
     refine ob_start (L' := M) (by rfl) (up_cons rfl hs2) ?_
     refine l_val (v := .pointer (some ⟨b1, 2, none⟩)) rfl rfl rfl (e_fieldPt (b := b1) (o := 0) rfl tf93) ?_
     refine l_nil ?_
     exact f_owes_d (up_cons rfl hs2) rfl (List.Perm.refl _)
    ·rintro f M ⟨k0, k1, -⟩ -
     have hs33 : f 33 = .pointer (some ⟨b1, 2, none⟩) := k0
     have hs29 : f 29 = .string (str (o.body.take 300)) := k1
     refine ob_start (L' := pt b1 (.cells #[Nx (c.epoch), Nx (c.next), .string (c.state), .slice ca (c.recs.length) (cc)] 27) :: M) (by rfl) (up_cons (up_cons rfl hs33) hs29) ?_
     refine l_mu rfl rfl (m_store 0 tf6 (b := b1) (o := 2) (T := 27) (cs := #[Nx (c.epoch), Nx (c.next), .string (c.state), .slice ca (c.recs.length) (cc)]) (cs' := #[Nx (c.epoch), Nx (c.next), .string (str (o.body.take 300)), .slice ca (c.recs.length) (cc)]) (v := .string (str (o.body.take 300))) rfl rfl rfl rfl rfl rfl rfl) ?_
     refine l_nil ?_
     exact f_owes_n (up_cons (up_cons rfl hs33) hs29) trivial (perm_front 0 rfl)
    ·rintro f M - ⟨i0, -⟩
     have hs2 : f 2 = .pointer (some ⟨b1, 0, none⟩) := i0
     refine ob_start (L' := M) (by rfl) (up_cons rfl hs2) ?_
     refine l_val (v := .pointer (some ⟨b1, 3, none⟩)) rfl rfl rfl (e_fieldPt (b := b1) (o := 0) rfl tf96) ?_
     refine l_nil ?_
     exact f_owes_d (up_cons rfl hs2) rfl (List.Perm.refl _)
    ·rintro f M ⟨k0, -⟩ -
     have hs34 : f 34 = .pointer (some ⟨b1, 3, none⟩) := k0
     refine ob_start (L' := pt b1 (.cells #[Nx (c.epoch), Nx (c.next), .string (str (o.body.take 300)), .slice ca (c.recs.length) (cc)] 27) :: M) (by rfl) (up_cons rfl hs34) ?_
     refine l_mu rfl rfl (m_store 0 tf97 (b := b1) (o := 3) (T := 27) (cs := #[Nx (c.epoch), Nx (c.next), .string (str (o.body.take 300)), .slice ca (c.recs.length) (cc)]) (cs' := #[Nx (c.epoch), Nx (c.next), .string (str (o.body.take 300)), .slice none 0 0]) (v := .slice none 0 0) rfl rfl rfl rfl rfl rfl rfl) ?_
     refine l_nil ?_
     exact f_owes_n (up_cons rfl hs34) trivial (perm_front 0 rfl)
    ·rintro f M - ⟨i0, -⟩
     have hs2 : f 2 = .pointer (some ⟨b1, 0, none⟩) := i0
     refine ob_start (L' := M) (by rfl) (up_cons rfl hs2) ?_
     refine l_val (v := .pointer (some ⟨b1, 0, none⟩)) rfl rfl rfl (e_fieldPt (b := b1) (o := 0) rfl tf89) ?_
     refine l_nil ?_
     exact f_owes_d (up_cons rfl hs2) rfl (List.Perm.refl _)
    ·rintro f M ⟨k0, k1, -⟩ -
     have hs35 : f 35 = .pointer (some ⟨b1, 0, none⟩) := k0
     have hs32 : f 32 = Nx (c.epoch + 1) := k1
     refine ob_start (L' := pt b1 (.cells #[Nx (c.epoch), Nx (c.next), .string (str (o.body.take 300)), .slice none 0 0] 27) :: M) (by rfl) (up_cons (up_cons rfl hs35) hs32) ?_
     refine l_mu rfl rfl (m_store 0 tf25 (b := b1) (o := 0) (T := 27) (cs := #[Nx (c.epoch), Nx (c.next), .string (str (o.body.take 300)), .slice none 0 0]) (cs' := #[Nx (c.epoch + 1), Nx (c.next), .string (str (o.body.take 300)), .slice none 0 0]) (v := Nx (c.epoch + 1)) rfl rfl rfl rfl rfl rfl rfl) ?_
     refine l_nil ?_
     exact f_owes_n (up_cons (up_cons rfl hs35) hs32) trivial (perm_front 0 rfl)
    rintro fa7 ⟨-, -, -, -, -, -, -, -, -, -, -, -, -⟩ ⟨j0, j1, -⟩
    refine f_re (L' := [pt b3 (.cells #[.int .i64 (0), .int .i64 (0), .string ⟨#[]⟩, .slice none 0 0] 27), pt b2 (.cells #[Bx (o.kind), Bx (o.power), .slice oa (o.body.length) (oc)] 47), pt b1 (.cells #[Nx (c.epoch + 1), Nx (c.next), .string (str (o.body.take 300)), .slice none 0 0] 27)]) (by rfl) ?_
    refine f_rebase (d := 2) (v := .pointer (some ⟨b1, 0, none⟩)) j0 ?_
    refine f_rebase (d := 4) (v := .pointer (some ⟨b3, 0, none⟩)) j1 ?_
    refine f_block ?_
    refine f_then ?_
    refine c_seq ?_
    refine c_region ?_
    refine l_val (v := .agg #[Nx (c.epoch + 1), Nx (c.next), .string (str (o.body.take 300)), .slice none 0 0]) rfl rfl rfl (e_load tf101 (cs := [Nx (c.epoch + 1), Nx (c.next), .string (str (o.body.take 300)), .slice none 0 0]) rfl (k_pt 2 (cs := #[Nx (c.epoch + 1), Nx (c.next), .string (str (o.body.take 300)), .slice none 0 0]) (vs := [Nx (c.epoch + 1), Nx (c.next), .string (str (o.body.take 300)), .slice none 0 0]) rfl rfl) rfl) ?_
    refine l_mu rfl rfl (m_store 0 tf101 (b := b3) (o := 0) (T := 27) (cs := #[.int .i64 (0), .int .i64 (0), .string ⟨#[]⟩, .slice none 0 0]) (cs' := #[Nx (c.epoch + 1), Nx (c.next), .string (str (o.body.take 300)), .slice none 0 0]) (v := .agg #[Nx (c.epoch + 1), Nx (c.next), .string (str (o.body.take 300)), .slice none 0 0]) rfl rfl rfl rfl rfl rfl rfl) ?_
    refine l_nil ?_
    refine f_then ?_
    refine c_ret ?_
    refine retG (l := [.cell 4 27]) (m := [.agg #[Nx (c.epoch + 1), Nx (c.next), .string (str (o.body.take 300)), .slice none 0 0]]) (v := .agg #[Nx (c.epoch + 1), Nx (c.next), .string (str (o.body.take 300)), .slice none 0 0]) Try.results37 ⟨rd_cell tf101 (cs := [Nx (c.epoch + 1), Nx (c.next), .string (str (o.body.take 300)), .slice none 0 0]) rfl (k_pt 0 (cs := #[Nx (c.epoch + 1), Nx (c.next), .string (str (o.body.take 300)), .slice none 0 0]) (vs := [Nx (c.epoch + 1), Nx (c.next), .string (str (o.body.take 300)), .slice none 0 0]) rfl rfl) rfl, trivial⟩ rfl ?_
    intro w hw
    exact ⟨rfl, st_mask [false, false, false] rfl hw⟩
   ·
    exact absurd (by omega) hc6
theorem with_app (β : Base) (w : World) (hw : St β [] w) (c : KC) (ca : Option Addr) (cc : Nat) (cl : c.recs.length ≤ cc) (cm : cc ≤ 9223372036854775807) (ce : Elems StrR β.heap ca c.recs) (hn : c.recs.length ≤ 1048576) (hcn : c.next ≤ 4611686018427387904) (o : KOp) (oa : Option Addr) (oc : Nat) (ol : o.body.length ≤ oc) (om : oc ≤ 9223372036854775807) (oe : Elems U8R β.heap oa o.body) (hk : o.kind.toNat % 5 = 0 ∨ o.kind.toNat % 5 = 1) : Calls Try.prog 37 #[.agg #[Nx c.epoch, Nx c.next, .string c.state, .slice ca c.recs.length cc], .agg #[Bx o.kind, Bx o.power, .slice oa o.body.length oc]] w fun r w' => ∃ p c', r = .returned (.agg #[Nx c.epoch, Nx (c.next + 1), .string c.state, .slice p (c.recs ++ [str (o.body.take 300)]).length c']) ∧ St β [row (.slice p (c.recs ++ [str (o.body.take 300)]).length c') 9 1 (c.recs ++ [str (o.body.take 300)]).length ((c.recs ++ [str (o.body.take 300)]).map (fun s : ByteArray => Value.string s))] w' := by
 rcases hk with hk | hk
 ·exact with_0 β w hw c ca cc cl cm ce hn hcn o oa oc ol om oe hk
 ·exact with_1 β w hw c ca cc cl cm ce hn hcn o oa oc ol om oe hk
theorem does_ap_ok (β : Base) (w : World) (J S : Nat) (k : KS) (i : KI) (hfit : k.fits 524288) (hnl : i.next < 4611686018427387904) (hsz : i.size ≤ 200000) (hrl : i.recs.length ≤ 1048575) (hel : i.epoch < 4611686018427387903) (o : KOp) (oa : Option Addr) (oc : Nat) (ol : o.body.length ≤ oc) (om : oc ≤ 9223372036854775807) (oe : Elems U8R β.heap oa o.body) (hk : o.kind.toNat % 5 ≠ 2) (hc : apOk k i (o.body.take 300)) (hw : St β [jourR J S i false, storeR S k] w) : Calls Try.prog 36 #[.pointer (some ⟨J, 0, none⟩), .agg #[Bx o.kind, Bx o.power, .slice oa o.body.length oc]] w fun r w' => r = .returned (.int .i64 0) ∧ St β [jourR J S (apI i (o.body.take 300)) false, storeR S (apS k i (o.body.take 300))] w' := by
 refine enter (n := 23) Try.func36 rfl Try.ntmps36 rfl ?_ hw
 refine c_seq ?_
 refine c_region ?_
 refine l_mv rfl rfl rfl (m_box (v := .agg #[Bx (o.kind), Bx (o.power), .slice oa (o.body.length) (oc)]) rfl) ?_
 rintro _ _ ⟨b1, rfl, rfl⟩
 refine l_val (v := .int .i64 (0)) rfl rfl rfl (e_assign) ?_
 refine l_nil ?_
 refine f_then ?_
 refine c_seq ?_
 refine c_seq ?_
 refine c_region ?_
 refine l_val (v := .pointer (some ⟨b1, 0, none⟩)) rfl rfl rfl (e_fieldPt (b := b1) (o := 0) rfl tf85) ?_
 refine l_val (v := Bx (o.kind)) rfl rfl rfl (e_load1 tf13 (v := Bx (o.kind)) rfl (k_pt 0 (cs := #[Bx (o.kind), Bx (o.power), .slice oa (o.body.length) (oc)]) (vs := [Bx (o.kind)]) rfl rfl)) ?_
 refine l_val (v := .int .u8 (((o.kind.toNat % 5 : Nat)) : Int)) rfl rfl rfl (e_rem (a := ((o.kind).toNat : Int)) (b := ((5 : Nat) : Int)) rfl rfl (by decide) (nat_tmod _ _)) ?_
 refine l_val (v := .bool (decide (((o.kind.toNat % 5 : Nat) : Int) = (2 : Int)))) rfl rfl rfl (e_eql (a := ((o.kind.toNat % 5 : Nat) : Int)) (b := (2 : Int)) rfl rfl) ?_
 refine l_nil ?_
 refine f_then ?_
 refine c_if (((o.kind.toNat % 5 : Nat) : Int) = (2 : Int)) rfl (fun hc2 => ?_) (fun hc2 => ?_)
 ·
  exact absurd hc2 (by omega)
 ·
  refine c_skip ?_
  refine f_then ?_
  refine c_seq ?_
  refine c_region ?_
  refine l_val (v := .pointer (some ⟨J, 0, none⟩)) rfl rfl rfl (e_move) ?_
  refine l_val (v := .agg #[Bx (o.kind), Bx (o.power), .slice oa (o.body.length) (oc)]) rfl rfl rfl (e_load tf87 (cs := [Bx (o.kind), Bx (o.power), .slice oa (o.body.length) (oc)]) rfl (k_pt 0 (cs := #[Bx (o.kind), Bx (o.power), .slice oa (o.body.length) (oc)]) (vs := [Bx (o.kind), Bx (o.power), .slice oa (o.body.length) (oc)]) rfl rfl) rfl) ?_
  refine l_call rfl rfl rfl (cl_value (fst := []) (cap := []) (vs := [.agg #[Bx (o.kind), Bx (o.power), .slice oa (o.body.length) (oc)]]) (all := [.agg #[Bx (o.kind), Bx (o.power), .slice oa (o.body.length) (oc)]]) tf100 rfl rfl rfl) ?_
  intro w hw
  obtain ⟨β1, sb, kn, hw1, back⟩ := St.frame_all hw
  refine (body_ok β1 w hw1 (⟨o.kind, o.power, o.body⟩ : KOp) oa oc (by omega) (by omega) (Elems.mono _ _ _ _ _ sb oe)).mono ?_
  rintro e w' ⟨rfl, hw'⟩
  refine ⟨_, rfl, _, back _ _ hw', ?_⟩
  clear hw hw1 hw' back kn sb
  refine l_call rfl rfl rfl (cl_value (fst := []) (cap := []) (vs := [.pointer (some ⟨J, 0, none⟩), .slice oa ((o.body.take 300).length) (oc)]) (all := [.pointer (some ⟨J, 0, none⟩), .slice oa ((o.body.take 300).length) (oc)]) tf102 rfl rfl rfl) ?_
  intro w hw
  replace hw := hw.perm (L' := _ :: _ :: _ :: []) (by exact (((perm_front 0 rfl).trans (perm_front 2 rfl)).trans (perm_front 2 rfl)))
  obtain ⟨β1, sb, kn, hw1, back⟩ := St.frame (L := [_, _]) (M := _ :: []) hw
  refine (append_ok β1 w J S k i (o.body.take 300) (by simp; omega) hfit (by omega) (by omega) (by omega) (by simp; omega) (by omega) hc _ (Sl.mono _ _ _ _ _ sb (⟨⟨_, _, rfl, by simp only [List.length_take]; omega, by omega, Elems.take 300 oe⟩⟩ : Sl U8R _ _ (o.body.take 300))) hw1).mono ?_
  rintro e w' ⟨rfl, hw'⟩
  refine ⟨_, rfl, _, back _ _ hw', ?_⟩
  clear hw hw1 hw' back kn sb
  refine l_val (v := .tuple #[Nx (i.next), .int .i64 (0)]) rfl rfl rfl (e_move) ?_
  refine l_val (v := Nx (i.next)) rfl rfl rfl (e_extract (vs := #[Nx (i.next), .int .i64 (0)]) rfl rfl) ?_
  refine l_val (v := .int .i64 (0)) rfl rfl rfl (e_extract (vs := #[Nx (i.next), .int .i64 (0)]) rfl rfl) ?_
  refine l_val (v := Nx (i.next)) rfl rfl rfl (e_assign) ?_
  refine l_val (v := .int .i64 (0)) rfl rfl rfl (e_assign) ?_
  refine l_nil ?_
  refine f_then ?_
  refine c_seq ?_
  refine c_region ?_
  refine l_val (v := .int .i64 (0)) rfl rfl rfl (e_move) ?_
  refine l_val (v := .int .i64 (0)) rfl rfl rfl (e_assign) ?_
  refine l_nil ?_
  refine f_then ?_
  refine c_ret ?_
  refine ret1 Try.results36 (v := .int .i64 (0)) rfl ?_
  intro w hw
  exact ⟨rfl, st_mask [true, true, false] rfl (hw.perm (L' := [jourR J S (apI i (o.body.take 300)) false, storeR S (apS k i (o.body.take 300)), pt b1 (.cells #[Bx (o.kind), Bx (o.power), .slice oa (o.body.length) (oc)] 47)]) (by exact (((perm_front 2 rfl).trans (perm_front 2 rfl)).trans (perm_front 2 rfl))))⟩
theorem does_ck_ok (β : Base) (w : World) (J S : Nat) (k : KS) (i : KI) (hfit : k.fits 524288) (hnl : i.next < 4611686018427387904) (hsz : i.size ≤ 200000) (hrl : i.recs.length ≤ 1048575) (hel : i.epoch < 4611686018427387903) (o : KOp) (oa : Option Addr) (oc : Nat) (ol : o.body.length ≤ oc) (om : oc ≤ 9223372036854775807) (oe : Elems U8R β.heap oa o.body) (hk : o.kind.toNat % 5 = 2) (hc : ckOk k (i.epoch + 1) i.next (o.body.take 300)) (hw : St β [jourR J S i false, storeR S k] w) : Calls Try.prog 36 #[.pointer (some ⟨J, 0, none⟩), .agg #[Bx o.kind, Bx o.power, .slice oa o.body.length oc]] w fun r w' => r = .returned (.int .i64 0) ∧ St β [jourR J S (ckI i (o.body.take 300)) false, storeR S (ckS k (i.epoch + 1) i.next (o.body.take 300))] w' := by
 refine enter (n := 23) Try.func36 rfl Try.ntmps36 rfl ?_ hw
 refine c_seq ?_
 refine c_region ?_
 refine l_mv rfl rfl rfl (m_box (v := .agg #[Bx (o.kind), Bx (o.power), .slice oa (o.body.length) (oc)]) rfl) ?_
 rintro _ _ ⟨b1, rfl, rfl⟩
 refine l_val (v := .int .i64 (0)) rfl rfl rfl (e_assign) ?_
 refine l_nil ?_
 refine f_then ?_
 refine c_seq ?_
 refine c_seq ?_
 refine c_region ?_
 refine l_val (v := .pointer (some ⟨b1, 0, none⟩)) rfl rfl rfl (e_fieldPt (b := b1) (o := 0) rfl tf85) ?_
 refine l_val (v := Bx (o.kind)) rfl rfl rfl (e_load1 tf13 (v := Bx (o.kind)) rfl (k_pt 0 (cs := #[Bx (o.kind), Bx (o.power), .slice oa (o.body.length) (oc)]) (vs := [Bx (o.kind)]) rfl rfl)) ?_
 refine l_val (v := .int .u8 (((o.kind.toNat % 5 : Nat)) : Int)) rfl rfl rfl (e_rem (a := ((o.kind).toNat : Int)) (b := ((5 : Nat) : Int)) rfl rfl (by decide) (nat_tmod _ _)) ?_
 refine l_val (v := .bool (decide (((o.kind.toNat % 5 : Nat) : Int) = (2 : Int)))) rfl rfl rfl (e_eql (a := ((o.kind.toNat % 5 : Nat) : Int)) (b := (2 : Int)) rfl rfl) ?_
 refine l_nil ?_
 refine f_then ?_
 refine c_if (((o.kind.toNat % 5 : Nat) : Int) = (2 : Int)) rfl (fun hc2 => ?_) (fun hc2 => ?_)
 ·
  refine c_seq ?_
  refine c_region ?_
  refine l_val (v := .pointer (some ⟨J, 0, none⟩)) rfl rfl rfl (e_move) ?_
  refine l_val (v := .agg #[Bx (o.kind), Bx (o.power), .slice oa (o.body.length) (oc)]) rfl rfl rfl (e_load tf87 (cs := [Bx (o.kind), Bx (o.power), .slice oa (o.body.length) (oc)]) rfl (k_pt 0 (cs := #[Bx (o.kind), Bx (o.power), .slice oa (o.body.length) (oc)]) (vs := [Bx (o.kind), Bx (o.power), .slice oa (o.body.length) (oc)]) rfl rfl) rfl) ?_
  refine l_call rfl rfl rfl (cl_value (fst := []) (cap := []) (vs := [.agg #[Bx (o.kind), Bx (o.power), .slice oa (o.body.length) (oc)]]) (all := [.agg #[Bx (o.kind), Bx (o.power), .slice oa (o.body.length) (oc)]]) tf100 rfl rfl rfl) ?_
  intro w hw
  obtain ⟨β1, sb, kn, hw1, back⟩ := St.frame_all hw
  refine (body_ok β1 w hw1 (⟨o.kind, o.power, o.body⟩ : KOp) oa oc (by omega) (by omega) (Elems.mono _ _ _ _ _ sb oe)).mono ?_
  rintro e w' ⟨rfl, hw'⟩
  refine ⟨_, rfl, _, back _ _ hw', ?_⟩
  clear hw hw1 hw' back kn sb
  refine l_call rfl rfl rfl (cl_value (fst := []) (cap := []) (vs := [.pointer (some ⟨J, 0, none⟩), .slice oa ((o.body.take 300).length) (oc)]) (all := [.pointer (some ⟨J, 0, none⟩), .slice oa ((o.body.take 300).length) (oc)]) tf103 rfl rfl rfl) ?_
  intro w hw
  replace hw := hw.perm (L' := _ :: _ :: _ :: []) (by exact (((perm_front 0 rfl).trans (perm_front 2 rfl)).trans (perm_front 2 rfl)))
  obtain ⟨β1, sb, kn, hw1, back⟩ := St.frame (L := [_, _]) (M := _ :: []) hw
  refine (checkp_ok β1 w J S k i (o.body.take 300) (by simp; omega) hfit (by omega) hc _ (Sl.mono _ _ _ _ _ sb (⟨⟨_, _, rfl, by simp only [List.length_take]; omega, by omega, Elems.take 300 oe⟩⟩ : Sl U8R _ _ (o.body.take 300))) hw1).mono ?_
  rintro e w' ⟨rfl, hw'⟩
  refine ⟨_, rfl, _, back _ _ hw', ?_⟩
  clear hw hw1 hw' back kn sb
  refine l_val (v := .int .i64 (0)) rfl rfl rfl (e_assign) ?_
  refine l_nil ?_
  refine f_then ?_
  refine c_ret ?_
  refine f_then_ret ?_
  refine ret1 Try.results36 (v := .int .i64 (0)) rfl ?_
  intro w hw
  exact ⟨rfl, st_mask [true, true, false] rfl (hw.perm (L' := [jourR J S (ckI i (o.body.take 300)) false, storeR S (ckS k (i.epoch + 1) i.next (o.body.take 300)), pt b1 (.cells #[Bx (o.kind), Bx (o.power), .slice oa (o.body.length) (oc)] 47)]) (by exact (((perm_front 2 rfl).trans (perm_front 2 rfl)).trans (perm_front 2 rfl))))⟩
 ·
  exact absurd (by omega) hc2
theorem does_ap_no (β : Base) (w : World) (J S : Nat) (k : KS) (i : KI) (hfit : k.fits 524288) (hnl : i.next < 4611686018427387904) (hsz : i.size ≤ 200000) (hrl : i.recs.length ≤ 1048575) (hel : i.epoch < 4611686018427387903) (o : KOp) (oa : Option Addr) (oc : Nat) (ol : o.body.length ≤ oc) (om : oc ≤ 9223372036854775807) (oe : Elems U8R β.heap oa o.body) (hk : o.kind.toNat % 5 ≠ 2) (hc : ¬ apOk k i (o.body.take 300)) (hw : St β [jourR J S i false, storeR S k] w) : Calls Try.prog 36 #[.pointer (some ⟨J, 0, none⟩), .agg #[Bx o.kind, Bx o.power, .slice oa o.body.length oc]] w fun r w' => r = .returned (.int .i64 310) ∧ St β [jourR J S i true, storeR S (apS k i (o.body.take 300))] w' := by
 refine enter (n := 23) Try.func36 rfl Try.ntmps36 rfl ?_ hw
 refine c_seq ?_
 refine c_region ?_
 refine l_mv rfl rfl rfl (m_box (v := .agg #[Bx (o.kind), Bx (o.power), .slice oa (o.body.length) (oc)]) rfl) ?_
 rintro _ _ ⟨b1, rfl, rfl⟩
 refine l_val (v := .int .i64 (0)) rfl rfl rfl (e_assign) ?_
 refine l_nil ?_
 refine f_then ?_
 refine c_seq ?_
 refine c_seq ?_
 refine c_region ?_
 refine l_val (v := .pointer (some ⟨b1, 0, none⟩)) rfl rfl rfl (e_fieldPt (b := b1) (o := 0) rfl tf85) ?_
 refine l_val (v := Bx (o.kind)) rfl rfl rfl (e_load1 tf13 (v := Bx (o.kind)) rfl (k_pt 0 (cs := #[Bx (o.kind), Bx (o.power), .slice oa (o.body.length) (oc)]) (vs := [Bx (o.kind)]) rfl rfl)) ?_
 refine l_val (v := .int .u8 (((o.kind.toNat % 5 : Nat)) : Int)) rfl rfl rfl (e_rem (a := ((o.kind).toNat : Int)) (b := ((5 : Nat) : Int)) rfl rfl (by decide) (nat_tmod _ _)) ?_
 refine l_val (v := .bool (decide (((o.kind.toNat % 5 : Nat) : Int) = (2 : Int)))) rfl rfl rfl (e_eql (a := ((o.kind.toNat % 5 : Nat) : Int)) (b := (2 : Int)) rfl rfl) ?_
 refine l_nil ?_
 refine f_then ?_
 refine c_if (((o.kind.toNat % 5 : Nat) : Int) = (2 : Int)) rfl (fun hc2 => ?_) (fun hc2 => ?_)
 ·
  exact absurd hc2 (by omega)
 ·
  refine c_skip ?_
  refine f_then ?_
  refine c_seq ?_
  refine c_region ?_
  refine l_val (v := .pointer (some ⟨J, 0, none⟩)) rfl rfl rfl (e_move) ?_
  refine l_val (v := .agg #[Bx (o.kind), Bx (o.power), .slice oa (o.body.length) (oc)]) rfl rfl rfl (e_load tf87 (cs := [Bx (o.kind), Bx (o.power), .slice oa (o.body.length) (oc)]) rfl (k_pt 0 (cs := #[Bx (o.kind), Bx (o.power), .slice oa (o.body.length) (oc)]) (vs := [Bx (o.kind), Bx (o.power), .slice oa (o.body.length) (oc)]) rfl rfl) rfl) ?_
  refine l_call rfl rfl rfl (cl_value (fst := []) (cap := []) (vs := [.agg #[Bx (o.kind), Bx (o.power), .slice oa (o.body.length) (oc)]]) (all := [.agg #[Bx (o.kind), Bx (o.power), .slice oa (o.body.length) (oc)]]) tf100 rfl rfl rfl) ?_
  intro w hw
  obtain ⟨β1, sb, kn, hw1, back⟩ := St.frame_all hw
  refine (body_ok β1 w hw1 (⟨o.kind, o.power, o.body⟩ : KOp) oa oc (by omega) (by omega) (Elems.mono _ _ _ _ _ sb oe)).mono ?_
  rintro e w' ⟨rfl, hw'⟩
  refine ⟨_, rfl, _, back _ _ hw', ?_⟩
  clear hw hw1 hw' back kn sb
  refine l_call rfl rfl rfl (cl_value (fst := []) (cap := []) (vs := [.pointer (some ⟨J, 0, none⟩), .slice oa ((o.body.take 300).length) (oc)]) (all := [.pointer (some ⟨J, 0, none⟩), .slice oa ((o.body.take 300).length) (oc)]) tf102 rfl rfl rfl) ?_
  intro w hw
  replace hw := hw.perm (L' := _ :: _ :: _ :: []) (by exact (((perm_front 0 rfl).trans (perm_front 2 rfl)).trans (perm_front 2 rfl)))
  obtain ⟨β1, sb, kn, hw1, back⟩ := St.frame (L := [_, _]) (M := _ :: []) hw
  refine (append_fail β1 w J S k i (o.body.take 300) (by simp; omega) hfit (by omega) (by omega) (by omega) (by simp; omega) (by omega) hc _ (Sl.mono _ _ _ _ _ sb (⟨⟨_, _, rfl, by simp only [List.length_take]; omega, by omega, Elems.take 300 oe⟩⟩ : Sl U8R _ _ (o.body.take 300))) hw1).mono ?_
  rintro e w' ⟨rfl, hw'⟩
  refine ⟨_, rfl, _, back _ _ hw', ?_⟩
  clear hw hw1 hw' back kn sb
  refine l_val (v := .tuple #[.int .i64 (0), .int .i64 (310)]) rfl rfl rfl (e_move) ?_
  refine l_val (v := .int .i64 (0)) rfl rfl rfl (e_extract (vs := #[.int .i64 (0), .int .i64 (310)]) rfl rfl) ?_
  refine l_val (v := .int .i64 (310)) rfl rfl rfl (e_extract (vs := #[.int .i64 (0), .int .i64 (310)]) rfl rfl) ?_
  refine l_val (v := .int .i64 (0)) rfl rfl rfl (e_assign) ?_
  refine l_val (v := .int .i64 (310)) rfl rfl rfl (e_assign) ?_
  refine l_nil ?_
  refine f_then ?_
  refine c_seq ?_
  refine c_region ?_
  refine l_val (v := .int .i64 (310)) rfl rfl rfl (e_move) ?_
  refine l_val (v := .int .i64 (310)) rfl rfl rfl (e_assign) ?_
  refine l_nil ?_
  refine f_then ?_
  refine c_ret ?_
  refine ret1 Try.results36 (v := .int .i64 (310)) rfl ?_
  intro w hw
  exact ⟨rfl, st_mask [true, true, false] rfl (hw.perm (L' := [jourR J S i true, storeR S (apS k i (o.body.take 300)), pt b1 (.cells #[Bx (o.kind), Bx (o.power), .slice oa (o.body.length) (oc)] 47)]) (by exact (((perm_front 2 rfl).trans (perm_front 2 rfl)).trans (perm_front 2 rfl))))⟩
theorem does_ck_no (β : Base) (w : World) (J S : Nat) (k : KS) (i : KI) (hfit : k.fits 524288) (hnl : i.next < 4611686018427387904) (hsz : i.size ≤ 200000) (hrl : i.recs.length ≤ 1048575) (hel : i.epoch < 4611686018427387903) (o : KOp) (oa : Option Addr) (oc : Nat) (ol : o.body.length ≤ oc) (om : oc ≤ 9223372036854775807) (oe : Elems U8R β.heap oa o.body) (hk : o.kind.toNat % 5 = 2) (hc : ¬ ckOk k (i.epoch + 1) i.next (o.body.take 300)) (hw : St β [jourR J S i false, storeR S k] w) : Calls Try.prog 36 #[.pointer (some ⟨J, 0, none⟩), .agg #[Bx o.kind, Bx o.power, .slice oa o.body.length oc]] w fun r w' => r = .returned (.int .i64 310) ∧ St β [jourR J S i true, storeR S (ckS k (i.epoch + 1) i.next (o.body.take 300))] w' := by
 refine enter (n := 23) Try.func36 rfl Try.ntmps36 rfl ?_ hw
 refine c_seq ?_
 refine c_region ?_
 refine l_mv rfl rfl rfl (m_box (v := .agg #[Bx (o.kind), Bx (o.power), .slice oa (o.body.length) (oc)]) rfl) ?_
 rintro _ _ ⟨b1, rfl, rfl⟩
 refine l_val (v := .int .i64 (0)) rfl rfl rfl (e_assign) ?_
 refine l_nil ?_
 refine f_then ?_
 refine c_seq ?_
 refine c_seq ?_
 refine c_region ?_
 refine l_val (v := .pointer (some ⟨b1, 0, none⟩)) rfl rfl rfl (e_fieldPt (b := b1) (o := 0) rfl tf85) ?_
 refine l_val (v := Bx (o.kind)) rfl rfl rfl (e_load1 tf13 (v := Bx (o.kind)) rfl (k_pt 0 (cs := #[Bx (o.kind), Bx (o.power), .slice oa (o.body.length) (oc)]) (vs := [Bx (o.kind)]) rfl rfl)) ?_
 refine l_val (v := .int .u8 (((o.kind.toNat % 5 : Nat)) : Int)) rfl rfl rfl (e_rem (a := ((o.kind).toNat : Int)) (b := ((5 : Nat) : Int)) rfl rfl (by decide) (nat_tmod _ _)) ?_
 refine l_val (v := .bool (decide (((o.kind.toNat % 5 : Nat) : Int) = (2 : Int)))) rfl rfl rfl (e_eql (a := ((o.kind.toNat % 5 : Nat) : Int)) (b := (2 : Int)) rfl rfl) ?_
 refine l_nil ?_
 refine f_then ?_
 refine c_if (((o.kind.toNat % 5 : Nat) : Int) = (2 : Int)) rfl (fun hc2 => ?_) (fun hc2 => ?_)
 ·
  refine c_seq ?_
  refine c_region ?_
  refine l_val (v := .pointer (some ⟨J, 0, none⟩)) rfl rfl rfl (e_move) ?_
  refine l_val (v := .agg #[Bx (o.kind), Bx (o.power), .slice oa (o.body.length) (oc)]) rfl rfl rfl (e_load tf87 (cs := [Bx (o.kind), Bx (o.power), .slice oa (o.body.length) (oc)]) rfl (k_pt 0 (cs := #[Bx (o.kind), Bx (o.power), .slice oa (o.body.length) (oc)]) (vs := [Bx (o.kind), Bx (o.power), .slice oa (o.body.length) (oc)]) rfl rfl) rfl) ?_
  refine l_call rfl rfl rfl (cl_value (fst := []) (cap := []) (vs := [.agg #[Bx (o.kind), Bx (o.power), .slice oa (o.body.length) (oc)]]) (all := [.agg #[Bx (o.kind), Bx (o.power), .slice oa (o.body.length) (oc)]]) tf100 rfl rfl rfl) ?_
  intro w hw
  obtain ⟨β1, sb, kn, hw1, back⟩ := St.frame_all hw
  refine (body_ok β1 w hw1 (⟨o.kind, o.power, o.body⟩ : KOp) oa oc (by omega) (by omega) (Elems.mono _ _ _ _ _ sb oe)).mono ?_
  rintro e w' ⟨rfl, hw'⟩
  refine ⟨_, rfl, _, back _ _ hw', ?_⟩
  clear hw hw1 hw' back kn sb
  refine l_call rfl rfl rfl (cl_value (fst := []) (cap := []) (vs := [.pointer (some ⟨J, 0, none⟩), .slice oa ((o.body.take 300).length) (oc)]) (all := [.pointer (some ⟨J, 0, none⟩), .slice oa ((o.body.take 300).length) (oc)]) tf103 rfl rfl rfl) ?_
  intro w hw
  replace hw := hw.perm (L' := _ :: _ :: _ :: []) (by exact (((perm_front 0 rfl).trans (perm_front 2 rfl)).trans (perm_front 2 rfl)))
  obtain ⟨β1, sb, kn, hw1, back⟩ := St.frame (L := [_, _]) (M := _ :: []) hw
  refine (checkp_fail β1 w J S k i (o.body.take 300) (by simp; omega) hfit (by omega) hc _ (Sl.mono _ _ _ _ _ sb (⟨⟨_, _, rfl, by simp only [List.length_take]; omega, by omega, Elems.take 300 oe⟩⟩ : Sl U8R _ _ (o.body.take 300))) hw1).mono ?_
  rintro e w' ⟨rfl, hw'⟩
  refine ⟨_, rfl, _, back _ _ hw', ?_⟩
  clear hw hw1 hw' back kn sb
  refine l_val (v := .int .i64 (310)) rfl rfl rfl (e_assign) ?_
  refine l_nil ?_
  refine f_then ?_
  refine c_ret ?_
  refine f_then_ret ?_
  refine ret1 Try.results36 (v := .int .i64 (310)) rfl ?_
  intro w hw
  exact ⟨rfl, st_mask [true, true, false] rfl (hw.perm (L' := [jourR J S i true, storeR S (ckS k (i.epoch + 1) i.next (o.body.take 300)), pt b1 (.cells #[Bx (o.kind), Bx (o.power), .slice oa (o.body.length) (oc)] 47)]) (by exact (((perm_front 2 rfl).trans (perm_front 2 rfl)).trans (perm_front 2 rfl))))⟩
 ·
  exact absurd (by omega) hc2
theorem again_ok (β : Base) (w : World) (S : Nat) (k : KS) (hok : (powS k).okP) (i : KI) (hri : readI k = some i) (hw : St β [storeR S k] w) : Calls Try.prog 16 #[.pointer (some ⟨S, 0, none⟩)] w fun r w' => ∃ J, r = .returned (.tuple #[.pointer (some ⟨J, 0, none⟩), .bool true]) ∧ St β [jourR J S i false, storeR S (cutS (powS k) i.epoch i.size)] w' := by
 refine enter (n := 21) Try.func16 rfl Try.ntmps16 rfl ?_ hw
 refine c_seq ?_
 refine c_region ?_
 refine l_val (v := .pointer none) rfl rfl rfl (e_assign) ?_
 refine l_val (v := .bool false) rfl rfl rfl (e_assign) ?_
 refine l_nil ?_
 refine f_then ?_
 refine c_seq ?_
 refine c_perm (L' := [storeR S k]) (by exact (perm_front 0 rfl)) ?_
 refine c_openStore rfl (fun pH1 pA2 pB3 cH4 cA5 cB6 => ?_)
 refine c_region ?_
 refine l_val (v := .pointer (some ⟨S, 0, none⟩)) rfl rfl rfl (e_move) ?_
 refine l_val (v := .pointer (some ⟨S, 0, none⟩)) rfl rfl rfl (e_nil (a := ⟨S, 0, none⟩) rfl) ?_
 refine l_val (v := .pointer (some ⟨S, 3, none⟩)) rfl rfl rfl (e_fieldPt (b := S) (o := 0) rfl tf24) ?_
 refine l_mu rfl rfl (m_store 0 tf25 (b := S) (o := 3) (T := 32) (cs := #[.slice pH1 (k.head).length cH4, .slice pA2 (k.a).length cA5, .slice pB3 (k.b).length cB6, Ix (k.power)]) (cs' := #[.slice pH1 (k.head).length cH4, .slice pA2 (k.a).length cA5, .slice pB3 (k.b).length cB6, .int .i64 (-1)]) (v := .int .i64 (-1)) rfl rfl rfl rfl rfl rfl rfl) ?_
 refine l_nil ?_
 refine f_then ?_
 refine c_seq ?_
 refine c_perm (L' := [pt S (.cells #[.slice pH1 (k.head).length cH4, .slice pA2 (k.a).length cA5, .slice pB3 (k.b).length cB6, .int .i64 (-1)] 32), row (.slice pH1 (k.head).length cH4) 5 1 ((k.head).length) (BX k.head), row (.slice pA2 (k.a).length cA5) 5 1 ((k.a).length) (BX k.a), row (.slice pB3 (k.b).length cB6) 5 1 ((k.b).length) (BX k.b)]) (by exact ((((perm_front 3 rfl).trans (perm_front 3 rfl)).trans (perm_front 3 rfl)).trans (perm_front 3 rfl))) ?_
 refine c_closeStore (S := S) (k := (powS k)) (pH := pH1) (pA := pA2) (pB := pB3) (cH := cH4) (cA := cA5) (cB := cB6) (M := ([])) rfl ?_
 refine c_region ?_
 refine l_val (v := .pointer (some ⟨S, 0, none⟩)) rfl rfl rfl (e_move) ?_
 refine l_call rfl rfl rfl (cl_value (fst := []) (cap := []) (vs := [.pointer (some ⟨S, 0, none⟩)]) (all := [.pointer (some ⟨S, 0, none⟩)]) tf104 rfl rfl rfl) ?_
 intro w hw
 replace hw := hw.perm (L' := _ :: []) (by exact (perm_front 0 rfl))
 obtain ⟨β1, sb, kn, hw1, back⟩ := St.frame (L := [_]) (M := []) hw
 refine (open_ok β1 w S (powS k) hok (show (-1 : Int) ≤ _ by decide) i hri (.inr (show (-1 : Int) ≠ 0 by decide)) hw1).mono ?_
 rintro e w' ⟨J7, rfl, hw'⟩
 refine ⟨_, rfl, _, back _ _ hw', ?_⟩
 clear hw hw1 hw' back kn sb
 refine l_val (v := .tuple #[.pointer (some ⟨J7, 0, none⟩), .int .i64 (0)]) rfl rfl rfl (e_move) ?_
 refine l_val (v := .pointer (some ⟨J7, 0, none⟩)) rfl rfl rfl (e_extract (vs := #[.pointer (some ⟨J7, 0, none⟩), .int .i64 (0)]) rfl rfl) ?_
 refine l_val (v := .int .i64 (0)) rfl rfl rfl (e_extract (vs := #[.pointer (some ⟨J7, 0, none⟩), .int .i64 (0)]) rfl rfl) ?_
 refine l_val (v := .pointer (some ⟨J7, 0, none⟩)) rfl rfl rfl (e_assign) ?_
 refine l_val (v := .int .i64 (0)) rfl rfl rfl (e_assign) ?_
 refine l_nil ?_
 refine f_then ?_
 refine c_seq ?_
 refine c_region ?_
 refine l_val (v := .pointer (some ⟨J7, 0, none⟩)) rfl rfl rfl (e_move) ?_
 refine l_val (v := .int .i64 (0)) rfl rfl rfl (e_move) ?_
 refine l_val (v := .bool true) rfl rfl rfl (e_eql (a := (0 : Int)) (b := (0 : Int)) rfl rfl) ?_
 refine l_val (v := .bool true) rfl rfl rfl (e_move) ?_
 refine g_val (v := .pointer (some ⟨J7, 0, none⟩)) rfl rfl rfl rfl rfl (e_move) ?_
 refine g_val (v := .bool true) rfl rfl rfl rfl rfl (e_neq_pnil (p := some (⟨J7, 0, none⟩)) rfl rfl tf36) ?_
 refine l_val (v := .bool true) rfl rfl rfl (e_pick_t rfl) ?_
 refine l_val (v := .pointer (some ⟨J7, 0, none⟩)) rfl rfl rfl (e_assign) ?_
 refine l_val (v := .bool true) rfl rfl rfl (e_assign) ?_
 refine l_nil ?_
 refine f_then ?_
 refine c_ret ?_
 refine ret2 (v := .pointer (some ⟨J7, 0, none⟩)) (v' := .bool true) Try.results16 rfl rfl ?_
 intro w hw
 exact ⟨_, rfl, st_mask [true, true] rfl (hw.perm (L' := [jourR J7 S i false, storeR S (cutS (powS k) i.epoch i.size)]) (by exact ((perm_front 1 rfl).trans (perm_front 1 rfl))))⟩
end Go.Proofs
