/-
 What the laws look at, walked. Printed by a program of my own.
-/
import Derived.Test.YtkpdcajddpiknaaJn6
import Derived.Test.YtkpdcajddpiknaaJnOp
namespace Go.Proofs
open Go Go.Sl Go.Jn
theorem take_min {xs : Bs} {n : Nat} : xs.take (min xs.length n) = xs.take n := by
 rcases Nat.le_total xs.length n with h | h
 ·rw [Nat.min_eq_left h, List.take_of_length_le (Nat.le_refl _), List.take_of_length_le h]
 ·rw [Nat.min_eq_right h]
theorem short_kind {o : KOp} : (Value.int .u8 (((o.kind.toNat % 5 % 3 : Nat)) : Int)) = Bx (shortO o).kind := by
 unfold shortO
 simp
theorem tf77 : Try.prog.underlying 34 = some (.slice 30) := by kernel_rfl
theorem tf78 : slB Try.prog 25 9 1 = true := by kernel_rfl
theorem tf79 : (Try.prog.info? 9).bind (·.zero) = some (.string ⟨#[]⟩) := by kernel_rfl
theorem tf80 : elB Try.prog 9 1 16 = true := by kernel_rfl
theorem tf81 : Try.prog.underlying 25 = some (.slice 9) := by kernel_rfl
theorem tf82 : fldB Try.prog 47 2 2 1 false = true := by kernel_rfl
theorem tf84 : (Try.prog.info? 47).bind (·.zero) = some (.agg #[.int .u8 (0), .int .u8 (0), .slice none 0 0]) := by kernel_rfl
theorem tf85 : fldB Try.prog 47 0 0 1 false = true := by kernel_rfl
theorem tf86 : stB Try.prog 47 [(0, 1), (1, 1), (2, 1)] = true := by kernel_rfl
theorem tf87 : tyB Try.prog 47 true 3 = true := by kernel_rfl
theorem next_ok (β : Base) (w : World) (hw : St β [] w) (J S : Nat) (i : KI) (dn : Bool) (hj : JF J S i dn β.heap) : Calls Try.prog 19 #[.pointer (some ⟨J, 0, none⟩)] w fun r w' => r = .returned (Nx i.next) ∧ St β [] w' := by
 obtain ⟨ps, pr, cs, cr, hJ, hst, hrc⟩ := hj
 obtain ⟨_, hsl, hsm, hse⟩ := Sl.parts hst
 obtain ⟨_, hrl, hrm, hre⟩ := Sl.parts hrc
 refine enter (n := 11) Try.func19 rfl Try.ntmps19 rfl ?_ hw
 refine c_seq ?_
 refine c_region ?_
 refine l_val (v := .int .i64 (0)) rfl rfl rfl (e_assign) ?_
 refine l_nil ?_
 refine f_then ?_
 refine c_seq ?_
 refine c_seq ?_
 refine c_region ?_
 refine l_val (v := .pointer (some (⟨J, 0, none⟩))) rfl rfl rfl (e_move) ?_
 refine l_call rfl rfl rfl (cl_value (fst := []) (cap := []) (vs := [.pointer (some (⟨J, 0, none⟩))]) (all := [.pointer (some (⟨J, 0, none⟩))]) tf38 rfl rfl rfl) ?_
 intro w hw
 obtain ⟨β1, sb, kn, hw1, back⟩ := St.frame_all hw
 refine (there_ok β1 w hw1 J S (by have h0 := Cs.sub (vs := [.pointer (some ⟨S, 0, none⟩)]) 0 (Cs.mono _ _ _ _ sb hJ) rfl; rwa [Addr.add_zero'] at h0)).mono ?_
 rintro e w' ⟨rfl, hw'⟩
 refine ⟨_, rfl, _, back _ _ hw', ?_⟩
 clear hw hw1 hw' back kn sb
 refine l_val (v := .bool false) rfl rfl rfl (e_not (a := true) rfl) ?_
 refine l_nil ?_
 refine f_then ?_
 refine c_no rfl ?_
 refine c_skip ?_
 refine f_then ?_
 refine c_seq ?_
 refine c_region ?_
 refine l_val (v := .pointer (some (⟨J, 0, none⟩))) rfl rfl rfl (e_move) ?_
 refine l_val (v := .pointer (some (⟨J, 0, none⟩))) rfl rfl rfl (e_nil (a := ⟨J, 0, none⟩) rfl) ?_
 refine l_val (v := .pointer (some ((⟨J, 0, none⟩ : Addr).add 1))) rfl rfl rfl (e_fieldAddr (a := ⟨J, 0, none⟩) rfl tf75) ?_
 refine l_val (v := .pointer (some (((⟨J, 0, none⟩ : Addr).add 1 : Addr).add 1))) rfl rfl rfl (e_fieldAddr (a := (⟨J, 0, none⟩ : Addr).add 1) rfl tf53) ?_
 refine l_val (v := Nx (i.next)) rfl rfl rfl (e_load1 tf25 (v := Nx (i.next)) rfl (Knows.imp (Knows.imp (Knows.of_base (Cs.mono _ _) hJ) (fun _ h => Cs.sub (vs := [Nx (i.epoch), Nx (i.next), .slice ps (i.state.length) (cs), .slice pr (i.recs.length) (cr), Nx (i.size)]) 1 h rfl)) (fun _ h => Cs.sub (vs := [Nx (i.next)]) 1 h rfl))) ?_
 refine l_val (v := Nx (i.next)) rfl rfl rfl (e_assign) ?_
 refine l_nil ?_
 refine f_then ?_
 refine c_ret ?_
 refine ret1 Try.results19 (v := Nx (i.next)) rfl ?_
 intro w hw
 exact ⟨rfl, st_mask [] rfl hw⟩
theorem epochm_ok (β : Base) (w : World) (hw : St β [] w) (J S : Nat) (i : KI) (dn : Bool) (hj : JF J S i dn β.heap) : Calls Try.prog 41 #[.pointer (some ⟨J, 0, none⟩)] w fun r w' => r = .returned (Nx i.epoch) ∧ St β [] w' := by
 obtain ⟨ps, pr, cs, cr, hJ, hst, hrc⟩ := hj
 obtain ⟨_, hsl, hsm, hse⟩ := Sl.parts hst
 obtain ⟨_, hrl, hrm, hre⟩ := Sl.parts hrc
 refine enter (n := 11) Try.func41 rfl Try.ntmps41 rfl ?_ hw
 refine c_seq ?_
 refine c_region ?_
 refine l_val (v := .int .i64 (0)) rfl rfl rfl (e_assign) ?_
 refine l_nil ?_
 refine f_then ?_
 refine c_seq ?_
 refine c_seq ?_
 refine c_region ?_
 refine l_val (v := .pointer (some (⟨J, 0, none⟩))) rfl rfl rfl (e_move) ?_
 refine l_call rfl rfl rfl (cl_value (fst := []) (cap := []) (vs := [.pointer (some (⟨J, 0, none⟩))]) (all := [.pointer (some (⟨J, 0, none⟩))]) tf38 rfl rfl rfl) ?_
 intro w hw
 obtain ⟨β1, sb, kn, hw1, back⟩ := St.frame_all hw
 refine (there_ok β1 w hw1 J S (by have h0 := Cs.sub (vs := [.pointer (some ⟨S, 0, none⟩)]) 0 (Cs.mono _ _ _ _ sb hJ) rfl; rwa [Addr.add_zero'] at h0)).mono ?_
 rintro e w' ⟨rfl, hw'⟩
 refine ⟨_, rfl, _, back _ _ hw', ?_⟩
 clear hw hw1 hw' back kn sb
 refine l_val (v := .bool false) rfl rfl rfl (e_not (a := true) rfl) ?_
 refine l_nil ?_
 refine f_then ?_
 refine c_no rfl ?_
 refine c_skip ?_
 refine f_then ?_
 refine c_seq ?_
 refine c_region ?_
 refine l_val (v := .pointer (some (⟨J, 0, none⟩))) rfl rfl rfl (e_move) ?_
 refine l_val (v := .pointer (some (⟨J, 0, none⟩))) rfl rfl rfl (e_nil (a := ⟨J, 0, none⟩) rfl) ?_
 refine l_val (v := .pointer (some ((⟨J, 0, none⟩ : Addr).add 1))) rfl rfl rfl (e_fieldAddr (a := ⟨J, 0, none⟩) rfl tf75) ?_
 refine l_val (v := .pointer (some (((⟨J, 0, none⟩ : Addr).add 1 : Addr).add 0))) rfl rfl rfl (e_fieldAddr (a := (⟨J, 0, none⟩ : Addr).add 1) rfl tf48) ?_
 refine l_val (v := Nx (i.epoch)) rfl rfl rfl (e_load1 tf25 (v := Nx (i.epoch)) rfl (Knows.imp (Knows.imp (Knows.of_base (Cs.mono _ _) hJ) (fun _ h => Cs.sub (vs := [Nx (i.epoch), Nx (i.next), .slice ps (i.state.length) (cs), .slice pr (i.recs.length) (cr), Nx (i.size)]) 1 h rfl)) (fun _ h => Cs.sub (vs := [Nx (i.epoch)]) 0 h rfl))) ?_
 refine l_val (v := Nx (i.epoch)) rfl rfl rfl (e_assign) ?_
 refine l_nil ?_
 refine f_then ?_
 refine c_ret ?_
 refine ret1 Try.results41 (v := Nx (i.epoch)) rfl ?_
 intro w hw
 exact ⟨rfl, st_mask [] rfl hw⟩
theorem state_ok (β : Base) (w : World) (hw : St β [] w) (J S : Nat) (i : KI) (dn : Bool) (hj : JF J S i dn β.heap) (hb : i.state.length ≤ 1048576) : Calls Try.prog 42 #[.pointer (some ⟨J, 0, none⟩)] w fun r w' => ∃ p c, r = .returned (.slice p i.state.length c) ∧ St β [row (.slice p i.state.length c) 5 1 i.state.length (BX i.state)] w' := by
 obtain ⟨ps, pr, cs, cr, hJ, hst, hrc⟩ := hj
 obtain ⟨_, hsl, hsm, hse⟩ := Sl.parts hst
 obtain ⟨_, hrl, hrm, hre⟩ := Sl.parts hrc
 refine enter (n := 12) Try.func42 rfl Try.ntmps42 rfl ?_ hw
 refine c_seq ?_
 refine c_region ?_
 refine l_val (v := .slice none 0 0) rfl rfl rfl (e_assign) ?_
 refine l_nil ?_
 refine f_then ?_
 refine c_seq ?_
 refine c_seq ?_
 refine c_region ?_
 refine l_val (v := .pointer (some (⟨J, 0, none⟩))) rfl rfl rfl (e_move) ?_
 refine l_call rfl rfl rfl (cl_value (fst := []) (cap := []) (vs := [.pointer (some (⟨J, 0, none⟩))]) (all := [.pointer (some (⟨J, 0, none⟩))]) tf38 rfl rfl rfl) ?_
 intro w hw
 obtain ⟨β1, sb, kn, hw1, back⟩ := St.frame_all hw
 refine (there_ok β1 w hw1 J S (by have h0 := Cs.sub (vs := [.pointer (some ⟨S, 0, none⟩)]) 0 (Cs.mono _ _ _ _ sb hJ) rfl; rwa [Addr.add_zero'] at h0)).mono ?_
 rintro e w' ⟨rfl, hw'⟩
 refine ⟨_, rfl, _, back _ _ hw', ?_⟩
 clear hw hw1 hw' back kn sb
 refine l_val (v := .bool false) rfl rfl rfl (e_not (a := true) rfl) ?_
 refine l_nil ?_
 refine f_then ?_
 refine c_no rfl ?_
 refine c_skip ?_
 refine f_then ?_
 refine c_seq ?_
 refine c_region ?_
 refine l_val (v := .pointer (some (⟨J, 0, none⟩))) rfl rfl rfl (e_move) ?_
 refine l_val (v := .pointer (some (⟨J, 0, none⟩))) rfl rfl rfl (e_nil (a := ⟨J, 0, none⟩) rfl) ?_
 refine l_val (v := .pointer (some ((⟨J, 0, none⟩ : Addr).add 1))) rfl rfl rfl (e_fieldAddr (a := ⟨J, 0, none⟩) rfl tf75) ?_
 refine l_val (v := .pointer (some (((⟨J, 0, none⟩ : Addr).add 1 : Addr).add 2))) rfl rfl rfl (e_fieldAddr (a := (⟨J, 0, none⟩ : Addr).add 1) rfl tf63) ?_
 refine l_val (v := .slice ps (i.state.length) (cs)) rfl rfl rfl (e_load1 tf21 (v := .slice ps (i.state.length) (cs)) rfl (Knows.imp (Knows.imp (Knows.of_base (Cs.mono _ _) hJ) (fun _ h => Cs.sub (vs := [Nx (i.epoch), Nx (i.next), .slice ps (i.state.length) (cs), .slice pr (i.recs.length) (cr), Nx (i.size)]) 1 h rfl)) (fun _ h => Cs.sub (vs := [.slice ps (i.state.length) (cs)]) 2 h rfl))) ?_
 refine l_call rfl rfl rfl (cl_value (fst := []) (cap := []) (vs := [.slice ps (i.state.length) (cs)]) (all := [.slice ps (i.state.length) (cs)]) tf62 rfl rfl rfl) ?_
 intro w hw
 obtain ⟨β1, sb, kn, hw1, back⟩ := St.frame_all hw
 refine (clone_ok β1 w hw1 i.state _ (by omega) (Sl.mono _ _ _ _ _ sb (⟨⟨_, _, rfl, hsl, hsm, hse⟩⟩ : Sl U8R _ _ i.state))).mono ?_
 rintro e w' ⟨p1, c2, rfl, hw'⟩
 refine ⟨_, rfl, _, back _ _ hw', ?_⟩
 clear hw hw1 hw' back kn sb
 refine l_val (v := .slice p1 (i.state).length c2) rfl rfl rfl (e_assign) ?_
 refine l_nil ?_
 refine f_then ?_
 refine c_ret ?_
 refine ret1 Try.results42 (v := .slice p1 (i.state).length c2) rfl ?_
 intro w hw
 exact ⟨_, _, rfl, st_mask [true] rfl hw⟩
set_option maxHeartbeats 4000000 in
theorem records_ok (β : Base) (w : World) (hw : St β [] w) (J S : Nat) (i : KI) (dn : Bool) (hj : JF J S i dn β.heap) (hn : i.recs.length ≤ 1048576) (hbs : ∀ b ∈ i.recs, b.length ≤ 1048576) : Calls Try.prog 43 #[.pointer (some ⟨J, 0, none⟩)] w fun r w' => ∃ p c, r = .returned (.slice p i.recs.length c) ∧ St β [recsR 30 p c i.recs] w' := by
 obtain ⟨ps, pr, cs, cr, hJ, hst, hrc⟩ := hj
 obtain ⟨_, hsl, hsm, hse⟩ := Sl.parts hst
 obtain ⟨_, hrl, hrm, hre⟩ := Sl.parts hrc
 refine enter (n := 26) Try.func43 rfl Try.ntmps43 rfl ?_ hw
 refine c_seq ?_
 refine c_region ?_
 refine l_val (v := .slice none 0 0) rfl rfl rfl (e_assign) ?_
 refine l_nil ?_
 refine f_then ?_
 refine c_seq ?_
 refine c_seq ?_
 refine c_region ?_
 refine l_val (v := .pointer (some (⟨J, 0, none⟩))) rfl rfl rfl (e_move) ?_
 refine l_call rfl rfl rfl (cl_value (fst := []) (cap := []) (vs := [.pointer (some (⟨J, 0, none⟩))]) (all := [.pointer (some (⟨J, 0, none⟩))]) tf38 rfl rfl rfl) ?_
 intro w hw
 obtain ⟨β1, sb, kn, hw1, back⟩ := St.frame_all hw
 refine (there_ok β1 w hw1 J S (by have h0 := Cs.sub (vs := [.pointer (some ⟨S, 0, none⟩)]) 0 (Cs.mono _ _ _ _ sb hJ) rfl; rwa [Addr.add_zero'] at h0)).mono ?_
 rintro e w' ⟨rfl, hw'⟩
 refine ⟨_, rfl, _, back _ _ hw', ?_⟩
 clear hw hw1 hw' back kn sb
 refine l_val (v := .bool false) rfl rfl rfl (e_not (a := true) rfl) ?_
 refine l_nil ?_
 refine f_then ?_
 refine c_no rfl ?_
 refine c_skip ?_
 refine f_then ?_
 refine c_seq ?_
 refine c_region ?_
 refine l_val (v := .slice none 0 0) rfl rfl rfl (e_assign) ?_
 refine l_nil ?_
 refine f_then ?_
 refine c_seq ?_
 refine c_seq ?_
 refine c_emp (r := recsR 30 none 0 []) (recs_nil _ _) ?_
 refine c_region ?_
 refine l_val (v := .pointer (some (⟨J, 0, none⟩))) rfl rfl rfl (e_move) ?_
 refine l_val (v := .pointer (some (⟨J, 0, none⟩))) rfl rfl rfl (e_nil (a := ⟨J, 0, none⟩) rfl) ?_
 refine l_val (v := .pointer (some ((⟨J, 0, none⟩ : Addr).add 1))) rfl rfl rfl (e_fieldAddr (a := ⟨J, 0, none⟩) rfl tf75) ?_
 refine l_val (v := .pointer (some (((⟨J, 0, none⟩ : Addr).add 1 : Addr).add 3))) rfl rfl rfl (e_fieldAddr (a := (⟨J, 0, none⟩ : Addr).add 1) rfl tf64) ?_
 refine l_val (v := .slice pr (i.recs.length) (cr)) rfl rfl rfl (e_load1 tf65 (v := .slice pr (i.recs.length) (cr)) rfl (Knows.imp (Knows.imp (Knows.of_base (Cs.mono _ _) hJ) (fun _ h => Cs.sub (vs := [Nx (i.epoch), Nx (i.next), .slice ps (i.state.length) (cs), .slice pr (i.recs.length) (cr), Nx (i.size)]) 1 h rfl)) (fun _ h => Cs.sub (vs := [.slice pr (i.recs.length) (cr)]) 3 h rfl))) ?_
 refine l_val (v := Nx (i.recs.length)) rfl rfl rfl (e_len (a := pr) (n := i.recs.length) (c := cr) rfl tf77) ?_
 refine l_val (v := .int .i64 (0)) rfl rfl rfl (e_move) ?_
 refine l_nil ?_
 refine f_then ?_
 refine c_block ?_
 refine c_loop (fun (x_ : Nat × Option Addr × Nat) (f : Fm) (L : List Res) => match x_ with | (k, p, c) => (f 3 = .slice p ((i.recs.take k)).length c ∧ f 13 = .slice pr (i.recs.length) (cr) ∧ f 14 = Nx (i.recs.length) ∧ f 15 = Nx (k)) ∧ L = [recsR 30 p c (i.recs.take k)] ∧ (k ≤ i.recs.length)) (fun (x_ : Nat × Option Addr × Nat) => match x_ with | (k, p, c) => i.recs.length - k) (0, none, 0) ?_ ?_
 ·exact ⟨⟨rfl, rfl, rfl, rfl⟩, rfl, (by omega)⟩
 rintro ⟨k, p, c⟩ f0 L0 ⟨⟨hs3, hs13, hs14, hs15⟩, hL, hk⟩
 subst L0
 refine rebase (d := 3) hs3 ?_
 refine rebase (d := 13) hs13 ?_
 refine rebase (d := 14) hs14 ?_
 refine rebase (d := 15) hs15 ?_
 clear hs3 hs13 hs14 hs15
 have htl : (i.recs.take k).length ≤ i.recs.length := by simp; omega
 refine c_seq ?_
 refine c_region ?_
 refine l_val (v := .bool (decide (((k : Nat) : Int) < ((i.recs.length : Nat) : Int)))) rfl rfl rfl (e_lss (a := ((k : Nat) : Int)) (b := ((i.recs.length : Nat) : Int)) rfl rfl) ?_
 refine l_nil ?_
 refine f_then ?_
 refine c_seq ?_
 refine c_if (((k : Nat) : Int) < ((i.recs.length : Nat) : Int)) rfl (fun hc1 => ?_) (fun hc1 => ?_)
 ·
  refine c_skip ?_
  refine f_then ?_
  refine c_seq ?_
  refine c_block ?_
  refine c_seq ?_
  refine c_region ?_
  obtain ⟨x2, hx3⟩ : ∃ x_, (i.recs)[k]? = some x_ := ⟨_, List.getElem?_eq_getElem (by omega)⟩
  obtain ⟨ha4, cs5, hc6, hr7⟩ := hre _ _ hx3
  obtain ⟨v8, rfl, hv9⟩ := hr7
  obtain ⟨a10, c11, rfl, hl12, hm13, he14⟩ := (hv9).get
  refine l_val (v := .pointer (some ((ba pr).add (k * 1)))) rfl rfl rfl (e_indexAddr (k := k) (len := i.recs.length) (cap := cr) (a := pr) rfl rfl tf66 (by omega) ha4) ?_
  refine l_val (v := .slice a10 (x2.length) (c11)) rfl rfl rfl (e_load1 tf21 (v := .slice a10 (x2.length) (c11)) rfl (Knows.of_base (Cs.mono _ _) hc6)) ?_
  refine l_val (v := .slice a10 (x2.length) (c11)) rfl rfl rfl (e_assign) ?_
  refine l_nil ?_
  refine f_then ?_
  have hbl := hbs _ (List.mem_of_getElem? hx3)
  refine c_region ?_
  refine l_val (v := .slice p ((i.recs.take k)).length c) rfl rfl rfl (e_move) ?_
  refine l_val (v := .slice a10 (x2.length) (c11)) rfl rfl rfl (e_move) ?_
  refine l_call rfl rfl rfl (cl_value (fst := []) (cap := []) (vs := [.slice a10 (x2.length) (c11)]) (all := [.slice a10 (x2.length) (c11)]) tf62 rfl rfl rfl) ?_
  intro w hw
  obtain ⟨β1, sb, kn, hw1, back⟩ := St.frame_all hw
  refine (clone_ok β1 w hw1 x2 _ (by omega) (Sl.mono _ _ _ _ _ sb (⟨⟨_, _, rfl, by omega, by omega, he14⟩⟩ : Sl U8R _ _ x2))).mono ?_
  rintro e w' ⟨p15, c16, rfl, hw'⟩
  refine ⟨_, rfl, _, back _ _ hw', ?_⟩
  clear hw hw1 hw' back kn sb
  refine l_mv rfl rfl rfl (m_slices tf66 tf67 (vs := [(0, .slice p15 (x2).length c16)]) (cells := #[.slice p15 (x2).length c16]) rfl rfl rfl rfl) ?_
  rintro _ _ ⟨b17, rfl, rfl⟩
  refine l_perm (L' := [recsR 30 p c (i.recs.take k), row (.slice p15 (x2).length c16) 5 1 ((x2).length) (BX x2), pt b17 (.cells #[.slice p15 (x2).length c16] 30)]) (by exact (((perm_front 0 rfl).trans (perm_front 1 rfl)).trans (perm_front 2 rfl))) ?_
  refine l_mv rfl rfl rfl (m_appendRec (xs := (i.recs.take k)) (bs := x2) (b := b17) rfl tf66 tf68 rfl rfl (by omega) (by omega)) ?_
  rintro _ _ ⟨rp18, rc19, rfl, rfl⟩
  refine l_val (v := .slice rp18 (((i.recs.take k) ++ [x2])).length rc19) rfl rfl rfl (e_assign) ?_
  refine l_nil ?_
  refine f_block ?_
  refine f_then ?_
  refine c_region ?_
  refine l_val (v := Nx (k + 1)) rfl rfl rfl (e_add (a := ((k : Nat) : Int)) (b := (1 : Int)) rfl rfl (i64n (by omega) (by omega))) ?_
  refine l_val (v := Nx (k + 1)) rfl rfl rfl (e_move) ?_
  refine l_nil ?_
  refine f_mask (L' := [recsR 30 rp18 rc19 ((i.recs.take k) ++ [x2])]) [true, false] rfl ?_
  exact f_cut ⟨(k + 1, rp18, rc19), ⟨⟨(by rw [take_succ hx3]; rfl), rfl, rfl, rfl⟩, (by rw [take_succ hx3]), (by omega)⟩, (show i.recs.length - (k + 1) < i.recs.length - k from by omega)⟩
 ·
  refine c_exit ?_
  refine f_then_exit ?_
  refine f_then_exit ?_
  refine f_exit ?_
  refine f_then ?_
  refine c_seq ?_
  refine c_region ?_
  refine l_val (v := .slice p ((i.recs.take k)).length c) rfl rfl rfl (e_move) ?_
  refine l_val (v := .slice p ((i.recs.take k)).length c) rfl rfl rfl (e_assign) ?_
  refine l_nil ?_
  refine f_then ?_
  refine c_ret ?_
  refine ret1 Try.results43 (v := .slice p ((i.recs.take k)).length c) rfl ?_
  intro w hw
  rw [List.take_of_length_le (show i.recs.length ≤ k by omega)] at hw ⊢
  exact ⟨_, _, rfl, st_mask [true] rfl hw⟩
set_option maxHeartbeats 4000000 in
theorem text_ok (β : Base) (w : World) (hw : St β [] w) (xs : List Bs) (v : Value) (hn : xs.length ≤ 1048576) (hs : Sl BsR β.heap v xs) : Calls Try.prog 15 #[v] w fun r w' => ∃ p c, r = .returned (.slice p (xs.map str).length c) ∧ St β [row (.slice p (xs.map str).length c) 9 1 (xs.map str).length ((xs.map str).map (fun s : ByteArray => Value.string s))] w' := by
 obtain ⟨va, vc, rfl, vl, vm, ve⟩ := hs.get
 refine enter (n := 19) Try.func15 rfl Try.ntmps15 rfl ?_ hw
 refine c_seq ?_
 refine c_region ?_
 refine l_val (v := .slice none 0 0) rfl rfl rfl (e_assign) ?_
 refine l_nil ?_
 refine f_then ?_
 refine c_seq ?_
 refine c_region ?_
 refine l_val (v := .slice none 0 0) rfl rfl rfl (e_assign) ?_
 refine l_nil ?_
 refine f_then ?_
 refine c_seq ?_
 refine c_seq ?_
 refine c_emp (r := row (.slice none 0 0) 9 1 0 ([].map (fun s : ByteArray => Value.string s))) (row_nil _ _ _) ?_
 refine c_region ?_
 refine l_val (v := .slice va (xs.length) (vc)) rfl rfl rfl (e_move) ?_
 refine l_val (v := Nx (xs.length)) rfl rfl rfl (e_len (a := va) (n := xs.length) (c := vc) rfl tf77) ?_
 refine l_val (v := .int .i64 (0)) rfl rfl rfl (e_move) ?_
 refine l_nil ?_
 refine f_then ?_
 refine c_block ?_
 refine c_loop (fun (x_ : Nat × List ByteArray × Option Addr × Nat) (f : Fm) (L : List Res) => match x_ with | (k, ys, p, c) => (f 3 = .slice p (ys).length c ∧ f 6 = .slice va (xs.length) (vc) ∧ f 7 = Nx (xs.length) ∧ f 8 = Nx (k)) ∧ L = [row (.slice p (ys).length c) 9 1 ((ys).length) (ys.map (fun s : ByteArray => Value.string s))] ∧ (k ≤ xs.length ∧ ys = (xs.take k).map str)) (fun (x_ : Nat × List ByteArray × Option Addr × Nat) => match x_ with | (k, ys, p, c) => xs.length - k) (0, [], none, 0) ?_ ?_
 ·exact ⟨⟨rfl, rfl, rfl, rfl⟩, rfl, ⟨by omega, rfl⟩⟩
 rintro ⟨k, ys, p, c⟩ f0 L0 ⟨⟨hs3, hs6, hs7, hs8⟩, hL, ⟨hk, hys⟩⟩
 subst L0
 refine rebase (d := 3) hs3 ?_
 refine rebase (d := 6) hs6 ?_
 refine rebase (d := 7) hs7 ?_
 refine rebase (d := 8) hs8 ?_
 clear hs3 hs6 hs7 hs8
 have hyl : ys.length ≤ xs.length := by rw [hys]; simp; omega
 refine c_seq ?_
 refine c_region ?_
 refine l_val (v := .bool (decide (((k : Nat) : Int) < ((xs.length : Nat) : Int)))) rfl rfl rfl (e_lss (a := ((k : Nat) : Int)) (b := ((xs.length : Nat) : Int)) rfl rfl) ?_
 refine l_nil ?_
 refine f_then ?_
 refine c_seq ?_
 refine c_if (((k : Nat) : Int) < ((xs.length : Nat) : Int)) rfl (fun hc1 => ?_) (fun hc1 => ?_)
 ·
  refine c_skip ?_
  refine f_then ?_
  refine c_seq ?_
  refine c_block ?_
  refine c_seq ?_
  refine c_region ?_
  obtain ⟨x2, hx3⟩ : ∃ x_, (xs)[k]? = some x_ := ⟨_, List.getElem?_eq_getElem (by omega)⟩
  obtain ⟨ha4, cs5, hc6, hr7⟩ := ve _ _ hx3
  obtain ⟨v8, rfl, hv9⟩ := hr7
  obtain ⟨a10, c11, rfl, hl12, hm13, he14⟩ := (hv9).get
  refine l_val (v := .pointer (some ((ba va).add (k * 1)))) rfl rfl rfl (e_indexAddr (k := k) (len := xs.length) (cap := vc) (a := va) rfl rfl tf66 (by omega) ha4) ?_
  refine l_val (v := .slice a10 (x2.length) (c11)) rfl rfl rfl (e_load1 tf21 (v := .slice a10 (x2.length) (c11)) rfl (Knows.of_base (Cs.mono _ _) hc6)) ?_
  refine l_val (v := .slice a10 (x2.length) (c11)) rfl rfl rfl (e_assign) ?_
  refine l_nil ?_
  refine f_then ?_
  refine c_region ?_
  refine l_val (v := .slice p (ys).length c) rfl rfl rfl (e_move) ?_
  refine l_val (v := .slice a10 (x2.length) (c11)) rfl rfl rfl (e_move) ?_
  refine l_val (v := .string (str x2)) rfl rfl rfl (e_bytesStr (a := a10) (bs := x2) (m := x2.length) (c := c11) rfl (by first | rfl | simp) tf11 tf8 tf7 (Knows.of_base (Elems.mono _ _ _) he14)) ?_
  refine l_mv rfl rfl rfl (m_slices tf78 tf79 (vs := [(0, .string (str x2))]) (cells := #[.string (str x2)]) rfl rfl rfl rfl) ?_
  rintro _ _ ⟨b15, rfl, rfl⟩
  refine l_mv rfl rfl rfl (m_appendE (enc := (fun s : ByteArray => Value.string s)) 1 str_cell tf78 tf80 (v := .slice p (ys).length c) (xs := ys) (ys := [str x2]) (ao := some ⟨b15, 0, none⟩) (c := 1) rfl rfl (by first | rfl | simp) rfl (by first | rfl | simp) (k_ptE 0 (xs := [str x2]) rfl) (by first | omega | (simp only [List.length_append, List.length_nil, List.length_cons, be_length] at *; omega)) (by first | omega | (simp only [List.length_append, List.length_nil, List.length_cons, be_length] at *; omega))) ?_
  rintro _ _ ⟨rp16, rc17, rfl, rfl⟩
  refine l_val (v := .slice rp16 (ys ++ [str x2]).length rc17) rfl rfl rfl (e_assign) ?_
  refine l_nil ?_
  refine f_block ?_
  refine f_then ?_
  refine c_region ?_
  refine l_val (v := Nx (k + 1)) rfl rfl rfl (e_add (a := ((k : Nat) : Int)) (b := (1 : Int)) rfl rfl (i64n (by omega) (by omega))) ?_
  refine l_val (v := Nx (k + 1)) rfl rfl rfl (e_move) ?_
  refine l_nil ?_
  refine f_mask (L' := [row (.slice rp16 (ys ++ [str x2]).length rc17) 9 1 ((ys ++ [str x2]).length) ((ys ++ [str x2]).map (fun s : ByteArray => Value.string s))]) [false, true] rfl ?_
  exact f_cut ⟨(k + 1, ys ++ [str x2], rp16, rc17), ⟨⟨rfl, rfl, rfl, rfl⟩, rfl, ⟨by omega, by rw [hys, take_succ hx3]; simp⟩⟩, (show xs.length - (k + 1) < xs.length - k from by omega)⟩
 ·
  refine c_exit ?_
  refine f_then_exit ?_
  refine f_then_exit ?_
  refine f_exit ?_
  refine f_then ?_
  refine c_seq ?_
  refine c_region ?_
  refine l_val (v := .slice p (ys).length c) rfl rfl rfl (e_move) ?_
  refine l_val (v := .slice p (ys).length c) rfl rfl rfl (e_assign) ?_
  refine l_nil ?_
  refine f_then ?_
  refine c_ret ?_
  refine ret1 Try.results15 (v := .slice p (ys).length c) rfl ?_
  intro w hw
  rw [List.take_of_length_le (show xs.length ≤ k by omega)] at hys
  subst hys
  exact ⟨_, _, rfl, st_mask [true] rfl hw⟩
set_option maxHeartbeats 4000000 in
theorem samet_ok (β : Base) (w : World) (hw : St β [] w) (xs ys : List ByteArray) (v u : Value) (hx : Sl StrR β.heap v xs) (hy : Sl StrR β.heap u ys) : Calls Try.prog 14 #[v, u] w fun r w' => r = .returned (.bool (decide (xs = ys))) ∧ St β [] w' := by
 obtain ⟨va, vc, rfl, vl, vm, ve⟩ := hx.get
 obtain ⟨ua, uc, rfl, ul, um, ue⟩ := hy.get
 refine enter (n := 26) Try.func14 rfl Try.ntmps14 rfl ?_ hw
 refine c_seq ?_
 refine c_region ?_
 refine l_val (v := .bool false) rfl rfl rfl (e_assign) ?_
 refine l_nil ?_
 refine f_then ?_
 refine c_seq ?_
 refine c_seq ?_
 refine c_region ?_
 refine l_val (v := .slice va (xs.length) (vc)) rfl rfl rfl (e_move) ?_
 refine l_val (v := Nx (xs.length)) rfl rfl rfl (e_len (a := va) (n := xs.length) (c := vc) rfl tf81) ?_
 refine l_val (v := .slice ua (ys.length) (uc)) rfl rfl rfl (e_move) ?_
 refine l_val (v := Nx (ys.length)) rfl rfl rfl (e_len (a := ua) (n := ys.length) (c := uc) rfl tf81) ?_
 refine l_val (v := .bool (decide (((xs.length : Nat) : Int) ≠ ((ys.length : Nat) : Int)))) rfl rfl rfl (e_neq (a := ((xs.length : Nat) : Int)) (b := ((ys.length : Nat) : Int)) rfl rfl) ?_
 refine l_nil ?_
 refine f_then ?_
 refine c_if (((xs.length : Nat) : Int) ≠ ((ys.length : Nat) : Int)) rfl (fun hc1 => ?_) (fun hc1 => ?_)
 ·
  refine c_seq ?_
  refine c_region ?_
  refine l_val (v := .bool false) rfl rfl rfl (e_assign) ?_
  refine l_nil ?_
  refine f_then ?_
  refine c_ret ?_
  refine f_then_ret ?_
  refine ret1 Try.results14 (v := .bool false) rfl ?_
  intro w hw
  exact ⟨bool_f (fun h => by subst h; omega), st_mask [] rfl hw⟩
 ·
  refine c_skip ?_
  refine f_then ?_
  refine c_seq ?_
  refine c_seq ?_
  refine c_region ?_
  refine l_val (v := .int .i64 (0)) rfl rfl rfl (e_assign) ?_
  refine l_nil ?_
  refine f_then ?_
  refine c_block ?_
  refine c_loop (fun (k : Nat) (f : Fm) (L : List Res) => (f 0 = .slice va (xs.length) (vc) ∧ f 1 = .slice ua (ys.length) (uc) ∧ f 5 = Nx (k)) ∧ L = [] ∧ (k ≤ xs.length ∧ xs.take k = ys.take k)) (fun (k : Nat) => xs.length - k) 0 ?_ ?_
  ·exact ⟨⟨rfl, rfl, rfl⟩, rfl, ⟨by omega, rfl⟩⟩
  rintro k f0 L0 ⟨⟨hs0, hs1, hs5⟩, hL, ⟨hp1, hp2⟩⟩
  subst L0
  refine rebase (d := 0) hs0 ?_
  refine rebase (d := 1) hs1 ?_
  refine rebase (d := 5) hs5 ?_
  clear hs0 hs1 hs5
  refine c_seq ?_
  refine c_seq ?_
  refine c_region ?_
  refine l_val (v := Nx (k)) rfl rfl rfl (e_move) ?_
  refine l_val (v := .slice va (xs.length) (vc)) rfl rfl rfl (e_move) ?_
  refine l_val (v := Nx (xs.length)) rfl rfl rfl (e_len (a := va) (n := xs.length) (c := vc) rfl tf81) ?_
  refine l_val (v := .bool (decide (((k : Nat) : Int) < ((xs.length : Nat) : Int)))) rfl rfl rfl (e_lss (a := ((k : Nat) : Int)) (b := ((xs.length : Nat) : Int)) rfl rfl) ?_
  refine l_nil ?_
  refine f_then ?_
  refine c_if (((k : Nat) : Int) < ((xs.length : Nat) : Int)) rfl (fun hc2 => ?_) (fun hc2 => ?_)
  ·
   refine c_skip ?_
   refine f_then ?_
   refine c_seq ?_
   refine c_block ?_
   refine c_seq ?_
   refine c_quiet (by kernel_rfl) (by kernel_rfl) ?_
   refine q_val (v := .slice va (xs.length) (vc)) rfl rfl rfl (e_move) ?_
   refine q_val (v := Nx (k)) rfl rfl rfl (e_move) ?_
   obtain ⟨x3, hx4⟩ : ∃ x_, (xs)[k]? = some x_ := ⟨_, List.getElem?_eq_getElem (by omega)⟩
   obtain ⟨ha5, cs6, hc7, rfl⟩ := ve _ _ hx4
   refine q_val (v := .pointer (some ((ba va).add (k * 1)))) rfl rfl rfl (e_indexAddr (k := k) (len := xs.length) (cap := vc) (a := va) rfl rfl tf78 (by omega) ha5) ?_
   refine q_val (v := .string (x3)) rfl rfl rfl (e_load1 tf6 (v := .string (x3)) rfl (Knows.of_base (Cs.mono _ _) hc7)) ?_
   refine q_val (v := .slice ua (ys.length) (uc)) rfl rfl rfl (e_move) ?_
   refine q_val (v := Nx (k)) rfl rfl rfl (e_move) ?_
   obtain ⟨x9, hx10⟩ : ∃ x_, (ys)[k]? = some x_ := ⟨_, List.getElem?_eq_getElem (by omega)⟩
   obtain ⟨ha11, cs12, hc13, rfl⟩ := ue _ _ hx10
   refine q_val (v := .pointer (some ((ba ua).add (k * 1)))) rfl rfl rfl (e_indexAddr (k := k) (len := ys.length) (cap := uc) (a := ua) rfl rfl tf78 (by omega) ha11) ?_
   refine q_val (v := .string (x9)) rfl rfl rfl (e_load1 tf6 (v := .string (x9)) rfl (Knows.of_base (Cs.mono _ _) hc13)) ?_
   refine q_val (v := .bool (decide (x3 ≠ x9))) rfl rfl rfl (e_neq_s (a := x3) (b := x9) rfl rfl) ?_
   refine q_nil ?_
   refine f_then ?_
   refine c_if (x3 ≠ x9) rfl (fun hc15 => ?_) (fun hc15 => ?_)
   ·
    refine c_seq ?_
    refine c_region ?_
    refine l_val (v := .bool false) rfl rfl rfl (e_assign) ?_
    refine l_nil ?_
    refine f_then ?_
    refine c_ret ?_
    refine f_block_ret ?_
    refine f_then_ret ?_
    refine f_then_ret ?_
    refine f_block_ret ?_
    refine f_then_ret ?_
    refine ret1 Try.results14 (v := .bool false) rfl ?_
    intro w hw
    exact ⟨bool_f (list_ne hx4 hx10 hc15), st_mask [] rfl hw⟩
   ·
    refine c_skip ?_
    refine f_block ?_
    refine f_then ?_
    refine c_region ?_
    refine l_val (v := Nx (k)) rfl rfl rfl (e_move) ?_
    refine l_val (v := Nx (k + 1)) rfl rfl rfl (e_add (a := ((k : Nat) : Int)) (b := (1 : Int)) rfl rfl (i64n (by omega) (by omega))) ?_
    refine l_val (v := Nx (k + 1)) rfl rfl rfl (e_assign) ?_
    refine l_nil ?_
    exact f_cut ⟨k + 1, ⟨⟨rfl, rfl, rfl⟩, rfl, ⟨by omega, take_next hx4 (by rw [hx10, Decidable.not_not.1 hc15]) hp2⟩⟩, (show xs.length - (k + 1) < xs.length - k from by omega)⟩
  ·
   refine c_exit ?_
   refine f_then_exit ?_
   refine f_then_exit ?_
   refine f_exit ?_
   refine f_then ?_
   refine c_seq ?_
   refine c_region ?_
   refine l_val (v := .bool true) rfl rfl rfl (e_assign) ?_
   refine l_nil ?_
   refine f_then ?_
   refine c_ret ?_
   refine ret1 Try.results14 (v := .bool true) rfl ?_
   intro w hw
   exact ⟨bool_t (take_all hp2 (by omega) (by omega)), st_mask [] rfl hw⟩
theorem body_ok (β : Base) (w : World) (hw : St β [] w) (o : KOp) (oa : Option Addr) (oc : Nat) (ol : o.body.length ≤ oc) (om : oc ≤ 9223372036854775807) (oe : Elems U8R β.heap oa o.body) : Calls Try.prog 18 #[.agg #[Bx o.kind, Bx o.power, .slice oa o.body.length oc]] w fun r w' => r = .returned (.slice oa (o.body.take 300).length oc) ∧ St β [] w' := by
 refine enter (n := 10) Try.func18 rfl Try.ntmps18 rfl ?_ hw
 refine c_seq ?_
 refine c_region ?_
 refine l_mv rfl rfl rfl (m_box (v := .agg #[Bx (o.kind), Bx (o.power), .slice oa (o.body.length) (oc)]) rfl) ?_
 rintro _ _ ⟨b1, rfl, rfl⟩
 refine l_val (v := .slice none 0 0) rfl rfl rfl (e_assign) ?_
 refine l_nil ?_
 refine f_then ?_
 refine c_seq ?_
 refine c_region ?_
 refine l_val (v := .pointer (some ⟨b1, 2, none⟩)) rfl rfl rfl (e_fieldPt (b := b1) (o := 0) rfl tf82) ?_
 refine l_val (v := .slice oa (o.body.length) (oc)) rfl rfl rfl (e_load1 tf21 (v := .slice oa (o.body.length) (oc)) rfl (k_pt 0 (cs := #[Bx (o.kind), Bx (o.power), .slice oa (o.body.length) (oc)]) (vs := [.slice oa (o.body.length) (oc)]) rfl rfl)) ?_
 refine l_val (v := .pointer (some ⟨b1, 2, none⟩)) rfl rfl rfl (e_fieldPt (b := b1) (o := 0) rfl tf82) ?_
 refine l_val (v := .slice oa (o.body.length) (oc)) rfl rfl rfl (e_load1 tf21 (v := .slice oa (o.body.length) (oc)) rfl (k_pt 0 (cs := #[Bx (o.kind), Bx (o.power), .slice oa (o.body.length) (oc)]) (vs := [.slice oa (o.body.length) (oc)]) rfl rfl)) ?_
 refine l_val (v := Nx (o.body.length)) rfl rfl rfl (e_len (a := oa) (n := o.body.length) (c := oc) rfl tf11) ?_
 refine l_val (v := Nx (min o.body.length 300)) rfl rfl rfl (ev_eq (congrArg (Value.int .i64) (by omega)) (e_min (a := ((o.body.length : Nat) : Int)) (b := (300 : Int)) rfl rfl)) ?_
 obtain ⟨zs2, hz3⟩ : ∃ zs, zs = (o.body.take (min o.body.length 300)) := ⟨_, rfl⟩
 have zl4 : zs2.length = min (min o.body.length 300) (o.body).length - 0 := by rw [hz3]; simp; try omega
 have ze5 := (Elems.take (min o.body.length 300) oe)
 rw [← hz3] at ze5
 refine l_val (v := .slice oa (zs2.length) (oc)) rfl rfl rfl (ev_eq (by rw [show zs2.length = min o.body.length 300 by omega]) (e_slice_hi (a := oa) (len := o.body.length) (cap := oc) (h := min o.body.length 300) tf12 rfl rfl (by omega))) ?_
 refine l_val (v := .slice oa (zs2.length) (oc)) rfl rfl rfl (e_assign) ?_
 refine l_nil ?_
 refine f_then ?_
 refine c_ret ?_
 refine ret1 Try.results18 (v := .slice oa (zs2.length) (oc)) rfl ?_
 intro w hw
 subst hz3
 exact ⟨by rw [take_min], st_mask [false] rfl hw⟩
set_option maxHeartbeats 4000000 in
theorem short_ok (β : Base) (w : World) (hw : St β [] w) (o : KOp) (oa : Option Addr) (oc : Nat) (ol : o.body.length ≤ oc) (om : oc ≤ 9223372036854775807) (oe : Elems U8R β.heap oa o.body) : Calls Try.prog 39 #[.agg #[Bx o.kind, Bx o.power, .slice oa o.body.length oc]] w fun r w' => r = .returned (.agg #[Bx (shortO o).kind, .int .u8 0, .slice oa (o.body.take 20).length oc]) ∧ St β [] w' := by
 refine enter (n := 15) Try.func39 rfl Try.ntmps39 rfl ?_ hw
 refine c_seq ?_
 refine c_region ?_
 refine l_mv rfl rfl rfl (m_box (v := .agg #[Bx (o.kind), Bx (o.power), .slice oa (o.body.length) (oc)]) rfl) ?_
 rintro _ _ ⟨b1, rfl, rfl⟩
 refine l_mv rfl rfl rfl (m_alloc tf84) ?_
 rintro _ _ ⟨b2, rfl, rfl⟩
 refine l_nil ?_
 refine f_then ?_
 refine c_seq ?_
 obtain ⟨zs3, hz4⟩ : ∃ zs, zs = (o.body.take (min o.body.length 20)) := ⟨_, rfl⟩
 have zl5 : zs3.length = min (min o.body.length 20) (o.body).length - 0 := by rw [hz4]; simp; try omega
 have ze6 := (Elems.take (min o.body.length 20) oe)
 rw [← hz4] at ze6
 refine c_any [⟨[], [], [0], [3], fun f => f 3 = .pointer (some ⟨b1, 0, none⟩)⟩, ⟨[0], [0], [], [4], fun f => f 4 = Bx (o.kind)⟩, ⟨[0, 1], [1], [], [5], fun f => f 5 = .int .u8 (((o.kind.toNat % 5 : Nat)) : Int)⟩, ⟨[0, 1, 2], [2], [], [6], fun f => f 6 = .int .u8 (((o.kind.toNat % 5 % 3 : Nat)) : Int)⟩, ⟨[], [], [0], [7], fun f => f 7 = .pointer (some ⟨b1, 2, none⟩)⟩, ⟨[4], [4], [], [8], fun f => f 8 = .slice oa (o.body.length) (oc)⟩, ⟨[], [], [0], [9], fun f => f 9 = .pointer (some ⟨b1, 2, none⟩)⟩, ⟨[6], [6], [], [10], fun f => f 10 = .slice oa (o.body.length) (oc)⟩, ⟨[6, 7], [7], [], [11], fun f => f 11 = Nx (o.body.length)⟩, ⟨[6, 7, 8], [8], [], [12], fun f => f 12 = Nx (min o.body.length 20)⟩, ⟨[4, 5, 6, 7, 8, 9], [5, 9], [], [13], fun f => f 13 = .slice oa (zs3.length) (oc)⟩, ⟨[0, 1, 2, 3, 4, 5, 6, 7, 8, 9, 10], [3, 10], [], [14], fun f => f 14 = .agg #[.int .u8 (((o.kind.toNat % 5 % 3 : Nat)) : Int), .int .u8 (0), .slice oa (zs3.length) (oc)]⟩, ⟨[0, 1, 2, 3, 4, 5, 6, 7, 8, 9, 10, 11], [11], [1], [], fun _ => True⟩] [⟨none, (some 12), [12], [], fun _ => pt b2 (.cells #[.int .u8 (0), .int .u8 (0), .slice none 0 0] 47)⟩, ⟨none, none, [1, 5, 7], [], fun _ => pt b1 (.cells #[Bx (o.kind), Bx (o.power), .slice oa (o.body.length) (oc)] 47)⟩, ⟨(some 12), none, [], [], fun _ => pt b2 (.cells #[.int .u8 (((o.kind.toNat % 5 % 3 : Nat)) : Int), .int .u8 (0), .slice oa (zs3.length) (oc)] 47)⟩] [(1, .pointer (some ⟨b1, 0, none⟩)), (2, .pointer (some ⟨b2, 0, none⟩))] [1] [] (by kernel_rfl) (by kernel_rfl) (by kernel_rfl) (by kernel_rfl) rfl ⟨rfl, rfl, trivial⟩ ⟨?_, ?_, ?_, ?_, ?_, ?_, ?_, ?_, ?_, ?_, ?_, ?_, ?_, trivial⟩ ?_
 ·rintro f M - ⟨i0, -⟩
  have hs1 : f 1 = .pointer (some ⟨b1, 0, none⟩) := i0
  refine ob_start (L' := M) (by rfl) (up_cons rfl hs1) ?_
  refine l_val (v := .pointer (some ⟨b1, 0, none⟩)) rfl rfl rfl (e_fieldPt (b := b1) (o := 0) rfl tf85) ?_
  refine l_nil ?_
  exact f_owes_d (up_cons rfl hs1) rfl (List.Perm.refl _)
 ·rintro f M ⟨k0, -⟩ -
  have hs3 : f 3 = .pointer (some ⟨b1, 0, none⟩) := k0
  refine ob_start (L' := pt b1 (.cells #[Bx (o.kind), Bx (o.power), .slice oa (o.body.length) (oc)] 47) :: M) (by rfl) (up_cons rfl hs3) ?_
  refine l_val (v := Bx (o.kind)) rfl rfl rfl (e_load1 tf13 (v := Bx (o.kind)) rfl (k_pt 0 (cs := #[Bx (o.kind), Bx (o.power), .slice oa (o.body.length) (oc)]) (vs := [Bx (o.kind)]) rfl rfl)) ?_
  refine l_nil ?_
  exact f_owes_d (up_cons rfl hs3) rfl (perm_front 0 rfl)
 ·rintro f M ⟨k0, -⟩ -
  have hs4 : f 4 = Bx (o.kind) := k0
  refine ob_start (L' := M) (by rfl) (up_cons rfl hs4) ?_
  refine l_val (v := .int .u8 (((o.kind.toNat % 5 : Nat)) : Int)) rfl rfl rfl (e_rem (a := ((o.kind).toNat : Int)) (b := ((5 : Nat) : Int)) rfl rfl (by decide) (nat_tmod _ _)) ?_
  refine l_nil ?_
  exact f_owes_d (up_cons rfl hs4) rfl (List.Perm.refl _)
 ·rintro f M ⟨k0, -⟩ -
  have hs5 : f 5 = .int .u8 (((o.kind.toNat % 5 : Nat)) : Int) := k0
  refine ob_start (L' := M) (by rfl) (up_cons rfl hs5) ?_
  refine l_val (v := .int .u8 (((o.kind.toNat % 5 % 3 : Nat)) : Int)) rfl rfl rfl (e_rem (a := ((o.kind.toNat % 5 : Nat) : Int)) (b := ((3 : Nat) : Int)) rfl rfl (by decide) (nat_tmod _ 3)) ?_
  refine l_nil ?_
  exact f_owes_d (up_cons rfl hs5) rfl (List.Perm.refl _)
 ·rintro f M - ⟨i0, -⟩
  have hs1 : f 1 = .pointer (some ⟨b1, 0, none⟩) := i0
  refine ob_start (L' := M) (by rfl) (up_cons rfl hs1) ?_
  refine l_val (v := .pointer (some ⟨b1, 2, none⟩)) rfl rfl rfl (e_fieldPt (b := b1) (o := 0) rfl tf82) ?_
  refine l_nil ?_
  exact f_owes_d (up_cons rfl hs1) rfl (List.Perm.refl _)
 ·rintro f M ⟨k0, -⟩ -
  have hs7 : f 7 = .pointer (some ⟨b1, 2, none⟩) := k0
  refine ob_start (L' := pt b1 (.cells #[Bx (o.kind), Bx (o.power), .slice oa (o.body.length) (oc)] 47) :: M) (by rfl) (up_cons rfl hs7) ?_
  refine l_val (v := .slice oa (o.body.length) (oc)) rfl rfl rfl (e_load1 tf21 (v := .slice oa (o.body.length) (oc)) rfl (k_pt 0 (cs := #[Bx (o.kind), Bx (o.power), .slice oa (o.body.length) (oc)]) (vs := [.slice oa (o.body.length) (oc)]) rfl rfl)) ?_
  refine l_nil ?_
  exact f_owes_d (up_cons rfl hs7) rfl (perm_front 0 rfl)
 ·rintro f M - ⟨i0, -⟩
  have hs1 : f 1 = .pointer (some ⟨b1, 0, none⟩) := i0
  refine ob_start (L' := M) (by rfl) (up_cons rfl hs1) ?_
  refine l_val (v := .pointer (some ⟨b1, 2, none⟩)) rfl rfl rfl (e_fieldPt (b := b1) (o := 0) rfl tf82) ?_
  refine l_nil ?_
  exact f_owes_d (up_cons rfl hs1) rfl (List.Perm.refl _)
 ·rintro f M ⟨k0, -⟩ -
  have hs9 : f 9 = .pointer (some ⟨b1, 2, none⟩) := k0
  refine ob_start (L' := pt b1 (.cells #[Bx (o.kind), Bx (o.power), .slice oa (o.body.length) (oc)] 47) :: M) (by rfl) (up_cons rfl hs9) ?_
  refine l_val (v := .slice oa (o.body.length) (oc)) rfl rfl rfl (e_load1 tf21 (v := .slice oa (o.body.length) (oc)) rfl (k_pt 0 (cs := #[Bx (o.kind), Bx (o.power), .slice oa (o.body.length) (oc)]) (vs := [.slice oa (o.body.length) (oc)]) rfl rfl)) ?_
  refine l_nil ?_
  exact f_owes_d (up_cons rfl hs9) rfl (perm_front 0 rfl)
 ·rintro f M ⟨k0, -⟩ -
  have hs10 : f 10 = .slice oa (o.body.length) (oc) := k0
  refine ob_start (L' := M) (by rfl) (up_cons rfl hs10) ?_
  refine l_val (v := Nx (o.body.length)) rfl rfl rfl (e_len (a := oa) (n := o.body.length) (c := oc) rfl tf11) ?_
  refine l_nil ?_
  exact f_owes_d (up_cons rfl hs10) rfl (List.Perm.refl _)
 ·rintro f M ⟨k0, -⟩ -
  have hs11 : f 11 = Nx (o.body.length) := k0
  refine ob_start (L' := M) (by rfl) (up_cons rfl hs11) ?_
  refine l_val (v := Nx (min o.body.length 20)) rfl rfl rfl (ev_eq (congrArg (Value.int .i64) (by omega)) (e_min (a := ((o.body.length : Nat) : Int)) (b := (20 : Int)) rfl rfl)) ?_
  refine l_nil ?_
  exact f_owes_d (up_cons rfl hs11) rfl (List.Perm.refl _)
 ·rintro f M ⟨k0, k1, -⟩ -
  have hs8 : f 8 = .slice oa (o.body.length) (oc) := k0
  have hs12 : f 12 = Nx (min o.body.length 20) := k1
  refine ob_start (L' := M) (by rfl) (up_cons (up_cons rfl hs8) hs12) ?_
  refine l_val (v := .slice oa (zs3.length) (oc)) rfl rfl rfl (ev_eq (by rw [show zs3.length = min o.body.length 20 by omega]) (e_slice_hi (a := oa) (len := o.body.length) (cap := oc) (h := min o.body.length 20) tf12 rfl rfl (by omega))) ?_
  refine l_nil ?_
  exact f_owes_d (up_cons (up_cons rfl hs8) hs12) rfl (List.Perm.refl _)
 ·rintro f M ⟨k0, k1, -⟩ -
  have hs6 : f 6 = .int .u8 (((o.kind.toNat % 5 % 3 : Nat)) : Int) := k0
  have hs13 : f 13 = .slice oa (zs3.length) (oc) := k1
  refine ob_start (L' := M) (by rfl) (up_cons (up_cons rfl hs6) hs13) ?_
  refine l_val (v := .agg #[.int .u8 (((o.kind.toNat % 5 % 3 : Nat)) : Int), .int .u8 (0), .slice oa (zs3.length) (oc)]) rfl rfl rfl (e_build tf84 tf86 (vs := [(0, .int .u8 (((o.kind.toNat % 5 % 3 : Nat)) : Int)), (2, .slice oa (zs3.length) (oc))]) (cells := #[.int .u8 (((o.kind.toNat % 5 % 3 : Nat)) : Int), .int .u8 (0), .slice oa (zs3.length) (oc)]) rfl rfl) ?_
  refine l_nil ?_
  exact f_owes_d (up_cons (up_cons rfl hs6) hs13) rfl (List.Perm.refl _)
 ·rintro f M ⟨k0, -⟩ ⟨i0, -⟩
  have hs2 : f 2 = .pointer (some ⟨b2, 0, none⟩) := i0
  have hs14 : f 14 = .agg #[.int .u8 (((o.kind.toNat % 5 % 3 : Nat)) : Int), .int .u8 (0), .slice oa (zs3.length) (oc)] := k0
  refine ob_start (L' := pt b2 (.cells #[.int .u8 (0), .int .u8 (0), .slice none 0 0] 47) :: M) (by rfl) (up_cons (up_cons rfl hs2) hs14) ?_
  refine l_mu rfl rfl (m_store 0 tf87 (b := b2) (o := 0) (T := 47) (cs := #[.int .u8 (0), .int .u8 (0), .slice none 0 0]) (cs' := #[.int .u8 (((o.kind.toNat % 5 % 3 : Nat)) : Int), .int .u8 (0), .slice oa (zs3.length) (oc)]) (v := .agg #[.int .u8 (((o.kind.toNat % 5 % 3 : Nat)) : Int), .int .u8 (0), .slice oa (zs3.length) (oc)]) rfl rfl rfl rfl rfl rfl rfl) ?_
  refine l_nil ?_
  exact f_owes_n (up_cons (up_cons rfl hs2) hs14) trivial (perm_front 0 rfl)
 rintro fa7 ⟨-, -, -, -, -, -, -, -, -, -, -, -, -, -⟩ ⟨j0, -⟩
 refine f_re (L' := [pt b1 (.cells #[Bx (o.kind), Bx (o.power), .slice oa (o.body.length) (oc)] 47), pt b2 (.cells #[.int .u8 (((o.kind.toNat % 5 % 3 : Nat)) : Int), .int .u8 (0), .slice oa (zs3.length) (oc)] 47)]) (by rfl) ?_
 refine f_rebase (d := 2) (v := .pointer (some ⟨b2, 0, none⟩)) j0 ?_
 refine f_then ?_
 refine c_ret ?_
 refine retG (l := [.cell 2 47]) (m := [.agg #[.int .u8 (((o.kind.toNat % 5 % 3 : Nat)) : Int), .int .u8 (0), .slice oa (zs3.length) (oc)]]) (v := .agg #[.int .u8 (((o.kind.toNat % 5 % 3 : Nat)) : Int), .int .u8 (0), .slice oa (zs3.length) (oc)]) Try.results39 ⟨rd_cell tf87 (cs := [.int .u8 (((o.kind.toNat % 5 % 3 : Nat)) : Int), .int .u8 (0), .slice oa (zs3.length) (oc)]) rfl (k_pt 1 (cs := #[.int .u8 (((o.kind.toNat % 5 % 3 : Nat)) : Int), .int .u8 (0), .slice oa (zs3.length) (oc)]) (vs := [.int .u8 (((o.kind.toNat % 5 % 3 : Nat)) : Int), .int .u8 (0), .slice oa (zs3.length) (oc)]) rfl rfl) rfl, trivial⟩ rfl ?_
 intro w hw
 subst hz4
 exact ⟨by rw [take_min, short_kind], st_mask [false, false] rfl hw⟩
end Go.Proofs
