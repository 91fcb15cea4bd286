/-
 What the laws look at, walked. Printed by a program of my own.
-/
import Derived.Test.YtkpdcajddpiknaaJn6
import Derived.Test.YtkpdcajddpiknaaJnOp
import Derived.Test.YtkpdcajddpiknaaSlC
namespace Go.Proofs
open Go Go.Sl Go.Jn
theorem take_min {xs : Bs} {n : Nat} : xs.take (min xs.length n) = xs.take n := by
 rcases Nat.le_total xs.length n with h | h
 ·rw [Nat.min_eq_left h, List.take_of_length_le (Nat.le_refl _), List.take_of_length_le h]
 rw [Nat.min_eq_right h]
theorem tf77 : Try.prog.underlying 34 = some (.slice 30) := by kernel_rfl
theorem tf78 : slB Try.prog 25 9 1 = true := by kernel_rfl
theorem tf79 : (Try.prog.info? 9).bind (·.zero) = some (.string ⟨#[]⟩) := by kernel_rfl
theorem tf80 : elB Try.prog 9 1 16 = true := by kernel_rfl
theorem tf81 : Try.prog.underlying 25 = some (.slice 9) := by kernel_rfl
theorem tf82 : fldB Try.prog 47 2 2 1 false = true := by kernel_rfl
theorem tf83 : fldB Try.prog 47 1 1 1 false = true := by kernel_rfl
theorem tf84 : (Try.prog.info? 47).bind (·.zero) = some (.agg #[.int .u8 (0), .int .u8 (0), .slice none 0 0]) := by kernel_rfl
theorem tf85 : fldB Try.prog 47 0 0 1 false = true := by kernel_rfl
theorem tf87 : tyB Try.prog 47 true 3 = true := by kernel_rfl
theorem next_ok (β : Base) (w : World) (hw : St β [] w) (J S : Nat) (i : KI) (dn : Bool) (hj : JF J S i dn β.heap) : Calls Try.prog 19 #[pp J 0] w fun r w' => r = .returned (Nx i.next) ∧ St β [] w' := by
 obtain ⟨ps, pr, cs, cr, hJ, hst, hrc⟩ := hj
 obtain ⟨_, hsl, hsm, hse⟩ := Sl.parts hst
 obtain ⟨_, hrl, hrm, hre⟩ := Sl.parts hrc
 refine enter (n := 11) Try.func19 rfl Try.ntmps19 rfl ?_ hw
 refine csr ?_
 refine lv e_assign ?_
 refine lnf ?_
 refine cs2 ?_
 refine c_region ?_
 refine lv e_move ?_
 refine lcf (cl0 (vs := [.pointer (some (⟨J, 0, none⟩))]) tf38 rfl rfl) rfl fun w β1 sb kn hw1 back => (there_ok β1 w hw1 J S (by have h0 := Cs.sub (vs := [pp S 0]) 0 (Cs.mono _ _ _ _ sb hJ) rfl; rwa [Addr.add_zero'] at h0)).mono ?_
 rintro e w' ⟨rfl, hw'⟩
 refine ⟨_, rfl, _, back _ _ hw', ?_⟩
 clear hw1 hw' back kn sb
 refine lv (v := .bool false) (e_not (a := true) rfl) ?_
 refine lnf ?_
 refine c_no rfl ?_
 refine csk ?_
 refine csr ?_
 refine lv e_move ?_
 refine lv (v := .pointer (some (⟨J, 0, none⟩))) (e_nil (a := ⟨J, 0, none⟩) rfl) ?_
 refine lv (v := .pointer (some ((⟨J, 0, none⟩ : Addr).add 1))) (e_fieldAddr (a := ⟨J, 0, none⟩) rfl tf75) ?_
 refine lv (v := .pointer (some (((⟨J, 0, none⟩ : Addr).add 1 : Addr).add 1))) (e_fieldAddr (a := (⟨J, 0, none⟩ : Addr).add 1) rfl tf53) ?_
 refine lv (v := Nx (i.next)) (e_load1 tf25 rfl (Knows.imp (Knows.imp (kB hJ) (fun _ h => Cs.sub (vs := [Nx (i.epoch), Nx (i.next), sB ps i.state (cs), sB pr i.recs (cr), Nx (i.size)]) 1 h rfl)) (fun _ h => Cs.sub (vs := [Nx (i.next)]) 1 h rfl))) ?_
 refine lv e_assign ?_
 refine lnf ?_
 refine c_ret ?_
 refine ret1 Try.results19 (v := Nx (i.next)) rfl ?_
 intro w hw
 exact ⟨rfl, st_mask [] rfl hw⟩
theorem epochm_ok (β : Base) (w : World) (hw : St β [] w) (J S : Nat) (i : KI) (dn : Bool) (hj : JF J S i dn β.heap) : Calls Try.prog 41 #[pp J 0] w fun r w' => r = .returned (Nx i.epoch) ∧ St β [] w' := by
 obtain ⟨ps, pr, cs, cr, hJ, hst, hrc⟩ := hj
 obtain ⟨_, hsl, hsm, hse⟩ := Sl.parts hst
 obtain ⟨_, hrl, hrm, hre⟩ := Sl.parts hrc
 refine enter (n := 11) Try.func41 rfl Try.ntmps41 rfl ?_ hw
 refine csr ?_
 refine lv e_assign ?_
 refine lnf ?_
 refine cs2 ?_
 refine c_region ?_
 refine lv e_move ?_
 refine lcf (cl0 (vs := [.pointer (some (⟨J, 0, none⟩))]) tf38 rfl rfl) rfl fun w β1 sb kn hw1 back => (there_ok β1 w hw1 J S (by have h0 := Cs.sub (vs := [pp S 0]) 0 (Cs.mono _ _ _ _ sb hJ) rfl; rwa [Addr.add_zero'] at h0)).mono ?_
 rintro e w' ⟨rfl, hw'⟩
 refine ⟨_, rfl, _, back _ _ hw', ?_⟩
 clear hw1 hw' back kn sb
 refine lv (v := .bool false) (e_not (a := true) rfl) ?_
 refine lnf ?_
 refine c_no rfl ?_
 refine csk ?_
 refine csr ?_
 refine lv e_move ?_
 refine lv (v := .pointer (some (⟨J, 0, none⟩))) (e_nil (a := ⟨J, 0, none⟩) rfl) ?_
 refine lv (v := .pointer (some ((⟨J, 0, none⟩ : Addr).add 1))) (e_fieldAddr (a := ⟨J, 0, none⟩) rfl tf75) ?_
 refine lv (v := .pointer (some (((⟨J, 0, none⟩ : Addr).add 1 : Addr).add 0))) (e_fieldAddr (a := (⟨J, 0, none⟩ : Addr).add 1) rfl tf48) ?_
 refine lv (v := Nx (i.epoch)) (e_load1 tf25 rfl (Knows.imp (Knows.imp (kB hJ) (fun _ h => Cs.sub (vs := [Nx (i.epoch), Nx (i.next), sB ps i.state (cs), sB pr i.recs (cr), Nx (i.size)]) 1 h rfl)) (fun _ h => Cs.sub (vs := [Nx (i.epoch)]) 0 h rfl))) ?_
 refine lv e_assign ?_
 refine lnf ?_
 refine c_ret ?_
 refine ret1 Try.results41 (v := Nx (i.epoch)) rfl ?_
 intro w hw
 exact ⟨rfl, st_mask [] rfl hw⟩
theorem state_ok (β : Base) (w : World) (hw : St β [] w) (J S : Nat) (i : KI) (dn : Bool) (hj : JF J S i dn β.heap) (hb : i.state.length ≤ 1048576) : Calls Try.prog 42 #[pp J 0] w fun r w' => ∃ p c, r = .returned (sB p i.state c) ∧ St β [rB p i.state c] w' := by
 obtain ⟨ps, pr, cs, cr, hJ, hst, hrc⟩ := hj
 obtain ⟨_, hsl, hsm, hse⟩ := Sl.parts hst
 obtain ⟨_, hrl, hrm, hre⟩ := Sl.parts hrc
 refine enter (n := 12) Try.func42 rfl Try.ntmps42 rfl ?_ hw
 refine csr ?_
 refine lv e_assign ?_
 refine lnf ?_
 refine cs2 ?_
 refine c_region ?_
 refine lv e_move ?_
 refine lcf (cl0 (vs := [.pointer (some (⟨J, 0, none⟩))]) tf38 rfl rfl) rfl fun w β1 sb kn hw1 back => (there_ok β1 w hw1 J S (by have h0 := Cs.sub (vs := [pp S 0]) 0 (Cs.mono _ _ _ _ sb hJ) rfl; rwa [Addr.add_zero'] at h0)).mono ?_
 rintro e w' ⟨rfl, hw'⟩
 refine ⟨_, rfl, _, back _ _ hw', ?_⟩
 clear hw1 hw' back kn sb
 refine lv (v := .bool false) (e_not (a := true) rfl) ?_
 refine lnf ?_
 refine c_no rfl ?_
 refine csk ?_
 refine csr ?_
 refine lv e_move ?_
 refine lv (v := .pointer (some (⟨J, 0, none⟩))) (e_nil (a := ⟨J, 0, none⟩) rfl) ?_
 refine lv (v := .pointer (some ((⟨J, 0, none⟩ : Addr).add 1))) (e_fieldAddr (a := ⟨J, 0, none⟩) rfl tf75) ?_
 refine lv (v := .pointer (some (((⟨J, 0, none⟩ : Addr).add 1 : Addr).add 2))) (e_fieldAddr (a := (⟨J, 0, none⟩ : Addr).add 1) rfl tf63) ?_
 refine lv (v := sB ps i.state (cs)) (e_load1 tf21 rfl (Knows.imp (Knows.imp (kB hJ) (fun _ h => Cs.sub (vs := [Nx (i.epoch), Nx (i.next), sB ps i.state (cs), sB pr i.recs (cr), Nx (i.size)]) 1 h rfl)) (fun _ h => Cs.sub (vs := [sB ps i.state (cs)]) 2 h rfl))) ?_
 refine lcf (cl0 (vs := [sB ps i.state (cs)]) tf62 rfl rfl) rfl fun w β1 sb kn hw1 back => (clone_ok β1 w hw1 i.state _ (by omega) (Sl.mono _ _ _ _ _ sb (⟨⟨_, _, rfl, hsl, hsm, hse⟩⟩ : Sl U8R _ _ i.state))).mono ?_
 rintro e w' ⟨p1, c2, rfl, hw'⟩
 refine ⟨_, rfl, _, back _ _ hw', ?_⟩
 clear hw1 hw' back kn sb
 refine lv e_assign ?_
 refine lnf ?_
 refine c_ret ?_
 refine ret1 Try.results42 (v := sB p1 i.state c2) rfl ?_
 intro w hw
 exact ⟨_, _, rfl, st_mask [true] rfl hw⟩
set_option maxHeartbeats 4000000 in
theorem records_ok (β : Base) (w : World) (hw : St β [] w) (J S : Nat) (i : KI) (dn : Bool) (hj : JF J S i dn β.heap) (hn : i.recs.length ≤ 1048576) (hbs : ∀ b ∈ i.recs, b.length ≤ 1048576) : Calls Try.prog 43 #[pp J 0] w fun r w' => ∃ p c, r = .returned (sB p i.recs c) ∧ St β [recsR 30 p c i.recs] w' := by
 obtain ⟨ps, pr, cs, cr, hJ, hst, hrc⟩ := hj
 obtain ⟨_, hsl, hsm, hse⟩ := Sl.parts hst
 obtain ⟨_, hrl, hrm, hre⟩ := Sl.parts hrc
 refine enter (n := 26) Try.func43 rfl Try.ntmps43 rfl ?_ hw
 refine csr ?_
 refine lv e_assign ?_
 refine lnf ?_
 refine cs2 ?_
 refine c_region ?_
 refine lv e_move ?_
 refine lcf (cl0 (vs := [.pointer (some (⟨J, 0, none⟩))]) tf38 rfl rfl) rfl fun w β1 sb kn hw1 back => (there_ok β1 w hw1 J S (by have h0 := Cs.sub (vs := [pp S 0]) 0 (Cs.mono _ _ _ _ sb hJ) rfl; rwa [Addr.add_zero'] at h0)).mono ?_
 rintro e w' ⟨rfl, hw'⟩
 refine ⟨_, rfl, _, back _ _ hw', ?_⟩
 clear hw1 hw' back kn sb
 refine lv (v := .bool false) (e_not (a := true) rfl) ?_
 refine lnf ?_
 refine c_no rfl ?_
 refine csk ?_
 refine csr ?_
 refine lv e_assign ?_
 refine lnf ?_
 refine cs2 ?_
 refine c_emp (r := recsR 30 none 0 []) (recs_nil _ _) ?_
 refine c_region ?_
 refine lv e_move ?_
 refine lv (v := .pointer (some (⟨J, 0, none⟩))) (e_nil (a := ⟨J, 0, none⟩) rfl) ?_
 refine lv (v := .pointer (some ((⟨J, 0, none⟩ : Addr).add 1))) (e_fieldAddr (a := ⟨J, 0, none⟩) rfl tf75) ?_
 refine lv (v := .pointer (some (((⟨J, 0, none⟩ : Addr).add 1 : Addr).add 3))) (e_fieldAddr (a := (⟨J, 0, none⟩ : Addr).add 1) rfl tf64) ?_
 refine lv (v := sB pr i.recs (cr)) (e_load1 tf65 rfl (Knows.imp (Knows.imp (kB hJ) (fun _ h => Cs.sub (vs := [Nx (i.epoch), Nx (i.next), sB ps i.state (cs), sB pr i.recs (cr), Nx (i.size)]) 1 h rfl)) (fun _ h => Cs.sub (vs := [sB pr i.recs (cr)]) 3 h rfl))) ?_
 refine lv (v := Nx (i.recs.length)) (e_len (a := pr) (n := i.recs.length) (c := cr) rfl tf77) ?_
 refine lv e_move ?_
 refine lnf ?_
 refine c_block ?_
 refine c_loop (fun (x_ : Nat × Option Addr × Nat) (f : Fm) (L : List Res) => match x_ with | (k, p, c) => (f 3 = sB p ((i.recs.take k)) c ∧ f 13 = sB pr i.recs (cr) ∧ f 14 = Nx (i.recs.length) ∧ f 15 = Nx (k)) ∧ L = [recsR 30 p c (i.recs.take k)] ∧ (k ≤ i.recs.length)) (fun (x_ : Nat × Option Addr × Nat) => match x_ with | (k, p, c) => i.recs.length - k) (0, none, 0) ?_ ?_
 ·exact ⟨⟨rfl, rfl, rfl, rfl⟩, rfl, (by omega)⟩
 rintro ⟨k, p, c⟩ f0 L0 ⟨⟨hs3, hs13, hs14, hs15⟩, hL, hk⟩
 subst L0
 refine rebase (d := 3) hs3 ?_
 refine rebase (d := 13) hs13 ?_
 refine rebase (d := 14) hs14 ?_
 refine rebase (d := 15) hs15 ?_
 clear hs3 hs13 hs14 hs15
 have htl : (i.recs.take k).length ≤ i.recs.length := by simp; omega
 refine csr ?_
 refine lv (e_lss (a := ((k : Nat) : Int)) (b := ((i.recs.length : Nat) : Int)) rfl rfl) ?_
 refine lnf ?_
 refine c_seq ?_
 refine c_if (((k : Nat) : Int) < ((i.recs.length : Nat) : Int)) rfl (fun hc1 => ?_) (fun hc1 => ?_)
 ·refine csk ?_
  refine c_seq ?_
  refine c_block ?_
  refine csr ?_
  obtain ⟨x2, hx3⟩ : ∃ x_, (i.recs)[k]? = some x_ := ⟨_, List.getElem?_eq_getElem (by omega)⟩
  obtain ⟨ha4, cs5, hc6, hr7⟩ := hre _ _ hx3
  obtain ⟨v8, rfl, hv9⟩ := hr7
  obtain ⟨a10, c11, rfl, hl12, hm13, he14⟩ := (hv9).get
  refine lv (v := .pointer (some ((ba pr).add (k * 1)))) (e_indexAddr (k := k) (len := i.recs.length) (cap := cr) (a := pr) rfl rfl tf66 (by omega) ha4) ?_
  refine lv (v := sB a10 x2 (c11)) (e_load1 tf21 rfl (kB hc6)) ?_
  refine lv e_assign ?_
  refine lnf ?_
  have hbl := hbs _ (List.mem_of_getElem? hx3)
  refine c_region ?_
  refine lv e_move ?_
  refine lv e_move ?_
  refine lcf (cl0 (vs := [sB a10 x2 (c11)]) tf62 rfl rfl) rfl fun w β1 sb kn hw1 back => (clone_ok β1 w hw1 x2 _ (by omega) (Sl.mono _ _ _ _ _ sb (⟨⟨_, _, rfl, by omega, by omega, he14⟩⟩ : Sl U8R _ _ x2))).mono ?_
  rintro e w' ⟨p15, c16, rfl, hw'⟩
  refine ⟨_, rfl, _, back _ _ hw', ?_⟩
  clear hw1 hw' back kn sb
  refine l_mv rfl rfl rfl (m_slices tf66 tf67 (cells := #[sB p15 x2 c16]) rfl rfl rfl rfl) ?_
  rintro _ _ ⟨b17, rfl, rfl⟩
  refine l_perm (L' := [recsR 30 p c (i.recs.take k), rB p15 x2 c16, pt b17 (.cells #[sB p15 x2 c16] 30)]) (by exact (perm_ix [2, 1, 0] 3 rfl (by kernel_rfl) (by kernel_rfl))) ?_
  refine l_mv rfl rfl rfl (m_appendRec (xs := (i.recs.take k)) (bs := x2) (b := b17) rfl tf66 tf68 rfl rfl (by omega) (by omega)) ?_
  rintro _ _ ⟨rp18, rc19, rfl, rfl⟩
  refine lv e_assign ?_
  refine l_nil ?_
  refine f_block ?_
  refine f_then ?_
  refine c_region ?_
  refine lv (v := Nx (k + 1)) (e_add (a := ((k : Nat) : Int)) (b := (1 : Int)) rfl rfl (i64n (by omega) (by omega))) ?_
  refine lv e_move ?_
  refine l_nil ?_
  refine f_mask (L' := [recsR 30 rp18 rc19 ((i.recs.take k) ++ [x2])]) [true, false] rfl ?_
  exact f_cut ⟨(k + 1, rp18, rc19), ⟨⟨(by rw [take_succ hx3]; rfl), rfl, rfl, rfl⟩, (by rw [take_succ hx3]), (by omega)⟩, (show i.recs.length - (k + 1) < i.recs.length - k from by omega)⟩
 refine c_exit ?_
 refine f_then_exit ?_
 refine f_then_exit ?_
 refine f_exit ?_
 refine ftc ?_
 refine lv e_move ?_
 refine lv e_assign ?_
 refine lnf ?_
 refine c_ret ?_
 refine ret1 Try.results43 (v := sB p ((i.recs.take k)) c) rfl ?_
 intro w hw
 rw [List.take_of_length_le (show i.recs.length ≤ k by omega)] at hw ⊢
 exact ⟨_, _, rfl, st_mask [true] rfl hw⟩
set_option maxHeartbeats 4000000 in
theorem text_ok (β : Base) (w : World) (hw : St β [] w) (xs : List Bs) (v : Value) (hn : xs.length ≤ 1048576) (hs : Sl BsR β.heap v xs) : Calls Try.prog 15 #[v] w fun r w' => ∃ p c, r = .returned (sB p (xs.map str) c) ∧ St β [row (sB p (xs.map str) c) 9 1 (xs.map str).length ((xs.map str).map (fun s : ByteArray => Value.string s))] w' := by
 obtain ⟨va, vc, rfl, vl, vm, ve⟩ := hs.get
 refine enter (n := 19) Try.func15 rfl Try.ntmps15 rfl ?_ hw
 refine csr ?_
 refine lv e_assign ?_
 refine lnc ?_
 refine lv e_assign ?_
 refine lnf ?_
 refine cs2 ?_
 refine c_emp (r := row (.slice none 0 0) 9 1 0 ([].map (fun s : ByteArray => Value.string s))) (row_nil _ _ _) ?_
 refine c_region ?_
 refine lv e_move ?_
 refine lv (v := Nx (xs.length)) (e_len (a := va) (n := xs.length) (c := vc) rfl tf77) ?_
 refine lv e_move ?_
 refine lnf ?_
 refine c_block ?_
 refine c_loop (fun (x_ : Nat × List ByteArray × Option Addr × Nat) (f : Fm) (L : List Res) => match x_ with | (k, ys, p, c) => (f 3 = sB p ys c ∧ f 6 = sB va xs (vc) ∧ f 7 = Nx (xs.length) ∧ f 8 = Nx (k)) ∧ L = [row (sB p ys c) 9 1 ((ys).length) (ys.map (fun s : ByteArray => Value.string s))] ∧ (k ≤ xs.length ∧ ys = (xs.take k).map str)) (fun (x_ : Nat × List ByteArray × Option Addr × Nat) => match x_ with | (k, ys, p, c) => xs.length - k) (0, [], none, 0) ?_ ?_
 ·exact ⟨⟨rfl, rfl, rfl, rfl⟩, rfl, ⟨by omega, rfl⟩⟩
 rintro ⟨k, ys, p, c⟩ f0 L0 ⟨⟨hs3, hs6, hs7, hs8⟩, hL, ⟨hk, hys⟩⟩
 subst L0
 refine rebase (d := 3) hs3 ?_
 refine rebase (d := 6) hs6 ?_
 refine rebase (d := 7) hs7 ?_
 refine rebase (d := 8) hs8 ?_
 clear hs3 hs6 hs7 hs8
 have hyl : ys.length ≤ xs.length := by rw [hys]; simp; omega
 refine csr ?_
 refine lv (e_lss (a := ((k : Nat) : Int)) (b := ((xs.length : Nat) : Int)) rfl rfl) ?_
 refine lnf ?_
 refine c_seq ?_
 refine c_if (((k : Nat) : Int) < ((xs.length : Nat) : Int)) rfl (fun hc1 => ?_) (fun hc1 => ?_)
 ·refine csk ?_
  refine c_seq ?_
  refine c_block ?_
  refine csr ?_
  obtain ⟨x2, hx3⟩ : ∃ x_, (xs)[k]? = some x_ := ⟨_, List.getElem?_eq_getElem (by omega)⟩
  obtain ⟨ha4, cs5, hc6, hr7⟩ := ve _ _ hx3
  obtain ⟨v8, rfl, hv9⟩ := hr7
  obtain ⟨a10, c11, rfl, hl12, hm13, he14⟩ := (hv9).get
  refine lv (v := .pointer (some ((ba va).add (k * 1)))) (e_indexAddr (k := k) (len := xs.length) (cap := vc) (a := va) rfl rfl tf66 (by omega) ha4) ?_
  refine lv (v := sB a10 x2 (c11)) (e_load1 tf21 rfl (kB hc6)) ?_
  refine lv e_assign ?_
  refine lnr ?_
  refine lv e_move ?_
  refine lv e_move ?_
  refine lv (v := .string (str x2)) (e_bytesStr (a := a10) (bs := x2) (m := x2.length) (c := c11) rfl (by first | rfl | simp) tf11 tf8 tf7 (Knows.of_base (Elems.mono _ _ _) he14)) ?_
  refine l_mv rfl rfl rfl (m_slices tf78 tf79 (cells := #[.string (str x2)]) rfl rfl rfl rfl) ?_
  rintro _ _ ⟨b15, rfl, rfl⟩
  refine l_mv rfl rfl rfl (m_appendE (enc := (fun s : ByteArray => Value.string s)) 1 str_cell tf78 tf80 (v := sB p ys c) (xs := ys) (ys := [str x2]) (ao := some ⟨b15, 0, none⟩) (c := 1) rfl rfl (by first | rfl | simp) rfl (by first | rfl | simp) (k_ptE 0 (xs := [str x2]) rfl) (by first | omega | (simp only [List.length_append, List.length_nil, List.length_cons, be_length] at *; omega)) (by first | omega | (simp only [List.length_append, List.length_nil, List.length_cons, be_length] at *; omega))) ?_
  rintro _ _ ⟨rp16, rc17, rfl, rfl⟩
  refine lv e_assign ?_
  refine l_nil ?_
  refine f_block ?_
  refine f_then ?_
  refine c_region ?_
  refine lv (v := Nx (k + 1)) (e_add (a := ((k : Nat) : Int)) (b := (1 : Int)) rfl rfl (i64n (by omega) (by omega))) ?_
  refine lv e_move ?_
  refine l_nil ?_
  refine f_mask (L' := [row (sB rp16 (ys ++ [str x2]) rc17) 9 1 ((ys ++ [str x2]).length) ((ys ++ [str x2]).map (fun s : ByteArray => Value.string s))]) [false, true] rfl ?_
  exact f_cut ⟨(k + 1, ys ++ [str x2], rp16, rc17), ⟨⟨rfl, rfl, rfl, rfl⟩, rfl, ⟨by omega, by rw [hys, take_succ hx3]; simp⟩⟩, (show xs.length - (k + 1) < xs.length - k from by omega)⟩
 refine c_exit ?_
 refine f_then_exit ?_
 refine f_then_exit ?_
 refine f_exit ?_
 refine ftc ?_
 refine lv e_move ?_
 refine lv e_assign ?_
 refine lnf ?_
 refine c_ret ?_
 refine ret1 Try.results15 (v := sB p ys c) rfl ?_
 intro w hw
 rw [List.take_of_length_le (show xs.length ≤ k by omega)] at hys
 subst hys
 exact ⟨_, _, rfl, st_mask [true] rfl hw⟩
set_option maxHeartbeats 4000000 in
theorem samet_ok (β : Base) (w : World) (hw : St β [] w) (xs ys : List ByteArray) (v u : Value) (hx : Sl StrR β.heap v xs) (hy : Sl StrR β.heap u ys) : Calls Try.prog 14 #[v, u] w fun r w' => r = .returned (.bool (decide (xs = ys))) ∧ St β [] w' := by
 obtain ⟨va, vc, rfl, vl, vm, ve⟩ := hx.get
 obtain ⟨ua, uc, rfl, ul, um, ue⟩ := hy.get
 refine enter (n := 26) Try.func14 rfl Try.ntmps14 rfl ?_ hw
 refine csr ?_
 refine lv e_assign ?_
 refine lnf ?_
 refine cs2 ?_
 refine c_region ?_
 refine lv e_move ?_
 refine lv (v := Nx (xs.length)) (e_len (a := va) (n := xs.length) (c := vc) rfl tf81) ?_
 refine lv e_move ?_
 refine lv (v := Nx (ys.length)) (e_len (a := ua) (n := ys.length) (c := uc) rfl tf81) ?_
 refine lv (e_neq (a := ((xs.length : Nat) : Int)) (b := ((ys.length : Nat) : Int)) rfl rfl) ?_
 refine lnf ?_
 refine c_if (((xs.length : Nat) : Int) ≠ ((ys.length : Nat) : Int)) rfl (fun hc1 => ?_) (fun hc1 => ?_)
 ·refine csr ?_
  refine lv e_assign ?_
  refine lnf ?_
  refine c_ret ?_
  refine f_then_ret ?_
  refine ret1 Try.results14 (v := .bool false) rfl ?_
  intro w hw
  exact ⟨bool_f (fun h => by subst h; omega), st_mask [] rfl hw⟩
 refine csk ?_
 refine cs2 ?_
 refine c_region ?_
 refine lv e_assign ?_
 refine lnf ?_
 refine c_block ?_
 refine c_loop (fun (k : Nat) (f : Fm) (L : List Res) => (f 0 = sB va xs (vc) ∧ f 1 = sB ua ys (uc) ∧ f 5 = Nx (k)) ∧ L = [] ∧ (k ≤ xs.length ∧ xs.take k = ys.take k)) (fun (k : Nat) => xs.length - k) 0 ?_ ?_
 ·exact ⟨⟨rfl, rfl, rfl⟩, rfl, ⟨by omega, rfl⟩⟩
 rintro k f0 L0 ⟨⟨hs0, hs1, hs5⟩, hL, ⟨hp1, hp2⟩⟩
 subst L0
 refine rebase (d := 0) hs0 ?_
 refine rebase (d := 1) hs1 ?_
 refine rebase (d := 5) hs5 ?_
 clear hs0 hs1 hs5
 refine cs2 ?_
 refine c_region ?_
 refine lv e_move ?_
 refine lv e_move ?_
 refine lv (v := Nx (xs.length)) (e_len (a := va) (n := xs.length) (c := vc) rfl tf81) ?_
 refine lv (e_lss (a := ((k : Nat) : Int)) (b := ((xs.length : Nat) : Int)) rfl rfl) ?_
 refine lnf ?_
 refine c_if (((k : Nat) : Int) < ((xs.length : Nat) : Int)) rfl (fun hc2 => ?_) (fun hc2 => ?_)
 ·refine csk ?_
  refine c_seq ?_
  refine c_block ?_
  refine c_seq ?_
  refine c_quiet (by kernel_rfl) (by kernel_rfl) ?_
  refine q_val (v := sB va xs (vc)) rfl rfl rfl e_move ?_
  refine q_val (v := Nx (k)) rfl rfl rfl e_move ?_
  obtain ⟨x3, hx4⟩ : ∃ x_, (xs)[k]? = some x_ := ⟨_, List.getElem?_eq_getElem (by omega)⟩
  obtain ⟨ha5, cs6, hc7, rfl⟩ := ve _ _ hx4
  refine q_val (v := .pointer (some ((ba va).add (k * 1)))) rfl rfl rfl (e_indexAddr (k := k) (len := xs.length) (cap := vc) (a := va) rfl rfl tf78 (by omega) ha5) ?_
  refine q_val (v := .string (x3)) rfl rfl rfl (e_load1 tf6 rfl (kB hc7)) ?_
  refine q_val (v := sB ua ys (uc)) rfl rfl rfl e_move ?_
  refine q_val (v := Nx (k)) rfl rfl rfl e_move ?_
  obtain ⟨x9, hx10⟩ : ∃ x_, (ys)[k]? = some x_ := ⟨_, List.getElem?_eq_getElem (by omega)⟩
  obtain ⟨ha11, cs12, hc13, rfl⟩ := ue _ _ hx10
  refine q_val (v := .pointer (some ((ba ua).add (k * 1)))) rfl rfl rfl (e_indexAddr (k := k) (len := ys.length) (cap := uc) (a := ua) rfl rfl tf78 (by omega) ha11) ?_
  refine q_val (v := .string (x9)) rfl rfl rfl (e_load1 tf6 rfl (kB hc13)) ?_
  refine q_val (v := .bool (decide (x3 ≠ x9))) rfl rfl rfl (e_neq_s (a := x3) (b := x9) rfl rfl) ?_
  refine q_nil ?_
  refine f_then ?_
  refine c_if (x3 ≠ x9) rfl (fun hc15 => ?_) (fun hc15 => ?_)
  ·refine csr ?_
   refine lv e_assign ?_
   refine lnf ?_
   refine c_ret ?_
   refine f_block_ret ?_
   refine f_then_ret ?_
   refine f_then_ret ?_
   refine f_block_ret ?_
   refine f_then_ret ?_
   refine ret1 Try.results14 (v := .bool false) rfl ?_
   intro w hw
   exact ⟨bool_f (list_ne hx4 hx10 hc15), st_mask [] rfl hw⟩
  refine c_skip ?_
  refine f_block ?_
  refine f_then ?_
  refine c_region ?_
  refine lv e_move ?_
  refine lv (v := Nx (k + 1)) (e_add (a := ((k : Nat) : Int)) (b := (1 : Int)) rfl rfl (i64n (by omega) (by omega))) ?_
  refine lv e_assign ?_
  refine l_nil ?_
  exact f_cut ⟨k + 1, ⟨⟨rfl, rfl, rfl⟩, rfl, ⟨by omega, take_next hx4 (by rw [hx10, Decidable.not_not.1 hc15]) hp2⟩⟩, (show xs.length - (k + 1) < xs.length - k from by omega)⟩
 refine c_exit ?_
 refine f_then_exit ?_
 refine f_then_exit ?_
 refine f_exit ?_
 refine ftc ?_
 refine lv e_assign ?_
 refine lnf ?_
 refine c_ret ?_
 refine ret1 Try.results14 (v := .bool true) rfl ?_
 intro w hw
 exact ⟨bool_t (take_all hp2 (by omega) (by omega)), st_mask [] rfl hw⟩
theorem body_ok (β : Base) (w : World) (hw : St β [] w) (o : KOp) (oa : Option Addr) (oc : Nat) (ol : o.body.length ≤ oc) (om : oc ≤ 9223372036854775807) (oe : Elems U8R β.heap oa o.body) : Calls Try.prog 18 #[.agg #[Bx o.kind, Bx o.power, sB oa o.body oc]] w fun r w' => r = .returned (sB oa (o.body.take 300) oc) ∧ St β [] w' := by
 refine enter (n := 10) Try.func18 rfl Try.ntmps18 rfl ?_ hw
 refine csr ?_
 refine l_mv rfl rfl rfl (m_box (v := .agg #[Bx (o.kind), Bx (o.power), sB oa o.body (oc)]) rfl) ?_
 rintro _ _ ⟨b1, rfl, rfl⟩
 refine lv e_assign ?_
 refine lnc ?_
 refine lv (e_fieldPt rfl tf82) ?_
 refine lv (v := sB oa o.body (oc)) (e_load1 tf21 rfl (k_pt 0 rfl rfl)) ?_
 refine lv (e_fieldPt rfl tf82) ?_
 refine lv (v := sB oa o.body (oc)) (e_load1 tf21 rfl (k_pt 0 rfl rfl)) ?_
 refine lv (v := Nx (o.body.length)) (e_len (a := oa) (n := o.body.length) (c := oc) rfl tf11) ?_
 refine lv (v := Nx (min o.body.length 300)) (ev_eq (congrArg (Value.int .i64) (by omega)) (e_min (a := ((o.body.length : Nat) : Int)) (b := (300 : Int)) rfl rfl)) ?_
 obtain ⟨zs2, hz3⟩ : ∃ zs, zs = (o.body.take (min o.body.length 300)) := ⟨_, rfl⟩
 have zl4 : zs2.length = min (min o.body.length 300) (o.body).length - 0 := by rw [hz3]; simp; try omega
 have ze5 := (Elems.take (min o.body.length 300) oe)
 rw [← hz3] at ze5
 refine lv (v := .slice oa (zs2.length) (oc)) (ev_eq (by rw [show zs2.length = min o.body.length 300 by omega]) (e_slice_hi (a := oa) (len := o.body.length) (cap := oc) (h := min o.body.length 300) tf12 rfl rfl (by omega))) ?_
 refine lv e_assign ?_
 refine lnf ?_
 refine c_ret ?_
 refine ret1 Try.results18 (v := sB oa zs2 (oc)) rfl ?_
 intro w hw
 subst hz3
 exact ⟨by rw [take_min], st_mask [false] rfl hw⟩
theorem power_ok (β : Base) (w : World) (hw : St β [] w) (o : KOp) (oa : Option Addr) (oc : Nat) (ol : o.body.length ≤ oc) (om : oc ≤ 9223372036854775807) (oe : Elems U8R β.heap oa o.body) : Calls Try.prog 21 #[.agg #[Bx o.kind, Bx o.power, sB oa o.body oc]] w fun r w' => r = .returned (Ix (powerF o)) ∧ St β [] w' := by
 refine enter (n := 11) Try.func21 rfl Try.ntmps21 rfl ?_ hw
 refine csr ?_
 refine l_mv rfl rfl rfl (m_box (v := .agg #[Bx (o.kind), Bx (o.power), sB oa o.body (oc)]) rfl) ?_
 rintro _ _ ⟨b1, rfl, rfl⟩
 refine lv e_assign ?_
 refine lnf ?_
 refine cs2 ?_
 refine c_region ?_
 refine lv (e_fieldPt rfl tf83) ?_
 refine lv (v := Bx (o.power)) (e_load1 tf13 rfl (k_pt 0 rfl rfl)) ?_
 refine lv (v := .int .u8 (((o.power.toNat % 200 : Nat)) : Int)) (e_rem (a := ((o.power).toNat : Int)) (b := ((200 : Nat) : Int)) rfl rfl (by decide) (nat_tmod _ _)) ?_
 refine lv (e_eql (a := ((o.power.toNat % 200 : Nat) : Int)) (b := (199 : Int)) rfl rfl) ?_
 refine lnf ?_
 refine c_if (((o.power.toNat % 200 : Nat) : Int) = (199 : Int)) rfl (fun hc2 => ?_) (fun hc2 => ?_)
 ·refine csr ?_
  refine lv e_assign ?_
  refine lnf ?_
  refine c_ret ?_
  refine f_then_ret ?_
  refine ret1 Try.results21 (v := .int .i64 (-1)) rfl ?_
  intro w hw
  exact ⟨by rw [powerF, if_pos (by omega)], st_mask [false] rfl hw⟩
 refine csk ?_
 refine csr ?_
 refine lv (e_fieldPt rfl tf83) ?_
 refine lv (v := Bx (o.power)) (e_load1 tf13 rfl (k_pt 0 rfl rfl)) ?_
 refine lv (v := .int .u8 (((o.power.toNat % 200 : Nat)) : Int)) (e_rem (a := ((o.power).toNat : Int)) (b := ((200 : Nat) : Int)) rfl rfl (by decide) (nat_tmod _ _)) ?_
 refine lv (v := Nx (o.power.toNat % 200)) (e_conv (a := ((o.power.toNat % 200 : Nat) : Int)) rfl ⟨_, tf8⟩ tf1 (i64n rfl (by omega))) ?_
 refine lv e_assign ?_
 refine lnf ?_
 refine c_ret ?_
 refine ret1 Try.results21 (v := Nx (o.power.toNat % 200)) rfl ?_
 intro w hw
 exact ⟨by rw [powerF, if_neg (by omega)], st_mask [false] rfl hw⟩
end Go.Proofs
