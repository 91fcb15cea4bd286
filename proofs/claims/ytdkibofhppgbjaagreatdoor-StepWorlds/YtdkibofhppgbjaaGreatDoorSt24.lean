/-
 fly, Back, World: walked. Printed by a program of my own.
-/
import Derived.Test.YtdkibofhppgbjaaGreatDoorSt22
import Derived.Test.YtdkibofhppgbjaaGreatDoorStBack
namespace Go.Proofs
open Go Go.Sl Go.Stp
theorem uc135 : elB Tryz.prog 120 5 40 = true := by kernel_rfl
theorem cloneC_ok (β : Base) (w : World) (hw : St β [] w) (v : Value) (xs : List KComp) (hs : Sl CompR β.heap v xs) (hn : xs.length ≤ 1048576) : Calls Tryz.prog 64 #[v] w fun r w' => ∃ p c, r = .returned (.slice p xs.length c) ∧ St β [rowF CompF 120 p c xs] w' := by
 obtain ⟨va, vc, rfl, vl, vm, ve⟩ := hs.get
 refine enter (n := 8) Tryz.func64 rfl Tryz.ntmps64 rfl ?_ hw
 refine c_seq ?_
 refine c_region ?_
 refine l_val (v := .slice none 0 0) rfl rfl rfl (e_assign) ?_
 refine l_nil ?_
 refine f_then ?_
 refine c_seq ?_
 refine c_seq ?_
 refine c_region ?_
 refine l_val (v := .slice va (xs.length) (vc)) rfl rfl rfl (e_move) ?_
 refine l_val (v := .bool (va.isNone)) rfl rfl rfl (e_eql_snil (a := va) rfl rfl uc114) ?_
 refine l_nil ?_
 refine f_then ?_
 refine c_ifb (va.isNone) rfl (fun hc1 => ?_) (fun hc1 => ?_)
 ·
  refine c_seq ?_
  refine c_region ?_
  refine l_val (v := .slice none 0 0) rfl rfl rfl (e_assign) ?_
  refine l_nil ?_
  refine f_then ?_
  refine c_ret ?_
  refine f_then_ret ?_
  refine ret1 Tryz.results64 (v := .slice none 0 0) rfl ?_
  intro w hw
  obtain rfl := nil_empty ve hc1
  exact ⟨none, 0, rfl, (st_mask [] rfl hw).emp (row_nil _ _ _)⟩
 ·
  refine c_skip ?_
  refine f_then ?_
  refine c_seq ?_
  refine c_region ?_
  refine l_mv rfl rfl rfl (m_slice0 uc115) ?_
  rintro _ _ ⟨b2, rfl, rfl⟩
  refine l_val (v := .slice va (xs.length) (vc)) rfl rfl rfl (e_move) ?_
  refine l_conseq 0 (r' := rowF CompF 120 (some ⟨b2, 0, none⟩) 0 []) rfl (fun a h => pt_row (m := 0) (by decide) rfl a h) ?_
  refine l_mv rfl rfl rfl (m_appendFlN (F := CompF) 0 uc115 uc135 (p := (some ⟨b2, 0, none⟩)) (m := 0) (xs := []) (ys := xs) (ao := va) (k := xs.length) (c := vc) rfl rfl rfl rfl rfl (Knows.of_base (Elems.mono _ _ _) ve) (by first | omega | simp only [List.length_nil, List.length_cons, List.length_append, List.length_set]; omega) (by first | omega | simp only [List.length_nil, List.length_cons, List.length_append, List.length_set]; omega)) ?_
  rintro _ _ ⟨rp3, rc4, rfl, rfl⟩
  refine l_val (v := .slice rp3 (xs.length) rc4) rfl rfl rfl (e_assign) ?_
  refine l_nil ?_
  refine f_then ?_
  refine c_ret ?_
  refine ret1 Tryz.results64 (v := .slice rp3 (xs.length) rc4) rfl ?_
  intro w hw
  exact ⟨_, _, rfl, st_mask (L' := [rowF CompF 120 rp3 rc4 xs]) [true] rfl hw⟩
set_option maxHeartbeats 4000000 in
theorem fly_ok (β : Base) (w : World) (p : Option Addr) (c : Nat) (cs : List KComp) (i j : Nat) (cp cv : KComp) (hi : cs[i]? = some cp) (hj : cs[j]? = some cv) (hij : i ≠ j) (hw : St β [rowF CompF 120 p c cs] w) : Calls Tryz.prog 66 #[.pointer (some ((ba p).add (i * 5))), .pointer (some ((ba p).add (j * 5)))] w fun r w' => r = .returned (.tuple #[]) ∧ St β [rowF CompF 120 p c (flyC cs i j cp cv)] w' := by
 have hli := (List.getElem?_eq_some_iff.1 hi).1
 have hlj := (List.getElem?_eq_some_iff.1 hj).1
 refine enter (n := 79) Tryz.func66 rfl Tryz.ntmps66 rfl ?_ hw
 refine c_seq ?_
 refine c_seq ?_
 refine c_region ?_
 refine l_val (v := .int .i64 (0)) rfl rfl rfl (e_move) ?_
 refine l_nil ?_
 refine f_then ?_
 refine c_block ?_
 refine c_unroll 3 ?_
 refine un_succ 2 ?_
 refine c_seq ?_
 refine c_region ?_
 refine l_val (v := .bool true) rfl rfl rfl (e_lss (a := (0 : Int)) (b := (2 : Int)) rfl rfl) ?_
 refine l_nil ?_
 refine f_then ?_
 refine c_seq ?_
 refine c_yes rfl ?_
 refine c_skip ?_
 refine f_then ?_
 refine c_seq ?_
 refine c_block ?_
 refine c_seq ?_
 refine c_region ?_
 refine l_val (v := .int .i64 (0)) rfl rfl rfl (e_move) ?_
 refine l_val (v := .int .i64 (0)) rfl rfl rfl (e_assign) ?_
 refine l_nil ?_
 refine f_then ?_
 refine c_seq ?_
 rcases Decidable.em (min cp.v0 cv.v0 < -1099511627776) with hL0 | hL0
 ·
  refine c_quiet (by kernel_rfl) (by kernel_rfl) ?_
  refine q_val (v := .pointer (some ((ba p).add (i * 5)))) rfl rfl rfl (e_move) ?_
  refine q_val (v := .int .i64 (0)) rfl rfl rfl (e_move) ?_
  refine q_val (v := .pointer (some ((ba p).add (i * 5)))) rfl rfl rfl (e_nil (a := (ba p).add (i * 5)) rfl) ?_
  refine q_val (v := .pointer (some ((ba p).add (i * 5 + 1)))) rfl rfl rfl (ev_eq (congrArg (fun z => Value.pointer (some z)) (show ((ba p).add (i * 5) : Addr).add 1 = (ba p).add (i * 5 + 1) by rw [Addr.add_add'])) (e_fieldAddr (a := (ba p).add (i * 5)) rfl uc125)) ?_
  refine q_val (v := .pointer (some ((ba p).add (i * 5 + 1)))) rfl rfl rfl (ev_eq (congrArg (fun z => Value.pointer (some z)) (show ((ba p).add (i * 5 + 1) : Addr).add (0 * 1) = (ba p).add (i * 5 + 1) by rw [Addr.add_add'] <;> rfl)) (e_indexArr (a := (ba p).add (i * 5 + 1)) (k := 0) rfl rfl uc126 (by decide))) ?_
  refine q_val (v := Ix (cp.v0)) rfl rfl rfl (e_load1 tf2 (v := Ix (cp.v0)) rfl (k_flPart 0 (F := CompF) (o := 1) (us := [Ix (cp.v0)]) rfl hi rfl)) ?_
  refine q_val (v := .pointer (some ((ba p).add (j * 5)))) rfl rfl rfl (e_move) ?_
  refine q_val (v := .int .i64 (0)) rfl rfl rfl (e_move) ?_
  refine q_val (v := .pointer (some ((ba p).add (j * 5)))) rfl rfl rfl (e_nil (a := (ba p).add (j * 5)) rfl) ?_
  refine q_val (v := .pointer (some ((ba p).add (j * 5 + 1)))) rfl rfl rfl (ev_eq (congrArg (fun z => Value.pointer (some z)) (show ((ba p).add (j * 5) : Addr).add 1 = (ba p).add (j * 5 + 1) by rw [Addr.add_add'])) (e_fieldAddr (a := (ba p).add (j * 5)) rfl uc125)) ?_
  refine q_val (v := .pointer (some ((ba p).add (j * 5 + 1)))) rfl rfl rfl (ev_eq (congrArg (fun z => Value.pointer (some z)) (show ((ba p).add (j * 5 + 1) : Addr).add (0 * 1) = (ba p).add (j * 5 + 1) by rw [Addr.add_add'] <;> rfl)) (e_indexArr (a := (ba p).add (j * 5 + 1)) (k := 0) rfl rfl uc126 (by decide))) ?_
  refine q_val (v := Ix (cv.v0)) rfl rfl rfl (e_load1 tf2 (v := Ix (cv.v0)) rfl (k_flPart 0 (F := CompF) (o := 1) (us := [Ix (cv.v0)]) rfl hj rfl)) ?_
  refine q_val (v := Ix (min (cp.v0) (cv.v0))) rfl rfl rfl (e_min (a := (cp.v0)) (b := (cv.v0)) rfl rfl) ?_
  refine q_val (v := .bool (decide ((min (cp.v0) (cv.v0)) < (-1099511627776 : Int)))) rfl rfl rfl (e_lss (a := (min (cp.v0) (cv.v0))) (b := (-1099511627776 : Int)) rfl rfl) ?_
  refine q_val (v := .bool (decide ((min (cp.v0) (cv.v0)) < (-1099511627776 : Int)))) rfl rfl rfl (e_move) ?_
  refine q_split (s := 24) (p := (min (cp.v0) (cv.v0)) < (-1099511627776 : Int)) rfl (fun h => ?_) (fun h => ?_)
  rotate_left; exact absurd hL0 h
  refine q_skip rfl rfl rfl rfl rfl rfl ?_
  refine q_skip rfl rfl rfl rfl rfl rfl ?_
  refine q_skip rfl rfl rfl rfl rfl rfl ?_
  refine q_skip rfl rfl rfl rfl rfl rfl ?_
  refine q_skip rfl rfl rfl rfl rfl rfl ?_
  refine q_skip rfl rfl rfl rfl rfl rfl ?_
  refine q_skip rfl rfl rfl rfl rfl rfl ?_
  refine q_skip rfl rfl rfl rfl rfl rfl ?_
  refine q_skip rfl rfl rfl rfl rfl rfl ?_
  refine q_skip rfl rfl rfl rfl rfl rfl ?_
  refine q_skip rfl rfl rfl rfl rfl rfl ?_
  refine q_skip rfl rfl rfl rfl rfl rfl ?_
  refine q_skip rfl rfl rfl rfl rfl rfl ?_
  refine q_skip rfl rfl rfl rfl rfl rfl ?_
  refine q_val (v := .bool true) rfl rfl rfl (e_pick_t rfl) ?_
  refine q_nil ?_
  refine f_then ?_
  refine c_yes rfl ?_
  refine c_ret ?_
  refine f_block_ret ?_
  refine f_then_ret ?_
  refine f_then_ret ?_
  refine f_block_ret ?_
  refine f_then_ret ?_
  refine ret0 Tryz.results66 ?_
  intro w hw
  exact ⟨rfl, by rw [fly_no hi hj (fun h => by have a := h.1.1; have b := h.1.2; have c := h.2.1; have d := h.2.2; omega)]; exact st_mask [true] rfl hw⟩
 ·
  rcases Decidable.em (1099511627776 < max cp.v0 cv.v0) with hG0 | hG0
  ·
   refine c_quiet (by kernel_rfl) (by kernel_rfl) ?_
   refine q_val (v := .pointer (some ((ba p).add (i * 5)))) rfl rfl rfl (e_move) ?_
   refine q_val (v := .int .i64 (0)) rfl rfl rfl (e_move) ?_
   refine q_val (v := .pointer (some ((ba p).add (i * 5)))) rfl rfl rfl (e_nil (a := (ba p).add (i * 5)) rfl) ?_
   refine q_val (v := .pointer (some ((ba p).add (i * 5 + 1)))) rfl rfl rfl (ev_eq (congrArg (fun z => Value.pointer (some z)) (show ((ba p).add (i * 5) : Addr).add 1 = (ba p).add (i * 5 + 1) by rw [Addr.add_add'])) (e_fieldAddr (a := (ba p).add (i * 5)) rfl uc125)) ?_
   refine q_val (v := .pointer (some ((ba p).add (i * 5 + 1)))) rfl rfl rfl (ev_eq (congrArg (fun z => Value.pointer (some z)) (show ((ba p).add (i * 5 + 1) : Addr).add (0 * 1) = (ba p).add (i * 5 + 1) by rw [Addr.add_add'] <;> rfl)) (e_indexArr (a := (ba p).add (i * 5 + 1)) (k := 0) rfl rfl uc126 (by decide))) ?_
   refine q_val (v := Ix (cp.v0)) rfl rfl rfl (e_load1 tf2 (v := Ix (cp.v0)) rfl (k_flPart 0 (F := CompF) (o := 1) (us := [Ix (cp.v0)]) rfl hi rfl)) ?_
   refine q_val (v := .pointer (some ((ba p).add (j * 5)))) rfl rfl rfl (e_move) ?_
   refine q_val (v := .int .i64 (0)) rfl rfl rfl (e_move) ?_
   refine q_val (v := .pointer (some ((ba p).add (j * 5)))) rfl rfl rfl (e_nil (a := (ba p).add (j * 5)) rfl) ?_
   refine q_val (v := .pointer (some ((ba p).add (j * 5 + 1)))) rfl rfl rfl (ev_eq (congrArg (fun z => Value.pointer (some z)) (show ((ba p).add (j * 5) : Addr).add 1 = (ba p).add (j * 5 + 1) by rw [Addr.add_add'])) (e_fieldAddr (a := (ba p).add (j * 5)) rfl uc125)) ?_
   refine q_val (v := .pointer (some ((ba p).add (j * 5 + 1)))) rfl rfl rfl (ev_eq (congrArg (fun z => Value.pointer (some z)) (show ((ba p).add (j * 5 + 1) : Addr).add (0 * 1) = (ba p).add (j * 5 + 1) by rw [Addr.add_add'] <;> rfl)) (e_indexArr (a := (ba p).add (j * 5 + 1)) (k := 0) rfl rfl uc126 (by decide))) ?_
   refine q_val (v := Ix (cv.v0)) rfl rfl rfl (e_load1 tf2 (v := Ix (cv.v0)) rfl (k_flPart 0 (F := CompF) (o := 1) (us := [Ix (cv.v0)]) rfl hj rfl)) ?_
   refine q_val (v := Ix (min (cp.v0) (cv.v0))) rfl rfl rfl (e_min (a := (cp.v0)) (b := (cv.v0)) rfl rfl) ?_
   refine q_val (v := .bool (decide ((min (cp.v0) (cv.v0)) < (-1099511627776 : Int)))) rfl rfl rfl (e_lss (a := (min (cp.v0) (cv.v0))) (b := (-1099511627776 : Int)) rfl rfl) ?_
   refine q_val (v := .bool (decide ((min (cp.v0) (cv.v0)) < (-1099511627776 : Int)))) rfl rfl rfl (e_move) ?_
   refine q_split (s := 24) (p := (min (cp.v0) (cv.v0)) < (-1099511627776 : Int)) rfl (fun h => ?_) (fun h => ?_)
   exact absurd h hL0
   refine qg_val (v := .pointer (some ((ba p).add (i * 5)))) rfl rfl rfl rfl rfl (e_move) ?_
   refine qg_val (v := .int .i64 (0)) rfl rfl rfl rfl rfl (e_move) ?_
   refine qg_val (v := .pointer (some ((ba p).add (i * 5)))) rfl rfl rfl rfl rfl (e_nil (a := (ba p).add (i * 5)) rfl) ?_
   refine qg_val (v := .pointer (some ((ba p).add (i * 5 + 1)))) rfl rfl rfl rfl rfl (ev_eq (congrArg (fun z => Value.pointer (some z)) (show ((ba p).add (i * 5) : Addr).add 1 = (ba p).add (i * 5 + 1) by rw [Addr.add_add'])) (e_fieldAddr (a := (ba p).add (i * 5)) rfl uc125)) ?_
   refine qg_val (v := .pointer (some ((ba p).add (i * 5 + 1)))) rfl rfl rfl rfl rfl (ev_eq (congrArg (fun z => Value.pointer (some z)) (show ((ba p).add (i * 5 + 1) : Addr).add (0 * 1) = (ba p).add (i * 5 + 1) by rw [Addr.add_add'] <;> rfl)) (e_indexArr (a := (ba p).add (i * 5 + 1)) (k := 0) rfl rfl uc126 (by decide))) ?_
   refine qg_val (v := Ix (cp.v0)) rfl rfl rfl rfl rfl (e_load1 tf2 (v := Ix (cp.v0)) rfl (k_flPart 0 (F := CompF) (o := 1) (us := [Ix (cp.v0)]) rfl hi rfl)) ?_
   refine qg_val (v := .pointer (some ((ba p).add (j * 5)))) rfl rfl rfl rfl rfl (e_move) ?_
   refine qg_val (v := .int .i64 (0)) rfl rfl rfl rfl rfl (e_move) ?_
   refine qg_val (v := .pointer (some ((ba p).add (j * 5)))) rfl rfl rfl rfl rfl (e_nil (a := (ba p).add (j * 5)) rfl) ?_
   refine qg_val (v := .pointer (some ((ba p).add (j * 5 + 1)))) rfl rfl rfl rfl rfl (ev_eq (congrArg (fun z => Value.pointer (some z)) (show ((ba p).add (j * 5) : Addr).add 1 = (ba p).add (j * 5 + 1) by rw [Addr.add_add'])) (e_fieldAddr (a := (ba p).add (j * 5)) rfl uc125)) ?_
   refine qg_val (v := .pointer (some ((ba p).add (j * 5 + 1)))) rfl rfl rfl rfl rfl (ev_eq (congrArg (fun z => Value.pointer (some z)) (show ((ba p).add (j * 5 + 1) : Addr).add (0 * 1) = (ba p).add (j * 5 + 1) by rw [Addr.add_add'] <;> rfl)) (e_indexArr (a := (ba p).add (j * 5 + 1)) (k := 0) rfl rfl uc126 (by decide))) ?_
   refine qg_val (v := Ix (cv.v0)) rfl rfl rfl rfl rfl (e_load1 tf2 (v := Ix (cv.v0)) rfl (k_flPart 0 (F := CompF) (o := 1) (us := [Ix (cv.v0)]) rfl hj rfl)) ?_
   refine qg_val (v := Ix (max (cp.v0) (cv.v0))) rfl rfl rfl rfl rfl (e_max (a := (cp.v0)) (b := (cv.v0)) rfl rfl) ?_
   refine qg_val (v := .bool (decide ((1099511627776 : Int) < (max (cp.v0) (cv.v0))))) rfl rfl rfl rfl rfl (e_gtr (a := (max (cp.v0) (cv.v0))) (b := (1099511627776 : Int)) rfl rfl) ?_
   refine q_val (v := .bool (decide ((1099511627776 : Int) < (max (cp.v0) (cv.v0))))) rfl rfl rfl (e_pick_f rfl) ?_
   refine q_nil ?_
   refine f_then ?_
   refine c_if ((1099511627776 : Int) < (max (cp.v0) (cv.v0))) rfl (fun hc1 => ?_) (fun hc1 => ?_)
   ·
    refine c_ret ?_
    refine f_block_ret ?_
    refine f_then_ret ?_
    refine f_then_ret ?_
    refine f_block_ret ?_
    refine f_then_ret ?_
    refine ret0 Tryz.results66 ?_
    intro w hw
    exact ⟨rfl, by rw [fly_no hi hj (fun h => by have a := h.1.1; have b := h.1.2; have c := h.2.1; have d := h.2.2; omega)]; exact st_mask [true] rfl hw⟩
   ·
    exact absurd hG0 hc1
  ·
   refine c_quiet (by kernel_rfl) (by kernel_rfl) ?_
   refine q_val (v := .pointer (some ((ba p).add (i * 5)))) rfl rfl rfl (e_move) ?_
   refine q_val (v := .int .i64 (0)) rfl rfl rfl (e_move) ?_
   refine q_val (v := .pointer (some ((ba p).add (i * 5)))) rfl rfl rfl (e_nil (a := (ba p).add (i * 5)) rfl) ?_
   refine q_val (v := .pointer (some ((ba p).add (i * 5 + 1)))) rfl rfl rfl (ev_eq (congrArg (fun z => Value.pointer (some z)) (show ((ba p).add (i * 5) : Addr).add 1 = (ba p).add (i * 5 + 1) by rw [Addr.add_add'])) (e_fieldAddr (a := (ba p).add (i * 5)) rfl uc125)) ?_
   refine q_val (v := .pointer (some ((ba p).add (i * 5 + 1)))) rfl rfl rfl (ev_eq (congrArg (fun z => Value.pointer (some z)) (show ((ba p).add (i * 5 + 1) : Addr).add (0 * 1) = (ba p).add (i * 5 + 1) by rw [Addr.add_add'] <;> rfl)) (e_indexArr (a := (ba p).add (i * 5 + 1)) (k := 0) rfl rfl uc126 (by decide))) ?_
   refine q_val (v := Ix (cp.v0)) rfl rfl rfl (e_load1 tf2 (v := Ix (cp.v0)) rfl (k_flPart 0 (F := CompF) (o := 1) (us := [Ix (cp.v0)]) rfl hi rfl)) ?_
   refine q_val (v := .pointer (some ((ba p).add (j * 5)))) rfl rfl rfl (e_move) ?_
   refine q_val (v := .int .i64 (0)) rfl rfl rfl (e_move) ?_
   refine q_val (v := .pointer (some ((ba p).add (j * 5)))) rfl rfl rfl (e_nil (a := (ba p).add (j * 5)) rfl) ?_
   refine q_val (v := .pointer (some ((ba p).add (j * 5 + 1)))) rfl rfl rfl (ev_eq (congrArg (fun z => Value.pointer (some z)) (show ((ba p).add (j * 5) : Addr).add 1 = (ba p).add (j * 5 + 1) by rw [Addr.add_add'])) (e_fieldAddr (a := (ba p).add (j * 5)) rfl uc125)) ?_
   refine q_val (v := .pointer (some ((ba p).add (j * 5 + 1)))) rfl rfl rfl (ev_eq (congrArg (fun z => Value.pointer (some z)) (show ((ba p).add (j * 5 + 1) : Addr).add (0 * 1) = (ba p).add (j * 5 + 1) by rw [Addr.add_add'] <;> rfl)) (e_indexArr (a := (ba p).add (j * 5 + 1)) (k := 0) rfl rfl uc126 (by decide))) ?_
   refine q_val (v := Ix (cv.v0)) rfl rfl rfl (e_load1 tf2 (v := Ix (cv.v0)) rfl (k_flPart 0 (F := CompF) (o := 1) (us := [Ix (cv.v0)]) rfl hj rfl)) ?_
   refine q_val (v := Ix (min (cp.v0) (cv.v0))) rfl rfl rfl (e_min (a := (cp.v0)) (b := (cv.v0)) rfl rfl) ?_
   refine q_val (v := .bool (decide ((min (cp.v0) (cv.v0)) < (-1099511627776 : Int)))) rfl rfl rfl (e_lss (a := (min (cp.v0) (cv.v0))) (b := (-1099511627776 : Int)) rfl rfl) ?_
   refine q_val (v := .bool (decide ((min (cp.v0) (cv.v0)) < (-1099511627776 : Int)))) rfl rfl rfl (e_move) ?_
   refine q_split (s := 24) (p := (min (cp.v0) (cv.v0)) < (-1099511627776 : Int)) rfl (fun h => ?_) (fun h => ?_)
   exact absurd h hL0
   refine qg_val (v := .pointer (some ((ba p).add (i * 5)))) rfl rfl rfl rfl rfl (e_move) ?_
   refine qg_val (v := .int .i64 (0)) rfl rfl rfl rfl rfl (e_move) ?_
   refine qg_val (v := .pointer (some ((ba p).add (i * 5)))) rfl rfl rfl rfl rfl (e_nil (a := (ba p).add (i * 5)) rfl) ?_
   refine qg_val (v := .pointer (some ((ba p).add (i * 5 + 1)))) rfl rfl rfl rfl rfl (ev_eq (congrArg (fun z => Value.pointer (some z)) (show ((ba p).add (i * 5) : Addr).add 1 = (ba p).add (i * 5 + 1) by rw [Addr.add_add'])) (e_fieldAddr (a := (ba p).add (i * 5)) rfl uc125)) ?_
   refine qg_val (v := .pointer (some ((ba p).add (i * 5 + 1)))) rfl rfl rfl rfl rfl (ev_eq (congrArg (fun z => Value.pointer (some z)) (show ((ba p).add (i * 5 + 1) : Addr).add (0 * 1) = (ba p).add (i * 5 + 1) by rw [Addr.add_add'] <;> rfl)) (e_indexArr (a := (ba p).add (i * 5 + 1)) (k := 0) rfl rfl uc126 (by decide))) ?_
   refine qg_val (v := Ix (cp.v0)) rfl rfl rfl rfl rfl (e_load1 tf2 (v := Ix (cp.v0)) rfl (k_flPart 0 (F := CompF) (o := 1) (us := [Ix (cp.v0)]) rfl hi rfl)) ?_
   refine qg_val (v := .pointer (some ((ba p).add (j * 5)))) rfl rfl rfl rfl rfl (e_move) ?_
   refine qg_val (v := .int .i64 (0)) rfl rfl rfl rfl rfl (e_move) ?_
   refine qg_val (v := .pointer (some ((ba p).add (j * 5)))) rfl rfl rfl rfl rfl (e_nil (a := (ba p).add (j * 5)) rfl) ?_
   refine qg_val (v := .pointer (some ((ba p).add (j * 5 + 1)))) rfl rfl rfl rfl rfl (ev_eq (congrArg (fun z => Value.pointer (some z)) (show ((ba p).add (j * 5) : Addr).add 1 = (ba p).add (j * 5 + 1) by rw [Addr.add_add'])) (e_fieldAddr (a := (ba p).add (j * 5)) rfl uc125)) ?_
   refine qg_val (v := .pointer (some ((ba p).add (j * 5 + 1)))) rfl rfl rfl rfl rfl (ev_eq (congrArg (fun z => Value.pointer (some z)) (show ((ba p).add (j * 5 + 1) : Addr).add (0 * 1) = (ba p).add (j * 5 + 1) by rw [Addr.add_add'] <;> rfl)) (e_indexArr (a := (ba p).add (j * 5 + 1)) (k := 0) rfl rfl uc126 (by decide))) ?_
   refine qg_val (v := Ix (cv.v0)) rfl rfl rfl rfl rfl (e_load1 tf2 (v := Ix (cv.v0)) rfl (k_flPart 0 (F := CompF) (o := 1) (us := [Ix (cv.v0)]) rfl hj rfl)) ?_
   refine qg_val (v := Ix (max (cp.v0) (cv.v0))) rfl rfl rfl rfl rfl (e_max (a := (cp.v0)) (b := (cv.v0)) rfl rfl) ?_
   refine qg_val (v := .bool (decide ((1099511627776 : Int) < (max (cp.v0) (cv.v0))))) rfl rfl rfl rfl rfl (e_gtr (a := (max (cp.v0) (cv.v0))) (b := (1099511627776 : Int)) rfl rfl) ?_
   refine q_val (v := .bool (decide ((1099511627776 : Int) < (max (cp.v0) (cv.v0))))) rfl rfl rfl (e_pick_f rfl) ?_
   refine q_nil ?_
   refine f_then ?_
   refine c_if ((1099511627776 : Int) < (max (cp.v0) (cv.v0))) rfl (fun hc2 => ?_) (fun hc2 => ?_)
   ·
    exact absurd hc2 hG0
   ·
    refine c_skip ?_
    refine f_block ?_
    refine f_then ?_
    refine c_region ?_
    refine l_val (v := .int .i64 (1)) rfl rfl rfl (e_add (a := (0 : Int)) (b := (1 : Int)) rfl rfl (by decide)) ?_
    refine l_val (v := .int .i64 (1)) rfl rfl rfl (e_move) ?_
    refine l_nil ?_
    refine f_cut ?_
    refine un_succ 1 ?_
    refine c_seq ?_
    refine c_region ?_
    refine l_val (v := .bool true) rfl rfl rfl (e_lss (a := (1 : Int)) (b := (2 : Int)) rfl rfl) ?_
    refine l_nil ?_
    refine f_then ?_
    refine c_seq ?_
    refine c_yes rfl ?_
    refine c_skip ?_
    refine f_then ?_
    refine c_seq ?_
    refine c_block ?_
    refine c_seq ?_
    refine c_region ?_
    refine l_val (v := .int .i64 (1)) rfl rfl rfl (e_move) ?_
    refine l_val (v := .int .i64 (1)) rfl rfl rfl (e_assign) ?_
    refine l_nil ?_
    refine f_then ?_
    refine c_seq ?_
    rcases Decidable.em (min cp.v1 cv.v1 < -1099511627776) with hL1 | hL1
    ·
     refine c_quiet (by kernel_rfl) (by kernel_rfl) ?_
     refine q_val (v := .pointer (some ((ba p).add (i * 5)))) rfl rfl rfl (e_move) ?_
     refine q_val (v := .int .i64 (1)) rfl rfl rfl (e_move) ?_
     refine q_val (v := .pointer (some ((ba p).add (i * 5)))) rfl rfl rfl (e_nil (a := (ba p).add (i * 5)) rfl) ?_
     refine q_val (v := .pointer (some ((ba p).add (i * 5 + 1)))) rfl rfl rfl (ev_eq (congrArg (fun z => Value.pointer (some z)) (show ((ba p).add (i * 5) : Addr).add 1 = (ba p).add (i * 5 + 1) by rw [Addr.add_add'])) (e_fieldAddr (a := (ba p).add (i * 5)) rfl uc125)) ?_
     refine q_val (v := .pointer (some ((ba p).add (i * 5 + 2)))) rfl rfl rfl (ev_eq (congrArg (fun z => Value.pointer (some z)) (show ((ba p).add (i * 5 + 1) : Addr).add (1 * 1) = (ba p).add (i * 5 + 2) by rw [Addr.add_add'] <;> rfl)) (e_indexArr (a := (ba p).add (i * 5 + 1)) (k := 1) rfl rfl uc126 (by decide))) ?_
     refine q_val (v := Ix (cp.v1)) rfl rfl rfl (e_load1 tf2 (v := Ix (cp.v1)) rfl (k_flPart 0 (F := CompF) (o := 2) (us := [Ix (cp.v1)]) rfl hi rfl)) ?_
     refine q_val (v := .pointer (some ((ba p).add (j * 5)))) rfl rfl rfl (e_move) ?_
     refine q_val (v := .int .i64 (1)) rfl rfl rfl (e_move) ?_
     refine q_val (v := .pointer (some ((ba p).add (j * 5)))) rfl rfl rfl (e_nil (a := (ba p).add (j * 5)) rfl) ?_
     refine q_val (v := .pointer (some ((ba p).add (j * 5 + 1)))) rfl rfl rfl (ev_eq (congrArg (fun z => Value.pointer (some z)) (show ((ba p).add (j * 5) : Addr).add 1 = (ba p).add (j * 5 + 1) by rw [Addr.add_add'])) (e_fieldAddr (a := (ba p).add (j * 5)) rfl uc125)) ?_
     refine q_val (v := .pointer (some ((ba p).add (j * 5 + 2)))) rfl rfl rfl (ev_eq (congrArg (fun z => Value.pointer (some z)) (show ((ba p).add (j * 5 + 1) : Addr).add (1 * 1) = (ba p).add (j * 5 + 2) by rw [Addr.add_add'] <;> rfl)) (e_indexArr (a := (ba p).add (j * 5 + 1)) (k := 1) rfl rfl uc126 (by decide))) ?_
     refine q_val (v := Ix (cv.v1)) rfl rfl rfl (e_load1 tf2 (v := Ix (cv.v1)) rfl (k_flPart 0 (F := CompF) (o := 2) (us := [Ix (cv.v1)]) rfl hj rfl)) ?_
     refine q_val (v := Ix (min (cp.v1) (cv.v1))) rfl rfl rfl (e_min (a := (cp.v1)) (b := (cv.v1)) rfl rfl) ?_
     refine q_val (v := .bool (decide ((min (cp.v1) (cv.v1)) < (-1099511627776 : Int)))) rfl rfl rfl (e_lss (a := (min (cp.v1) (cv.v1))) (b := (-1099511627776 : Int)) rfl rfl) ?_
     refine q_val (v := .bool (decide ((min (cp.v1) (cv.v1)) < (-1099511627776 : Int)))) rfl rfl rfl (e_move) ?_
     refine q_split (s := 24) (p := (min (cp.v1) (cv.v1)) < (-1099511627776 : Int)) rfl (fun h => ?_) (fun h => ?_)
     rotate_left; exact absurd hL1 h
     refine q_skip rfl rfl rfl rfl rfl rfl ?_
     refine q_skip rfl rfl rfl rfl rfl rfl ?_
     refine q_skip rfl rfl rfl rfl rfl rfl ?_
     refine q_skip rfl rfl rfl rfl rfl rfl ?_
     refine q_skip rfl rfl rfl rfl rfl rfl ?_
     refine q_skip rfl rfl rfl rfl rfl rfl ?_
     refine q_skip rfl rfl rfl rfl rfl rfl ?_
     refine q_skip rfl rfl rfl rfl rfl rfl ?_
     refine q_skip rfl rfl rfl rfl rfl rfl ?_
     refine q_skip rfl rfl rfl rfl rfl rfl ?_
     refine q_skip rfl rfl rfl rfl rfl rfl ?_
     refine q_skip rfl rfl rfl rfl rfl rfl ?_
     refine q_skip rfl rfl rfl rfl rfl rfl ?_
     refine q_skip rfl rfl rfl rfl rfl rfl ?_
     refine q_val (v := .bool true) rfl rfl rfl (e_pick_t rfl) ?_
     refine q_nil ?_
     refine f_then ?_
     refine c_yes rfl ?_
     refine c_ret ?_
     refine f_block_ret ?_
     refine f_then_ret ?_
     refine f_then_ret ?_
     refine f_block_ret ?_
     refine f_then_ret ?_
     refine ret0 Tryz.results66 ?_
     intro w hw
     exact ⟨rfl, by rw [fly_no hi hj (fun h => by have a := h.1.1; have b := h.1.2; have c := h.2.1; have d := h.2.2; omega)]; exact st_mask [true] rfl hw⟩
    ·
     rcases Decidable.em (1099511627776 < max cp.v1 cv.v1) with hG1 | hG1
     ·
      refine c_quiet (by kernel_rfl) (by kernel_rfl) ?_
      refine q_val (v := .pointer (some ((ba p).add (i * 5)))) rfl rfl rfl (e_move) ?_
      refine q_val (v := .int .i64 (1)) rfl rfl rfl (e_move) ?_
      refine q_val (v := .pointer (some ((ba p).add (i * 5)))) rfl rfl rfl (e_nil (a := (ba p).add (i * 5)) rfl) ?_
      refine q_val (v := .pointer (some ((ba p).add (i * 5 + 1)))) rfl rfl rfl (ev_eq (congrArg (fun z => Value.pointer (some z)) (show ((ba p).add (i * 5) : Addr).add 1 = (ba p).add (i * 5 + 1) by rw [Addr.add_add'])) (e_fieldAddr (a := (ba p).add (i * 5)) rfl uc125)) ?_
      refine q_val (v := .pointer (some ((ba p).add (i * 5 + 2)))) rfl rfl rfl (ev_eq (congrArg (fun z => Value.pointer (some z)) (show ((ba p).add (i * 5 + 1) : Addr).add (1 * 1) = (ba p).add (i * 5 + 2) by rw [Addr.add_add'] <;> rfl)) (e_indexArr (a := (ba p).add (i * 5 + 1)) (k := 1) rfl rfl uc126 (by decide))) ?_
      refine q_val (v := Ix (cp.v1)) rfl rfl rfl (e_load1 tf2 (v := Ix (cp.v1)) rfl (k_flPart 0 (F := CompF) (o := 2) (us := [Ix (cp.v1)]) rfl hi rfl)) ?_
      refine q_val (v := .pointer (some ((ba p).add (j * 5)))) rfl rfl rfl (e_move) ?_
      refine q_val (v := .int .i64 (1)) rfl rfl rfl (e_move) ?_
      refine q_val (v := .pointer (some ((ba p).add (j * 5)))) rfl rfl rfl (e_nil (a := (ba p).add (j * 5)) rfl) ?_
      refine q_val (v := .pointer (some ((ba p).add (j * 5 + 1)))) rfl rfl rfl (ev_eq (congrArg (fun z => Value.pointer (some z)) (show ((ba p).add (j * 5) : Addr).add 1 = (ba p).add (j * 5 + 1) by rw [Addr.add_add'])) (e_fieldAddr (a := (ba p).add (j * 5)) rfl uc125)) ?_
      refine q_val (v := .pointer (some ((ba p).add (j * 5 + 2)))) rfl rfl rfl (ev_eq (congrArg (fun z => Value.pointer (some z)) (show ((ba p).add (j * 5 + 1) : Addr).add (1 * 1) = (ba p).add (j * 5 + 2) by rw [Addr.add_add'] <;> rfl)) (e_indexArr (a := (ba p).add (j * 5 + 1)) (k := 1) rfl rfl uc126 (by decide))) ?_
      refine q_val (v := Ix (cv.v1)) rfl rfl rfl (e_load1 tf2 (v := Ix (cv.v1)) rfl (k_flPart 0 (F := CompF) (o := 2) (us := [Ix (cv.v1)]) rfl hj rfl)) ?_
      refine q_val (v := Ix (min (cp.v1) (cv.v1))) rfl rfl rfl (e_min (a := (cp.v1)) (b := (cv.v1)) rfl rfl) ?_
      refine q_val (v := .bool (decide ((min (cp.v1) (cv.v1)) < (-1099511627776 : Int)))) rfl rfl rfl (e_lss (a := (min (cp.v1) (cv.v1))) (b := (-1099511627776 : Int)) rfl rfl) ?_
      refine q_val (v := .bool (decide ((min (cp.v1) (cv.v1)) < (-1099511627776 : Int)))) rfl rfl rfl (e_move) ?_
      refine q_split (s := 24) (p := (min (cp.v1) (cv.v1)) < (-1099511627776 : Int)) rfl (fun h => ?_) (fun h => ?_)
      exact absurd h hL1
      refine qg_val (v := .pointer (some ((ba p).add (i * 5)))) rfl rfl rfl rfl rfl (e_move) ?_
      refine qg_val (v := .int .i64 (1)) rfl rfl rfl rfl rfl (e_move) ?_
      refine qg_val (v := .pointer (some ((ba p).add (i * 5)))) rfl rfl rfl rfl rfl (e_nil (a := (ba p).add (i * 5)) rfl) ?_
      refine qg_val (v := .pointer (some ((ba p).add (i * 5 + 1)))) rfl rfl rfl rfl rfl (ev_eq (congrArg (fun z => Value.pointer (some z)) (show ((ba p).add (i * 5) : Addr).add 1 = (ba p).add (i * 5 + 1) by rw [Addr.add_add'])) (e_fieldAddr (a := (ba p).add (i * 5)) rfl uc125)) ?_
      refine qg_val (v := .pointer (some ((ba p).add (i * 5 + 2)))) rfl rfl rfl rfl rfl (ev_eq (congrArg (fun z => Value.pointer (some z)) (show ((ba p).add (i * 5 + 1) : Addr).add (1 * 1) = (ba p).add (i * 5 + 2) by rw [Addr.add_add'] <;> rfl)) (e_indexArr (a := (ba p).add (i * 5 + 1)) (k := 1) rfl rfl uc126 (by decide))) ?_
      refine qg_val (v := Ix (cp.v1)) rfl rfl rfl rfl rfl (e_load1 tf2 (v := Ix (cp.v1)) rfl (k_flPart 0 (F := CompF) (o := 2) (us := [Ix (cp.v1)]) rfl hi rfl)) ?_
      refine qg_val (v := .pointer (some ((ba p).add (j * 5)))) rfl rfl rfl rfl rfl (e_move) ?_
      refine qg_val (v := .int .i64 (1)) rfl rfl rfl rfl rfl (e_move) ?_
      refine qg_val (v := .pointer (some ((ba p).add (j * 5)))) rfl rfl rfl rfl rfl (e_nil (a := (ba p).add (j * 5)) rfl) ?_
      refine qg_val (v := .pointer (some ((ba p).add (j * 5 + 1)))) rfl rfl rfl rfl rfl (ev_eq (congrArg (fun z => Value.pointer (some z)) (show ((ba p).add (j * 5) : Addr).add 1 = (ba p).add (j * 5 + 1) by rw [Addr.add_add'])) (e_fieldAddr (a := (ba p).add (j * 5)) rfl uc125)) ?_
      refine qg_val (v := .pointer (some ((ba p).add (j * 5 + 2)))) rfl rfl rfl rfl rfl (ev_eq (congrArg (fun z => Value.pointer (some z)) (show ((ba p).add (j * 5 + 1) : Addr).add (1 * 1) = (ba p).add (j * 5 + 2) by rw [Addr.add_add'] <;> rfl)) (e_indexArr (a := (ba p).add (j * 5 + 1)) (k := 1) rfl rfl uc126 (by decide))) ?_
      refine qg_val (v := Ix (cv.v1)) rfl rfl rfl rfl rfl (e_load1 tf2 (v := Ix (cv.v1)) rfl (k_flPart 0 (F := CompF) (o := 2) (us := [Ix (cv.v1)]) rfl hj rfl)) ?_
      refine qg_val (v := Ix (max (cp.v1) (cv.v1))) rfl rfl rfl rfl rfl (e_max (a := (cp.v1)) (b := (cv.v1)) rfl rfl) ?_
      refine qg_val (v := .bool (decide ((1099511627776 : Int) < (max (cp.v1) (cv.v1))))) rfl rfl rfl rfl rfl (e_gtr (a := (max (cp.v1) (cv.v1))) (b := (1099511627776 : Int)) rfl rfl) ?_
      refine q_val (v := .bool (decide ((1099511627776 : Int) < (max (cp.v1) (cv.v1))))) rfl rfl rfl (e_pick_f rfl) ?_
      refine q_nil ?_
      refine f_then ?_
      refine c_if ((1099511627776 : Int) < (max (cp.v1) (cv.v1))) rfl (fun hc3 => ?_) (fun hc3 => ?_)
      ·
       refine c_ret ?_
       refine f_block_ret ?_
       refine f_then_ret ?_
       refine f_then_ret ?_
       refine f_block_ret ?_
       refine f_then_ret ?_
       refine ret0 Tryz.results66 ?_
       intro w hw
       exact ⟨rfl, by rw [fly_no hi hj (fun h => by have a := h.1.1; have b := h.1.2; have c := h.2.1; have d := h.2.2; omega)]; exact st_mask [true] rfl hw⟩
      ·
       exact absurd hG1 hc3
     ·
      refine c_quiet (by kernel_rfl) (by kernel_rfl) ?_
      refine q_val (v := .pointer (some ((ba p).add (i * 5)))) rfl rfl rfl (e_move) ?_
      refine q_val (v := .int .i64 (1)) rfl rfl rfl (e_move) ?_
      refine q_val (v := .pointer (some ((ba p).add (i * 5)))) rfl rfl rfl (e_nil (a := (ba p).add (i * 5)) rfl) ?_
      refine q_val (v := .pointer (some ((ba p).add (i * 5 + 1)))) rfl rfl rfl (ev_eq (congrArg (fun z => Value.pointer (some z)) (show ((ba p).add (i * 5) : Addr).add 1 = (ba p).add (i * 5 + 1) by rw [Addr.add_add'])) (e_fieldAddr (a := (ba p).add (i * 5)) rfl uc125)) ?_
      refine q_val (v := .pointer (some ((ba p).add (i * 5 + 2)))) rfl rfl rfl (ev_eq (congrArg (fun z => Value.pointer (some z)) (show ((ba p).add (i * 5 + 1) : Addr).add (1 * 1) = (ba p).add (i * 5 + 2) by rw [Addr.add_add'] <;> rfl)) (e_indexArr (a := (ba p).add (i * 5 + 1)) (k := 1) rfl rfl uc126 (by decide))) ?_
      refine q_val (v := Ix (cp.v1)) rfl rfl rfl (e_load1 tf2 (v := Ix (cp.v1)) rfl (k_flPart 0 (F := CompF) (o := 2) (us := [Ix (cp.v1)]) rfl hi rfl)) ?_
      refine q_val (v := .pointer (some ((ba p).add (j * 5)))) rfl rfl rfl (e_move) ?_
      refine q_val (v := .int .i64 (1)) rfl rfl rfl (e_move) ?_
      refine q_val (v := .pointer (some ((ba p).add (j * 5)))) rfl rfl rfl (e_nil (a := (ba p).add (j * 5)) rfl) ?_
      refine q_val (v := .pointer (some ((ba p).add (j * 5 + 1)))) rfl rfl rfl (ev_eq (congrArg (fun z => Value.pointer (some z)) (show ((ba p).add (j * 5) : Addr).add 1 = (ba p).add (j * 5 + 1) by rw [Addr.add_add'])) (e_fieldAddr (a := (ba p).add (j * 5)) rfl uc125)) ?_
      refine q_val (v := .pointer (some ((ba p).add (j * 5 + 2)))) rfl rfl rfl (ev_eq (congrArg (fun z => Value.pointer (some z)) (show ((ba p).add (j * 5 + 1) : Addr).add (1 * 1) = (ba p).add (j * 5 + 2) by rw [Addr.add_add'] <;> rfl)) (e_indexArr (a := (ba p).add (j * 5 + 1)) (k := 1) rfl rfl uc126 (by decide))) ?_
      refine q_val (v := Ix (cv.v1)) rfl rfl rfl (e_load1 tf2 (v := Ix (cv.v1)) rfl (k_flPart 0 (F := CompF) (o := 2) (us := [Ix (cv.v1)]) rfl hj rfl)) ?_
      refine q_val (v := Ix (min (cp.v1) (cv.v1))) rfl rfl rfl (e_min (a := (cp.v1)) (b := (cv.v1)) rfl rfl) ?_
      refine q_val (v := .bool (decide ((min (cp.v1) (cv.v1)) < (-1099511627776 : Int)))) rfl rfl rfl (e_lss (a := (min (cp.v1) (cv.v1))) (b := (-1099511627776 : Int)) rfl rfl) ?_
      refine q_val (v := .bool (decide ((min (cp.v1) (cv.v1)) < (-1099511627776 : Int)))) rfl rfl rfl (e_move) ?_
      refine q_split (s := 24) (p := (min (cp.v1) (cv.v1)) < (-1099511627776 : Int)) rfl (fun h => ?_) (fun h => ?_)
      exact absurd h hL1
      refine qg_val (v := .pointer (some ((ba p).add (i * 5)))) rfl rfl rfl rfl rfl (e_move) ?_
      refine qg_val (v := .int .i64 (1)) rfl rfl rfl rfl rfl (e_move) ?_
      refine qg_val (v := .pointer (some ((ba p).add (i * 5)))) rfl rfl rfl rfl rfl (e_nil (a := (ba p).add (i * 5)) rfl) ?_
      refine qg_val (v := .pointer (some ((ba p).add (i * 5 + 1)))) rfl rfl rfl rfl rfl (ev_eq (congrArg (fun z => Value.pointer (some z)) (show ((ba p).add (i * 5) : Addr).add 1 = (ba p).add (i * 5 + 1) by rw [Addr.add_add'])) (e_fieldAddr (a := (ba p).add (i * 5)) rfl uc125)) ?_
      refine qg_val (v := .pointer (some ((ba p).add (i * 5 + 2)))) rfl rfl rfl rfl rfl (ev_eq (congrArg (fun z => Value.pointer (some z)) (show ((ba p).add (i * 5 + 1) : Addr).add (1 * 1) = (ba p).add (i * 5 + 2) by rw [Addr.add_add'] <;> rfl)) (e_indexArr (a := (ba p).add (i * 5 + 1)) (k := 1) rfl rfl uc126 (by decide))) ?_
      refine qg_val (v := Ix (cp.v1)) rfl rfl rfl rfl rfl (e_load1 tf2 (v := Ix (cp.v1)) rfl (k_flPart 0 (F := CompF) (o := 2) (us := [Ix (cp.v1)]) rfl hi rfl)) ?_
      refine qg_val (v := .pointer (some ((ba p).add (j * 5)))) rfl rfl rfl rfl rfl (e_move) ?_
      refine qg_val (v := .int .i64 (1)) rfl rfl rfl rfl rfl (e_move) ?_
      refine qg_val (v := .pointer (some ((ba p).add (j * 5)))) rfl rfl rfl rfl rfl (e_nil (a := (ba p).add (j * 5)) rfl) ?_
      refine qg_val (v := .pointer (some ((ba p).add (j * 5 + 1)))) rfl rfl rfl rfl rfl (ev_eq (congrArg (fun z => Value.pointer (some z)) (show ((ba p).add (j * 5) : Addr).add 1 = (ba p).add (j * 5 + 1) by rw [Addr.add_add'])) (e_fieldAddr (a := (ba p).add (j * 5)) rfl uc125)) ?_
      refine qg_val (v := .pointer (some ((ba p).add (j * 5 + 2)))) rfl rfl rfl rfl rfl (ev_eq (congrArg (fun z => Value.pointer (some z)) (show ((ba p).add (j * 5 + 1) : Addr).add (1 * 1) = (ba p).add (j * 5 + 2) by rw [Addr.add_add'] <;> rfl)) (e_indexArr (a := (ba p).add (j * 5 + 1)) (k := 1) rfl rfl uc126 (by decide))) ?_
      refine qg_val (v := Ix (cv.v1)) rfl rfl rfl rfl rfl (e_load1 tf2 (v := Ix (cv.v1)) rfl (k_flPart 0 (F := CompF) (o := 2) (us := [Ix (cv.v1)]) rfl hj rfl)) ?_
      refine qg_val (v := Ix (max (cp.v1) (cv.v1))) rfl rfl rfl rfl rfl (e_max (a := (cp.v1)) (b := (cv.v1)) rfl rfl) ?_
      refine qg_val (v := .bool (decide ((1099511627776 : Int) < (max (cp.v1) (cv.v1))))) rfl rfl rfl rfl rfl (e_gtr (a := (max (cp.v1) (cv.v1))) (b := (1099511627776 : Int)) rfl rfl) ?_
      refine q_val (v := .bool (decide ((1099511627776 : Int) < (max (cp.v1) (cv.v1))))) rfl rfl rfl (e_pick_f rfl) ?_
      refine q_nil ?_
      refine f_then ?_
      refine c_if ((1099511627776 : Int) < (max (cp.v1) (cv.v1))) rfl (fun hc4 => ?_) (fun hc4 => ?_)
      ·
       exact absurd hc4 hG1
      ·
       refine c_skip ?_
       refine f_block ?_
       refine f_then ?_
       refine c_region ?_
       refine l_val (v := .int .i64 (2)) rfl rfl rfl (e_add (a := (1 : Int)) (b := (1 : Int)) rfl rfl (by decide)) ?_
       refine l_val (v := .int .i64 (2)) rfl rfl rfl (e_move) ?_
       refine l_nil ?_
       refine f_cut ?_
       refine un_succ 0 ?_
       refine c_seq ?_
       refine c_region ?_
       refine l_val (v := .bool false) rfl rfl rfl (e_lss (a := (2 : Int)) (b := (2 : Int)) rfl rfl) ?_
       refine l_nil ?_
       refine f_then ?_
       refine c_seq ?_
       refine c_no rfl ?_
       refine c_exit ?_
       refine f_then_exit ?_
       refine f_then_exit ?_
       refine f_exit ?_
       refine f_then ?_
       refine c_seq ?_
       refine c_region ?_
       refine l_val (v := .int .i64 (0)) rfl rfl rfl (e_move) ?_
       refine l_nil ?_
       refine f_then ?_
       refine c_block ?_
       refine c_unroll 3 ?_
       refine un_succ 2 ?_
       refine c_seq ?_
       refine c_region ?_
       refine l_val (v := .bool true) rfl rfl rfl (e_lss (a := (0 : Int)) (b := (2 : Int)) rfl rfl) ?_
       refine l_nil ?_
       refine f_then ?_
       refine c_seq ?_
       refine c_yes rfl ?_
       refine c_skip ?_
       refine f_then ?_
       refine c_seq ?_
       refine c_block ?_
       refine c_seq ?_
       refine c_region ?_
       refine l_val (v := .int .i64 (0)) rfl rfl rfl (e_move) ?_
       refine l_val (v := .int .i64 (0)) rfl rfl rfl (e_assign) ?_
       refine l_nil ?_
       refine f_then ?_
       refine c_seq ?_
       refine c_quiet (by kernel_rfl) (by kernel_rfl) ?_
       refine q_val (v := .pointer (some ((ba p).add (i * 5)))) rfl rfl rfl (e_move) ?_
       refine q_val (v := .int .i64 (0)) rfl rfl rfl (e_move) ?_
       refine q_val (v := .pointer (some ((ba p).add (i * 5)))) rfl rfl rfl (e_nil (a := (ba p).add (i * 5)) rfl) ?_
       refine q_val (v := .pointer (some ((ba p).add (i * 5 + 1)))) rfl rfl rfl (ev_eq (congrArg (fun z => Value.pointer (some z)) (show ((ba p).add (i * 5) : Addr).add 1 = (ba p).add (i * 5 + 1) by rw [Addr.add_add'])) (e_fieldAddr (a := (ba p).add (i * 5)) rfl uc125)) ?_
       refine q_val (v := .pointer (some ((ba p).add (i * 5 + 1)))) rfl rfl rfl (ev_eq (congrArg (fun z => Value.pointer (some z)) (show ((ba p).add (i * 5 + 1) : Addr).add (0 * 1) = (ba p).add (i * 5 + 1) by rw [Addr.add_add'] <;> rfl)) (e_indexArr (a := (ba p).add (i * 5 + 1)) (k := 0) rfl rfl uc126 (by decide))) ?_
       refine q_val (v := Ix (cp.v0)) rfl rfl rfl (e_load1 tf2 (v := Ix (cp.v0)) rfl (k_flPart 0 (F := CompF) (o := 1) (us := [Ix (cp.v0)]) rfl hi rfl)) ?_
       refine q_val (v := .pointer (some ((ba p).add (j * 5)))) rfl rfl rfl (e_move) ?_
       refine q_val (v := .int .i64 (0)) rfl rfl rfl (e_move) ?_
       refine q_val (v := .pointer (some ((ba p).add (j * 5)))) rfl rfl rfl (e_nil (a := (ba p).add (j * 5)) rfl) ?_
       refine q_val (v := .pointer (some ((ba p).add (j * 5 + 1)))) rfl rfl rfl (ev_eq (congrArg (fun z => Value.pointer (some z)) (show ((ba p).add (j * 5) : Addr).add 1 = (ba p).add (j * 5 + 1) by rw [Addr.add_add'])) (e_fieldAddr (a := (ba p).add (j * 5)) rfl uc125)) ?_
       refine q_val (v := .pointer (some ((ba p).add (j * 5 + 1)))) rfl rfl rfl (ev_eq (congrArg (fun z => Value.pointer (some z)) (show ((ba p).add (j * 5 + 1) : Addr).add (0 * 1) = (ba p).add (j * 5 + 1) by rw [Addr.add_add'] <;> rfl)) (e_indexArr (a := (ba p).add (j * 5 + 1)) (k := 0) rfl rfl uc126 (by decide))) ?_
       refine q_val (v := Ix (cv.v0)) rfl rfl rfl (e_load1 tf2 (v := Ix (cv.v0)) rfl (k_flPart 0 (F := CompF) (o := 1) (us := [Ix (cv.v0)]) rfl hj rfl)) ?_
       refine q_val (v := Ix ((cp.v0) + (cv.v0))) rfl rfl rfl (e_add (a := (cp.v0)) (b := (cv.v0)) rfl rfl (i64w (by omega))) ?_
       refine q_val (v := Ix ((cp.v0) + (cv.v0))) rfl rfl rfl (e_assign) ?_
       refine q_nil ?_
       refine f_then ?_
       refine c_seq ?_
       refine c_region ?_
       refine l_val (v := .pointer (some ((ba p).add (i * 5)))) rfl rfl rfl (e_move) ?_
       refine l_val (v := .int .i64 (0)) rfl rfl rfl (e_move) ?_
       refine l_val (v := Ix ((cp.v0) + (cv.v0))) rfl rfl rfl (e_move) ?_
       refine l_val (v := Ix (min ((cp.v0) + (cv.v0)) (1048576 : Int))) rfl rfl rfl (e_min (a := ((cp.v0) + (cv.v0))) (b := (1048576 : Int)) rfl rfl) ?_
       refine l_val (v := Ix (max (min ((cp.v0) + (cv.v0)) (1048576 : Int)) (-1048576 : Int))) rfl rfl rfl (e_max (a := (min ((cp.v0) + (cv.v0)) (1048576 : Int))) (b := (-1048576 : Int)) rfl rfl) ?_
       refine l_val (v := .pointer (some ((ba p).add (i * 5)))) rfl rfl rfl (e_nil (a := (ba p).add (i * 5)) rfl) ?_
       refine l_val (v := .pointer (some ((ba p).add (i * 5 + 1)))) rfl rfl rfl (ev_eq (congrArg (fun z => Value.pointer (some z)) (show ((ba p).add (i * 5) : Addr).add 1 = (ba p).add (i * 5 + 1) by rw [Addr.add_add'])) (e_fieldAddr (a := (ba p).add (i * 5)) rfl uc125)) ?_
       refine l_val (v := .pointer (some ((ba p).add (i * 5 + 1)))) rfl rfl rfl (ev_eq (congrArg (fun z => Value.pointer (some z)) (show ((ba p).add (i * 5 + 1) : Addr).add (0 * 1) = (ba p).add (i * 5 + 1) by rw [Addr.add_add'] <;> rfl)) (e_indexArr (a := (ba p).add (i * 5 + 1)) (k := 0) rfl rfl uc126 (by decide))) ?_
       refine l_mu rfl rfl (m_storeFlPart 0 (F := CompF) (p := p) (k := i) (o := 1) (xs := cs) (z0 := cp) (z := (setV0 cp (max (min ((cp.v0) + (cv.v0)) (1048576 : Int)) (-1048576 : Int)))) tf2 rfl rfl rfl rfl rfl hi (by decide) rfl) ?_
       refine l_nil ?_
       refine f_then ?_
       refine c_seq ?_
       refine c_region ?_
       refine l_val (v := .pointer (some ((ba p).add (i * 5)))) rfl rfl rfl (e_move) ?_
       refine l_val (v := .int .i64 (0)) rfl rfl rfl (e_move) ?_
       refine l_val (v := .pointer (some ((ba p).add (i * 5)))) rfl rfl rfl (e_nil (a := (ba p).add (i * 5)) rfl) ?_
       refine l_val (v := .pointer (some ((ba p).add (i * 5 + 1)))) rfl rfl rfl (ev_eq (congrArg (fun z => Value.pointer (some z)) (show ((ba p).add (i * 5) : Addr).add 1 = (ba p).add (i * 5 + 1) by rw [Addr.add_add'])) (e_fieldAddr (a := (ba p).add (i * 5)) rfl uc125)) ?_
       refine l_val (v := .pointer (some ((ba p).add (i * 5 + 1)))) rfl rfl rfl (ev_eq (congrArg (fun z => Value.pointer (some z)) (show ((ba p).add (i * 5 + 1) : Addr).add (0 * 1) = (ba p).add (i * 5 + 1) by rw [Addr.add_add'] <;> rfl)) (e_indexArr (a := (ba p).add (i * 5 + 1)) (k := 0) rfl rfl uc126 (by decide))) ?_
       refine l_val (v := Ix (max (min ((cp.v0) + (cv.v0)) (1048576 : Int)) (-1048576 : Int))) rfl rfl rfl (e_load1 tf2 (v := Ix (max (min ((cp.v0) + (cv.v0)) (1048576 : Int)) (-1048576 : Int))) rfl (k_flPart 0 (F := CompF) (o := 1) (us := [Ix (max (min ((cp.v0) + (cv.v0)) (1048576 : Int)) (-1048576 : Int))]) rfl (get_set (setV0 cp (max (min ((cp.v0) + (cv.v0)) (1048576 : Int)) (-1048576 : Int))) (by first | omega | (simp only [List.length_set]; omega))) rfl)) ?_
       refine l_val (v := Ix ((cp.v0) + (cv.v0))) rfl rfl rfl (e_move) ?_
       refine l_val (v := .bool (decide ((max (min ((cp.v0) + (cv.v0)) (1048576 : Int)) (-1048576 : Int)) ≠ ((cp.v0) + (cv.v0))))) rfl rfl rfl (e_neq (a := (max (min ((cp.v0) + (cv.v0)) (1048576 : Int)) (-1048576 : Int))) (b := ((cp.v0) + (cv.v0))) rfl rfl) ?_
       refine l_nil ?_
       refine f_then ?_
       refine c_if ((max (min ((cp.v0) + (cv.v0)) (1048576 : Int)) (-1048576 : Int)) ≠ ((cp.v0) + (cv.v0))) rfl (fun hc5 => ?_) (fun hc5 => ?_)
       ·
        refine c_region ?_
        refine l_val (v := .pointer (some ((ba p).add (j * 5)))) rfl rfl rfl (e_move) ?_
        refine l_val (v := .int .i64 (0)) rfl rfl rfl (e_move) ?_
        refine l_val (v := .pointer (some ((ba p).add (j * 5)))) rfl rfl rfl (e_nil (a := (ba p).add (j * 5)) rfl) ?_
        refine l_val (v := .pointer (some ((ba p).add (j * 5 + 1)))) rfl rfl rfl (ev_eq (congrArg (fun z => Value.pointer (some z)) (show ((ba p).add (j * 5) : Addr).add 1 = (ba p).add (j * 5 + 1) by rw [Addr.add_add'])) (e_fieldAddr (a := (ba p).add (j * 5)) rfl uc125)) ?_
        refine l_val (v := .pointer (some ((ba p).add (j * 5 + 1)))) rfl rfl rfl (ev_eq (congrArg (fun z => Value.pointer (some z)) (show ((ba p).add (j * 5 + 1) : Addr).add (0 * 1) = (ba p).add (j * 5 + 1) by rw [Addr.add_add'] <;> rfl)) (e_indexArr (a := (ba p).add (j * 5 + 1)) (k := 0) rfl rfl uc126 (by decide))) ?_
        refine l_mu rfl rfl (m_storeFlPart 0 (F := CompF) (p := p) (k := j) (o := 1) (xs := (cs.set i (setV0 cp (max (min ((cp.v0) + (cv.v0)) (1048576 : Int)) (-1048576 : Int))))) (z0 := cv) (z := (setV0 cv 0)) tf2 rfl rfl rfl rfl rfl (set_ne (by first | assumption | (apply Ne.symm; assumption)) hj) (by decide) rfl) ?_
        refine l_nil ?_
        refine f_block ?_
        refine f_then ?_
        refine c_region ?_
        refine l_val (v := .int .i64 (1)) rfl rfl rfl (e_add (a := (0 : Int)) (b := (1 : Int)) rfl rfl (by decide)) ?_
        refine l_val (v := .int .i64 (1)) rfl rfl rfl (e_move) ?_
        refine l_nil ?_
        refine f_cut ?_
        refine un_succ 1 ?_
        refine c_seq ?_
        refine c_region ?_
        refine l_val (v := .bool true) rfl rfl rfl (e_lss (a := (1 : Int)) (b := (2 : Int)) rfl rfl) ?_
        refine l_nil ?_
        refine f_then ?_
        refine c_seq ?_
        refine c_yes rfl ?_
        refine c_skip ?_
        refine f_then ?_
        refine c_seq ?_
        refine c_block ?_
        refine c_seq ?_
        refine c_region ?_
        refine l_val (v := .int .i64 (1)) rfl rfl rfl (e_move) ?_
        refine l_val (v := .int .i64 (1)) rfl rfl rfl (e_assign) ?_
        refine l_nil ?_
        refine f_then ?_
        refine c_seq ?_
        refine c_quiet (by kernel_rfl) (by kernel_rfl) ?_
        refine q_val (v := .pointer (some ((ba p).add (i * 5)))) rfl rfl rfl (e_move) ?_
        refine q_val (v := .int .i64 (1)) rfl rfl rfl (e_move) ?_
        refine q_val (v := .pointer (some ((ba p).add (i * 5)))) rfl rfl rfl (e_nil (a := (ba p).add (i * 5)) rfl) ?_
        refine q_val (v := .pointer (some ((ba p).add (i * 5 + 1)))) rfl rfl rfl (ev_eq (congrArg (fun z => Value.pointer (some z)) (show ((ba p).add (i * 5) : Addr).add 1 = (ba p).add (i * 5 + 1) by rw [Addr.add_add'])) (e_fieldAddr (a := (ba p).add (i * 5)) rfl uc125)) ?_
        refine q_val (v := .pointer (some ((ba p).add (i * 5 + 2)))) rfl rfl rfl (ev_eq (congrArg (fun z => Value.pointer (some z)) (show ((ba p).add (i * 5 + 1) : Addr).add (1 * 1) = (ba p).add (i * 5 + 2) by rw [Addr.add_add'] <;> rfl)) (e_indexArr (a := (ba p).add (i * 5 + 1)) (k := 1) rfl rfl uc126 (by decide))) ?_
        refine q_val (v := Ix (cp.v1)) rfl rfl rfl (e_load1 tf2 (v := Ix (cp.v1)) rfl (k_flPart 0 (F := CompF) (o := 2) (us := [Ix (cp.v1)]) rfl (set_ne (by first | assumption | (apply Ne.symm; assumption)) (get_set (setV0 cp (max (min ((cp.v0) + (cv.v0)) (1048576 : Int)) (-1048576 : Int))) (by first | omega | (simp only [List.length_set]; omega)))) rfl)) ?_
        refine q_val (v := .pointer (some ((ba p).add (j * 5)))) rfl rfl rfl (e_move) ?_
        refine q_val (v := .int .i64 (1)) rfl rfl rfl (e_move) ?_
        refine q_val (v := .pointer (some ((ba p).add (j * 5)))) rfl rfl rfl (e_nil (a := (ba p).add (j * 5)) rfl) ?_
        refine q_val (v := .pointer (some ((ba p).add (j * 5 + 1)))) rfl rfl rfl (ev_eq (congrArg (fun z => Value.pointer (some z)) (show ((ba p).add (j * 5) : Addr).add 1 = (ba p).add (j * 5 + 1) by rw [Addr.add_add'])) (e_fieldAddr (a := (ba p).add (j * 5)) rfl uc125)) ?_
        refine q_val (v := .pointer (some ((ba p).add (j * 5 + 2)))) rfl rfl rfl (ev_eq (congrArg (fun z => Value.pointer (some z)) (show ((ba p).add (j * 5 + 1) : Addr).add (1 * 1) = (ba p).add (j * 5 + 2) by rw [Addr.add_add'] <;> rfl)) (e_indexArr (a := (ba p).add (j * 5 + 1)) (k := 1) rfl rfl uc126 (by decide))) ?_
        refine q_val (v := Ix (cv.v1)) rfl rfl rfl (e_load1 tf2 (v := Ix (cv.v1)) rfl (k_flPart 0 (F := CompF) (o := 2) (us := [Ix (cv.v1)]) rfl (get_set (setV0 cv 0) (by first | omega | (simp only [List.length_set]; omega))) rfl)) ?_
        refine q_val (v := Ix ((cp.v1) + (cv.v1))) rfl rfl rfl (e_add (a := (cp.v1)) (b := (cv.v1)) rfl rfl (i64w (by omega))) ?_
        refine q_val (v := Ix ((cp.v1) + (cv.v1))) rfl rfl rfl (e_assign) ?_
        refine q_nil ?_
        refine f_then ?_
        refine c_seq ?_
        refine c_region ?_
        refine l_val (v := .pointer (some ((ba p).add (i * 5)))) rfl rfl rfl (e_move) ?_
        refine l_val (v := .int .i64 (1)) rfl rfl rfl (e_move) ?_
        refine l_val (v := Ix ((cp.v1) + (cv.v1))) rfl rfl rfl (e_move) ?_
        refine l_val (v := Ix (min ((cp.v1) + (cv.v1)) (1048576 : Int))) rfl rfl rfl (e_min (a := ((cp.v1) + (cv.v1))) (b := (1048576 : Int)) rfl rfl) ?_
        refine l_val (v := Ix (max (min ((cp.v1) + (cv.v1)) (1048576 : Int)) (-1048576 : Int))) rfl rfl rfl (e_max (a := (min ((cp.v1) + (cv.v1)) (1048576 : Int))) (b := (-1048576 : Int)) rfl rfl) ?_
        refine l_val (v := .pointer (some ((ba p).add (i * 5)))) rfl rfl rfl (e_nil (a := (ba p).add (i * 5)) rfl) ?_
        refine l_val (v := .pointer (some ((ba p).add (i * 5 + 1)))) rfl rfl rfl (ev_eq (congrArg (fun z => Value.pointer (some z)) (show ((ba p).add (i * 5) : Addr).add 1 = (ba p).add (i * 5 + 1) by rw [Addr.add_add'])) (e_fieldAddr (a := (ba p).add (i * 5)) rfl uc125)) ?_
        refine l_val (v := .pointer (some ((ba p).add (i * 5 + 2)))) rfl rfl rfl (ev_eq (congrArg (fun z => Value.pointer (some z)) (show ((ba p).add (i * 5 + 1) : Addr).add (1 * 1) = (ba p).add (i * 5 + 2) by rw [Addr.add_add'] <;> rfl)) (e_indexArr (a := (ba p).add (i * 5 + 1)) (k := 1) rfl rfl uc126 (by decide))) ?_
        refine l_mu rfl rfl (m_storeFlPart 0 (F := CompF) (p := p) (k := i) (o := 2) (xs := ((cs.set i (setV0 cp (max (min ((cp.v0) + (cv.v0)) (1048576 : Int)) (-1048576 : Int)))).set j (setV0 cv 0))) (z0 := (setV0 cp (max (min ((cp.v0) + (cv.v0)) (1048576 : Int)) (-1048576 : Int)))) (z := (setV1 (setV0 cp (max (min ((cp.v0) + (cv.v0)) (1048576 : Int)) (-1048576 : Int))) (max (min ((cp.v1) + (cv.v1)) (1048576 : Int)) (-1048576 : Int)))) tf2 rfl rfl rfl rfl rfl (set_ne (by first | assumption | (apply Ne.symm; assumption)) (get_set (setV0 cp (max (min ((cp.v0) + (cv.v0)) (1048576 : Int)) (-1048576 : Int))) (by first | omega | (simp only [List.length_set]; omega)))) (by decide) rfl) ?_
        refine l_nil ?_
        refine f_then ?_
        refine c_seq ?_
        refine c_region ?_
        refine l_val (v := .pointer (some ((ba p).add (i * 5)))) rfl rfl rfl (e_move) ?_
        refine l_val (v := .int .i64 (1)) rfl rfl rfl (e_move) ?_
        refine l_val (v := .pointer (some ((ba p).add (i * 5)))) rfl rfl rfl (e_nil (a := (ba p).add (i * 5)) rfl) ?_
        refine l_val (v := .pointer (some ((ba p).add (i * 5 + 1)))) rfl rfl rfl (ev_eq (congrArg (fun z => Value.pointer (some z)) (show ((ba p).add (i * 5) : Addr).add 1 = (ba p).add (i * 5 + 1) by rw [Addr.add_add'])) (e_fieldAddr (a := (ba p).add (i * 5)) rfl uc125)) ?_
        refine l_val (v := .pointer (some ((ba p).add (i * 5 + 2)))) rfl rfl rfl (ev_eq (congrArg (fun z => Value.pointer (some z)) (show ((ba p).add (i * 5 + 1) : Addr).add (1 * 1) = (ba p).add (i * 5 + 2) by rw [Addr.add_add'] <;> rfl)) (e_indexArr (a := (ba p).add (i * 5 + 1)) (k := 1) rfl rfl uc126 (by decide))) ?_
        refine l_val (v := Ix (max (min ((cp.v1) + (cv.v1)) (1048576 : Int)) (-1048576 : Int))) rfl rfl rfl (e_load1 tf2 (v := Ix (max (min ((cp.v1) + (cv.v1)) (1048576 : Int)) (-1048576 : Int))) rfl (k_flPart 0 (F := CompF) (o := 2) (us := [Ix (max (min ((cp.v1) + (cv.v1)) (1048576 : Int)) (-1048576 : Int))]) rfl (get_set (setV1 (setV0 cp (max (min ((cp.v0) + (cv.v0)) (1048576 : Int)) (-1048576 : Int))) (max (min ((cp.v1) + (cv.v1)) (1048576 : Int)) (-1048576 : Int))) (by first | omega | (simp only [List.length_set]; omega))) rfl)) ?_
        refine l_val (v := Ix ((cp.v1) + (cv.v1))) rfl rfl rfl (e_move) ?_
        refine l_val (v := .bool (decide ((max (min ((cp.v1) + (cv.v1)) (1048576 : Int)) (-1048576 : Int)) ≠ ((cp.v1) + (cv.v1))))) rfl rfl rfl (e_neq (a := (max (min ((cp.v1) + (cv.v1)) (1048576 : Int)) (-1048576 : Int))) (b := ((cp.v1) + (cv.v1))) rfl rfl) ?_
        refine l_nil ?_
        refine f_then ?_
        refine c_if ((max (min ((cp.v1) + (cv.v1)) (1048576 : Int)) (-1048576 : Int)) ≠ ((cp.v1) + (cv.v1))) rfl (fun hc6 => ?_) (fun hc6 => ?_)
        ·
         refine c_region ?_
         refine l_val (v := .pointer (some ((ba p).add (j * 5)))) rfl rfl rfl (e_move) ?_
         refine l_val (v := .int .i64 (1)) rfl rfl rfl (e_move) ?_
         refine l_val (v := .pointer (some ((ba p).add (j * 5)))) rfl rfl rfl (e_nil (a := (ba p).add (j * 5)) rfl) ?_
         refine l_val (v := .pointer (some ((ba p).add (j * 5 + 1)))) rfl rfl rfl (ev_eq (congrArg (fun z => Value.pointer (some z)) (show ((ba p).add (j * 5) : Addr).add 1 = (ba p).add (j * 5 + 1) by rw [Addr.add_add'])) (e_fieldAddr (a := (ba p).add (j * 5)) rfl uc125)) ?_
         refine l_val (v := .pointer (some ((ba p).add (j * 5 + 2)))) rfl rfl rfl (ev_eq (congrArg (fun z => Value.pointer (some z)) (show ((ba p).add (j * 5 + 1) : Addr).add (1 * 1) = (ba p).add (j * 5 + 2) by rw [Addr.add_add'] <;> rfl)) (e_indexArr (a := (ba p).add (j * 5 + 1)) (k := 1) rfl rfl uc126 (by decide))) ?_
         refine l_mu rfl rfl (m_storeFlPart 0 (F := CompF) (p := p) (k := j) (o := 2) (xs := (((cs.set i (setV0 cp (max (min ((cp.v0) + (cv.v0)) (1048576 : Int)) (-1048576 : Int)))).set j (setV0 cv 0)).set i (setV1 (setV0 cp (max (min ((cp.v0) + (cv.v0)) (1048576 : Int)) (-1048576 : Int))) (max (min ((cp.v1) + (cv.v1)) (1048576 : Int)) (-1048576 : Int))))) (z0 := (setV0 cv 0)) (z := (setV1 (setV0 cv 0) 0)) tf2 rfl rfl rfl rfl rfl (set_ne (by first | assumption | (apply Ne.symm; assumption)) (get_set (setV0 cv 0) (by first | omega | (simp only [List.length_set]; omega)))) (by decide) rfl) ?_
         refine l_nil ?_
         refine f_block ?_
         refine f_then ?_
         refine c_region ?_
         refine l_val (v := .int .i64 (2)) rfl rfl rfl (e_add (a := (1 : Int)) (b := (1 : Int)) rfl rfl (by decide)) ?_
         refine l_val (v := .int .i64 (2)) rfl rfl rfl (e_move) ?_
         refine l_nil ?_
         refine f_cut ?_
         refine un_succ 0 ?_
         refine c_seq ?_
         refine c_region ?_
         refine l_val (v := .bool false) rfl rfl rfl (e_lss (a := (2 : Int)) (b := (2 : Int)) rfl rfl) ?_
         refine l_nil ?_
         refine f_then ?_
         refine c_seq ?_
         refine c_no rfl ?_
         refine c_exit ?_
         refine f_then_exit ?_
         refine f_then_exit ?_
         refine f_exit ?_
         refine end0 Tryz.results66 ?_
         intro w hw
         have e : flyC cs i j cp cv = ((((cs.set i (setV0 cp (max (min ((cp.v0) + (cv.v0)) (1048576 : Int)) (-1048576 : Int)))).set j (setV0 cv 0)).set i (setV1 (setV0 cp (max (min ((cp.v0) + (cv.v0)) (1048576 : Int)) (-1048576 : Int))) (max (min ((cp.v1) + (cv.v1)) (1048576 : Int)) (-1048576 : Int)))).set j (setV1 (setV0 cv 0) 0)) := by
          rw [fly_yes ⟨⟨by omega, by omega⟩, by omega, by omega⟩, if_neg hc5, if_neg hc6]
          try simp only [set_swap hij, List.set_set]
          try rfl
         exact ⟨rfl, by rw [e]; exact st_mask [true] rfl hw⟩
        ·
         refine c_skip ?_
         refine f_block ?_
         refine f_then ?_
         refine c_region ?_
         refine l_val (v := .int .i64 (2)) rfl rfl rfl (e_add (a := (1 : Int)) (b := (1 : Int)) rfl rfl (by decide)) ?_
         refine l_val (v := .int .i64 (2)) rfl rfl rfl (e_move) ?_
         refine l_nil ?_
         refine f_cut ?_
         refine un_succ 0 ?_
         refine c_seq ?_
         refine c_region ?_
         refine l_val (v := .bool false) rfl rfl rfl (e_lss (a := (2 : Int)) (b := (2 : Int)) rfl rfl) ?_
         refine l_nil ?_
         refine f_then ?_
         refine c_seq ?_
         refine c_no rfl ?_
         refine c_exit ?_
         refine f_then_exit ?_
         refine f_then_exit ?_
         refine f_exit ?_
         refine end0 Tryz.results66 ?_
         intro w hw
         have e : flyC cs i j cp cv = (((cs.set i (setV0 cp (max (min ((cp.v0) + (cv.v0)) (1048576 : Int)) (-1048576 : Int)))).set j (setV0 cv 0)).set i (setV1 (setV0 cp (max (min ((cp.v0) + (cv.v0)) (1048576 : Int)) (-1048576 : Int))) (max (min ((cp.v1) + (cv.v1)) (1048576 : Int)) (-1048576 : Int)))) := by
          rw [fly_yes ⟨⟨by omega, by omega⟩, by omega, by omega⟩, if_neg hc5, if_pos (Decidable.not_not.1 hc6)]
          try simp only [set_swap hij, List.set_set]
          try rfl
         exact ⟨rfl, by rw [e]; exact st_mask [true] rfl hw⟩
       ·
        refine c_skip ?_
        refine f_block ?_
        refine f_then ?_
        refine c_region ?_
        refine l_val (v := .int .i64 (1)) rfl rfl rfl (e_add (a := (0 : Int)) (b := (1 : Int)) rfl rfl (by decide)) ?_
        refine l_val (v := .int .i64 (1)) rfl rfl rfl (e_move) ?_
        refine l_nil ?_
        refine f_cut ?_
        refine un_succ 1 ?_
        refine c_seq ?_
        refine c_region ?_
        refine l_val (v := .bool true) rfl rfl rfl (e_lss (a := (1 : Int)) (b := (2 : Int)) rfl rfl) ?_
        refine l_nil ?_
        refine f_then ?_
        refine c_seq ?_
        refine c_yes rfl ?_
        refine c_skip ?_
        refine f_then ?_
        refine c_seq ?_
        refine c_block ?_
        refine c_seq ?_
        refine c_region ?_
        refine l_val (v := .int .i64 (1)) rfl rfl rfl (e_move) ?_
        refine l_val (v := .int .i64 (1)) rfl rfl rfl (e_assign) ?_
        refine l_nil ?_
        refine f_then ?_
        refine c_seq ?_
        refine c_quiet (by kernel_rfl) (by kernel_rfl) ?_
        refine q_val (v := .pointer (some ((ba p).add (i * 5)))) rfl rfl rfl (e_move) ?_
        refine q_val (v := .int .i64 (1)) rfl rfl rfl (e_move) ?_
        refine q_val (v := .pointer (some ((ba p).add (i * 5)))) rfl rfl rfl (e_nil (a := (ba p).add (i * 5)) rfl) ?_
        refine q_val (v := .pointer (some ((ba p).add (i * 5 + 1)))) rfl rfl rfl (ev_eq (congrArg (fun z => Value.pointer (some z)) (show ((ba p).add (i * 5) : Addr).add 1 = (ba p).add (i * 5 + 1) by rw [Addr.add_add'])) (e_fieldAddr (a := (ba p).add (i * 5)) rfl uc125)) ?_
        refine q_val (v := .pointer (some ((ba p).add (i * 5 + 2)))) rfl rfl rfl (ev_eq (congrArg (fun z => Value.pointer (some z)) (show ((ba p).add (i * 5 + 1) : Addr).add (1 * 1) = (ba p).add (i * 5 + 2) by rw [Addr.add_add'] <;> rfl)) (e_indexArr (a := (ba p).add (i * 5 + 1)) (k := 1) rfl rfl uc126 (by decide))) ?_
        refine q_val (v := Ix (cp.v1)) rfl rfl rfl (e_load1 tf2 (v := Ix (cp.v1)) rfl (k_flPart 0 (F := CompF) (o := 2) (us := [Ix (cp.v1)]) rfl (get_set (setV0 cp (max (min ((cp.v0) + (cv.v0)) (1048576 : Int)) (-1048576 : Int))) (by first | omega | (simp only [List.length_set]; omega))) rfl)) ?_
        refine q_val (v := .pointer (some ((ba p).add (j * 5)))) rfl rfl rfl (e_move) ?_
        refine q_val (v := .int .i64 (1)) rfl rfl rfl (e_move) ?_
        refine q_val (v := .pointer (some ((ba p).add (j * 5)))) rfl rfl rfl (e_nil (a := (ba p).add (j * 5)) rfl) ?_
        refine q_val (v := .pointer (some ((ba p).add (j * 5 + 1)))) rfl rfl rfl (ev_eq (congrArg (fun z => Value.pointer (some z)) (show ((ba p).add (j * 5) : Addr).add 1 = (ba p).add (j * 5 + 1) by rw [Addr.add_add'])) (e_fieldAddr (a := (ba p).add (j * 5)) rfl uc125)) ?_
        refine q_val (v := .pointer (some ((ba p).add (j * 5 + 2)))) rfl rfl rfl (ev_eq (congrArg (fun z => Value.pointer (some z)) (show ((ba p).add (j * 5 + 1) : Addr).add (1 * 1) = (ba p).add (j * 5 + 2) by rw [Addr.add_add'] <;> rfl)) (e_indexArr (a := (ba p).add (j * 5 + 1)) (k := 1) rfl rfl uc126 (by decide))) ?_
        refine q_val (v := Ix (cv.v1)) rfl rfl rfl (e_load1 tf2 (v := Ix (cv.v1)) rfl (k_flPart 0 (F := CompF) (o := 2) (us := [Ix (cv.v1)]) rfl (set_ne (by first | assumption | (apply Ne.symm; assumption)) hj) rfl)) ?_
        refine q_val (v := Ix ((cp.v1) + (cv.v1))) rfl rfl rfl (e_add (a := (cp.v1)) (b := (cv.v1)) rfl rfl (i64w (by omega))) ?_
        refine q_val (v := Ix ((cp.v1) + (cv.v1))) rfl rfl rfl (e_assign) ?_
        refine q_nil ?_
        refine f_then ?_
        refine c_seq ?_
        refine c_region ?_
        refine l_val (v := .pointer (some ((ba p).add (i * 5)))) rfl rfl rfl (e_move) ?_
        refine l_val (v := .int .i64 (1)) rfl rfl rfl (e_move) ?_
        refine l_val (v := Ix ((cp.v1) + (cv.v1))) rfl rfl rfl (e_move) ?_
        refine l_val (v := Ix (min ((cp.v1) + (cv.v1)) (1048576 : Int))) rfl rfl rfl (e_min (a := ((cp.v1) + (cv.v1))) (b := (1048576 : Int)) rfl rfl) ?_
        refine l_val (v := Ix (max (min ((cp.v1) + (cv.v1)) (1048576 : Int)) (-1048576 : Int))) rfl rfl rfl (e_max (a := (min ((cp.v1) + (cv.v1)) (1048576 : Int))) (b := (-1048576 : Int)) rfl rfl) ?_
        refine l_val (v := .pointer (some ((ba p).add (i * 5)))) rfl rfl rfl (e_nil (a := (ba p).add (i * 5)) rfl) ?_
        refine l_val (v := .pointer (some ((ba p).add (i * 5 + 1)))) rfl rfl rfl (ev_eq (congrArg (fun z => Value.pointer (some z)) (show ((ba p).add (i * 5) : Addr).add 1 = (ba p).add (i * 5 + 1) by rw [Addr.add_add'])) (e_fieldAddr (a := (ba p).add (i * 5)) rfl uc125)) ?_
        refine l_val (v := .pointer (some ((ba p).add (i * 5 + 2)))) rfl rfl rfl (ev_eq (congrArg (fun z => Value.pointer (some z)) (show ((ba p).add (i * 5 + 1) : Addr).add (1 * 1) = (ba p).add (i * 5 + 2) by rw [Addr.add_add'] <;> rfl)) (e_indexArr (a := (ba p).add (i * 5 + 1)) (k := 1) rfl rfl uc126 (by decide))) ?_
        refine l_mu rfl rfl (m_storeFlPart 0 (F := CompF) (p := p) (k := i) (o := 2) (xs := (cs.set i (setV0 cp (max (min ((cp.v0) + (cv.v0)) (1048576 : Int)) (-1048576 : Int))))) (z0 := (setV0 cp (max (min ((cp.v0) + (cv.v0)) (1048576 : Int)) (-1048576 : Int)))) (z := (setV1 (setV0 cp (max (min ((cp.v0) + (cv.v0)) (1048576 : Int)) (-1048576 : Int))) (max (min ((cp.v1) + (cv.v1)) (1048576 : Int)) (-1048576 : Int)))) tf2 rfl rfl rfl rfl rfl (get_set (setV0 cp (max (min ((cp.v0) + (cv.v0)) (1048576 : Int)) (-1048576 : Int))) (by first | omega | (simp only [List.length_set]; omega))) (by decide) rfl) ?_
        refine l_re (L' := [rowF CompF 120 p c (cs.set i (setV1 (setV0 cp (max (min ((cp.v0) + (cv.v0)) (1048576 : Int)) (-1048576 : Int))) (max (min ((cp.v1) + (cv.v1)) (1048576 : Int)) (-1048576 : Int))))]) (by show (_ :: _ : List Res) = _; simp only [List.set_set, List.set_cons_zero, List.set_cons_succ]) ?_
        refine l_nil ?_
        refine f_then ?_
        refine c_seq ?_
        refine c_region ?_
        refine l_val (v := .pointer (some ((ba p).add (i * 5)))) rfl rfl rfl (e_move) ?_
        refine l_val (v := .int .i64 (1)) rfl rfl rfl (e_move) ?_
        refine l_val (v := .pointer (some ((ba p).add (i * 5)))) rfl rfl rfl (e_nil (a := (ba p).add (i * 5)) rfl) ?_
        refine l_val (v := .pointer (some ((ba p).add (i * 5 + 1)))) rfl rfl rfl (ev_eq (congrArg (fun z => Value.pointer (some z)) (show ((ba p).add (i * 5) : Addr).add 1 = (ba p).add (i * 5 + 1) by rw [Addr.add_add'])) (e_fieldAddr (a := (ba p).add (i * 5)) rfl uc125)) ?_
        refine l_val (v := .pointer (some ((ba p).add (i * 5 + 2)))) rfl rfl rfl (ev_eq (congrArg (fun z => Value.pointer (some z)) (show ((ba p).add (i * 5 + 1) : Addr).add (1 * 1) = (ba p).add (i * 5 + 2) by rw [Addr.add_add'] <;> rfl)) (e_indexArr (a := (ba p).add (i * 5 + 1)) (k := 1) rfl rfl uc126 (by decide))) ?_
        refine l_val (v := Ix (max (min ((cp.v1) + (cv.v1)) (1048576 : Int)) (-1048576 : Int))) rfl rfl rfl (e_load1 tf2 (v := Ix (max (min ((cp.v1) + (cv.v1)) (1048576 : Int)) (-1048576 : Int))) rfl (k_flPart 0 (F := CompF) (o := 2) (us := [Ix (max (min ((cp.v1) + (cv.v1)) (1048576 : Int)) (-1048576 : Int))]) rfl (get_set (setV1 (setV0 cp (max (min ((cp.v0) + (cv.v0)) (1048576 : Int)) (-1048576 : Int))) (max (min ((cp.v1) + (cv.v1)) (1048576 : Int)) (-1048576 : Int))) (by first | omega | (simp only [List.length_set]; omega))) rfl)) ?_
        refine l_val (v := Ix ((cp.v1) + (cv.v1))) rfl rfl rfl (e_move) ?_
        refine l_val (v := .bool (decide ((max (min ((cp.v1) + (cv.v1)) (1048576 : Int)) (-1048576 : Int)) ≠ ((cp.v1) + (cv.v1))))) rfl rfl rfl (e_neq (a := (max (min ((cp.v1) + (cv.v1)) (1048576 : Int)) (-1048576 : Int))) (b := ((cp.v1) + (cv.v1))) rfl rfl) ?_
        refine l_nil ?_
        refine f_then ?_
        refine c_if ((max (min ((cp.v1) + (cv.v1)) (1048576 : Int)) (-1048576 : Int)) ≠ ((cp.v1) + (cv.v1))) rfl (fun hc7 => ?_) (fun hc7 => ?_)
        ·
         refine c_region ?_
         refine l_val (v := .pointer (some ((ba p).add (j * 5)))) rfl rfl rfl (e_move) ?_
         refine l_val (v := .int .i64 (1)) rfl rfl rfl (e_move) ?_
         refine l_val (v := .pointer (some ((ba p).add (j * 5)))) rfl rfl rfl (e_nil (a := (ba p).add (j * 5)) rfl) ?_
         refine l_val (v := .pointer (some ((ba p).add (j * 5 + 1)))) rfl rfl rfl (ev_eq (congrArg (fun z => Value.pointer (some z)) (show ((ba p).add (j * 5) : Addr).add 1 = (ba p).add (j * 5 + 1) by rw [Addr.add_add'])) (e_fieldAddr (a := (ba p).add (j * 5)) rfl uc125)) ?_
         refine l_val (v := .pointer (some ((ba p).add (j * 5 + 2)))) rfl rfl rfl (ev_eq (congrArg (fun z => Value.pointer (some z)) (show ((ba p).add (j * 5 + 1) : Addr).add (1 * 1) = (ba p).add (j * 5 + 2) by rw [Addr.add_add'] <;> rfl)) (e_indexArr (a := (ba p).add (j * 5 + 1)) (k := 1) rfl rfl uc126 (by decide))) ?_
         refine l_mu rfl rfl (m_storeFlPart 0 (F := CompF) (p := p) (k := j) (o := 2) (xs := (cs.set i (setV1 (setV0 cp (max (min ((cp.v0) + (cv.v0)) (1048576 : Int)) (-1048576 : Int))) (max (min ((cp.v1) + (cv.v1)) (1048576 : Int)) (-1048576 : Int))))) (z0 := cv) (z := (setV1 cv 0)) tf2 rfl rfl rfl rfl rfl (set_ne (by first | assumption | (apply Ne.symm; assumption)) hj) (by decide) rfl) ?_
         refine l_nil ?_
         refine f_block ?_
         refine f_then ?_
         refine c_region ?_
         refine l_val (v := .int .i64 (2)) rfl rfl rfl (e_add (a := (1 : Int)) (b := (1 : Int)) rfl rfl (by decide)) ?_
         refine l_val (v := .int .i64 (2)) rfl rfl rfl (e_move) ?_
         refine l_nil ?_
         refine f_cut ?_
         refine un_succ 0 ?_
         refine c_seq ?_
         refine c_region ?_
         refine l_val (v := .bool false) rfl rfl rfl (e_lss (a := (2 : Int)) (b := (2 : Int)) rfl rfl) ?_
         refine l_nil ?_
         refine f_then ?_
         refine c_seq ?_
         refine c_no rfl ?_
         refine c_exit ?_
         refine f_then_exit ?_
         refine f_then_exit ?_
         refine f_exit ?_
         refine end0 Tryz.results66 ?_
         intro w hw
         have e : flyC cs i j cp cv = ((cs.set i (setV1 (setV0 cp (max (min ((cp.v0) + (cv.v0)) (1048576 : Int)) (-1048576 : Int))) (max (min ((cp.v1) + (cv.v1)) (1048576 : Int)) (-1048576 : Int)))).set j (setV1 cv 0)) := by
          rw [fly_yes ⟨⟨by omega, by omega⟩, by omega, by omega⟩, if_pos (Decidable.not_not.1 hc5), if_neg hc7]
          try simp only [set_swap hij, List.set_set]
          try rfl
         exact ⟨rfl, by rw [e]; exact st_mask [true] rfl hw⟩
        ·
         refine c_skip ?_
         refine f_block ?_
         refine f_then ?_
         refine c_region ?_
         refine l_val (v := .int .i64 (2)) rfl rfl rfl (e_add (a := (1 : Int)) (b := (1 : Int)) rfl rfl (by decide)) ?_
         refine l_val (v := .int .i64 (2)) rfl rfl rfl (e_move) ?_
         refine l_nil ?_
         refine f_cut ?_
         refine un_succ 0 ?_
         refine c_seq ?_
         refine c_region ?_
         refine l_val (v := .bool false) rfl rfl rfl (e_lss (a := (2 : Int)) (b := (2 : Int)) rfl rfl) ?_
         refine l_nil ?_
         refine f_then ?_
         refine c_seq ?_
         refine c_no rfl ?_
         refine c_exit ?_
         refine f_then_exit ?_
         refine f_then_exit ?_
         refine f_exit ?_
         refine end0 Tryz.results66 ?_
         intro w hw
         have e : flyC cs i j cp cv = (cs.set i (setV1 (setV0 cp (max (min ((cp.v0) + (cv.v0)) (1048576 : Int)) (-1048576 : Int))) (max (min ((cp.v1) + (cv.v1)) (1048576 : Int)) (-1048576 : Int)))) := by
          rw [fly_yes ⟨⟨by omega, by omega⟩, by omega, by omega⟩, if_pos (Decidable.not_not.1 hc5), if_pos (Decidable.not_not.1 hc7)]
          exact set_self (set_ne (Ne.symm hij) hj)
         exact ⟨rfl, by rw [e]; exact st_mask [true] rfl hw⟩
theorem back1_fn (β : Base) (c : Nat) (i : Int) (v : Value) (hc : Cs β.heap ⟨c, 0, none⟩ [Ix i, v]) : FnV Tryz.prog β (.func (.func 68) #[] #[.pointer (some ⟨c, 0, none⟩)]) (fun z : KB => [.agg (bC z)]) (fun _ => True) (fun z => .bool (decide (z.id = i))) := by
 refine ⟨68, [], [.pointer (some (⟨c, 0, none⟩))], rfl, by kernel_rfl, fun β₁ sb0 z_ hz_ w hw => ?_⟩
 have hc1 := Cs.mono _ _ _ _ sb0 hc
 obtain ⟨z, hz⟩ : ∃ z, z = z_ := ⟨_, rfl⟩
 subst hz
 refine enter (n := 9) Tryz.func68 rfl Tryz.ntmps68 rfl ?_ hw
 refine c_seq ?_
 refine c_region ?_
 refine l_mv rfl rfl rfl (m_box (v := .agg (bC z)) rfl) ?_
 rintro _ _ ⟨b1, rfl, rfl⟩
 refine l_val (v := .bool false) rfl rfl rfl (e_assign) ?_
 refine l_nil ?_
 refine f_then ?_
 refine c_seq ?_
 refine c_region ?_
 refine l_val (v := .pointer (some ⟨b1, 0, none⟩)) rfl rfl rfl (e_fieldPt (b := b1) (o := 0) rfl tf3) ?_
 refine l_val (v := Ix (z.id)) rfl rfl rfl (e_load1 tf2 (v := Ix (z.id)) rfl (k_pt 0 (cs := (bC z)) (vs := [Ix (z.id)]) rfl rfl)) ?_
 refine l_val (v := .pointer (some ((⟨c, 0, none⟩ : Addr).add 0))) rfl rfl rfl (e_fieldAddr (a := ⟨c, 0, none⟩) rfl uc124) ?_
 refine l_val (v := Ix (i)) rfl rfl rfl (e_load1 tf2 (v := Ix (i)) rfl (Knows.imp (Knows.of_base (Cs.mono _ _) hc1) (fun _ h => Cs.sub (vs := [Ix (i)]) 0 h rfl))) ?_
 refine l_val (v := .bool (decide ((z.id) = (i)))) rfl rfl rfl (e_eql (a := (z.id)) (b := (i)) rfl rfl) ?_
 refine l_val (v := .bool (decide ((z.id) = (i)))) rfl rfl rfl (e_assign) ?_
 refine l_nil ?_
 refine f_then ?_
 refine c_ret ?_
 refine ret1 Tryz.results68 (v := .bool (decide ((z.id) = (i)))) rfl ?_
 intro w hw
 exact ⟨rfl, st_mask [false] rfl hw⟩
end Go.Proofs
