/-
 fly, Back, World: walked. Printed by a program of my own.
-/
import Derived.Test.YtbhkgodiencdlaaDoorSt22
import Derived.Test.YtbhkgodiencdlaaDoorStBack
import Derived.Test.YtbhkgodiencdlaaDoorSlC
namespace Go.Proofs
open Go Go.Sl Go.Stp
theorem tg135 : elB Tryd.prog 73 5 40 = true := by kernel_rfl
theorem tg136 : (Tryd.prog.info? 70).bind (·.zero) = some (.agg #[.int .i64 (0), .slice none 0 0]) := by kernel_rfl
theorem tg137 : fldB Tryd.prog 70 0 0 1 false = true := by kernel_rfl
theorem tg138 : stB Tryd.prog 70 [(0, 1), (1, 1)] = true := by kernel_rfl
theorem tg139 : tyB Tryd.prog 70 true 2 = true := by kernel_rfl
theorem tg140 : cfB Tryd.prog 93 = true := by kernel_rfl
theorem tg141 : elB Tryd.prog 76 2 32 = true := by kernel_rfl
theorem tg142 : cfB Tryd.prog 95 = true := by kernel_rfl
theorem tg143 : cfB Tryd.prog 34 = true := by kernel_rfl
theorem tg144 : cfB Tryd.prog 58 = true := by kernel_rfl
theorem cloneC_ok (β : Base) (w : World) (hw : St β [] w) (v : Value) (xs : List KComp) (hs : Sl CompR β.heap v xs) (hn : xs.length ≤ 1048576) : Calls Tryd.prog 93 #[v] w fun r w' => ∃ p c, r = .returned (sB p xs c) ∧ St β [rowF CompF 73 p c xs] w' := by
 obtain ⟨va, vc, rfl, vl, vm, ve⟩ := hs.get
 refine enter (n := 8) Tryd.func93 rfl Tryd.ntmps93 rfl ?_ hw
 refine csr ?_
 refine l_val (v := .slice none 0 0) rfl rfl rfl e_assign ?_
 refine lnf ?_
 refine cs2 ?_
 refine c_region ?_
 refine lv (v := sB va xs (vc)) e_move ?_
 refine lv (v := .bool (va.isNone)) (e_eql_snil (a := va) rfl rfl tg114) ?_
 refine lnf ?_
 refine c_ifb (va.isNone) rfl (fun hc1 => ?_) (fun hc1 => ?_)
 ·refine csr ?_
  refine l_val (v := .slice none 0 0) rfl rfl rfl e_assign ?_
  refine lnf ?_
  refine c_ret ?_
  refine f_then_ret ?_
  refine ret1 Tryd.results93 (v := .slice none 0 0) rfl ?_
  intro w hw
  obtain rfl := nil_empty ve hc1
  exact ⟨none, 0, rfl, (st_mask [] rfl hw).emp (row_nil _ _ _)⟩
 refine csk ?_
 refine csr ?_
 refine l_mv rfl rfl rfl (m_slice0 tg115) ?_
 rintro _ _ ⟨b2, rfl, rfl⟩
 refine lv (v := sB va xs (vc)) e_move ?_
 refine l_conseq 0 (r' := rowF CompF 73 (some ⟨b2, 0, none⟩) 0 []) rfl (fun a h => pt_row (m := 0) (by decide) rfl a h) ?_
 refine l_mv rfl rfl rfl (m_appendFlN (F := CompF) 0 tg115 tg135 (p := (some ⟨b2, 0, none⟩)) (m := 0) (xs := []) (ys := xs) (ao := va) (k := xs.length) (c := vc) rfl rfl rfl rfl rfl (Knows.of_base (Elems.mono _ _ _) ve) (by first | omega | simp only [List.length_nil, List.length_cons, List.length_append, List.length_set]; omega) (by first | omega | simp only [List.length_nil, List.length_cons, List.length_append, List.length_set]; omega)) ?_
 rintro _ _ ⟨rp3, rc4, rfl, rfl⟩
 refine lv (v := sB rp3 xs rc4) e_assign ?_
 refine lnf ?_
 refine c_ret ?_
 refine ret1 Tryd.results93 (v := sB rp3 xs rc4) rfl ?_
 intro w hw
 exact ⟨_, _, rfl, st_mask (L' := [rowF CompF 73 rp3 rc4 xs]) [true] rfl hw⟩
set_option maxHeartbeats 4000000 in
theorem fly_ok (β : Base) (w : World) (p : Option Addr) (c : Nat) (cs : List KComp) (i j : Nat) (cp cv : KComp) (hi : cs[i]? = some cp) (hj : cs[j]? = some cv) (hij : i ≠ j) (hw : St β [rowF CompF 73 p c cs] w) : Calls Tryd.prog 95 #[.pointer (some ((ba p).add (i * 5))), .pointer (some ((ba p).add (j * 5)))] w fun r w' => r = .returned (.tuple #[]) ∧ St β [rowF CompF 73 p c (flyC cs i j cp cv)] w' := by
 have hli := (List.getElem?_eq_some_iff.1 hi).1
 have hlj := (List.getElem?_eq_some_iff.1 hj).1
 refine enter (n := 79) Tryd.func95 rfl Tryd.ntmps95 rfl ?_ hw
 refine cs2 ?_
 refine c_region ?_
 refine lv (v := .int .i64 (0)) e_move ?_
 refine lnf ?_
 refine c_block ?_
 refine c_unroll 3 ?_
 refine un_succ 2 ?_
 refine csr ?_
 refine lv (v := .bool true) (e_lss (a := (0 : Int)) (b := (2 : Int)) rfl rfl) ?_
 refine lnf ?_
 refine c_seq ?_
 refine c_yes rfl ?_
 refine csk ?_
 refine c_seq ?_
 refine c_block ?_
 refine csr ?_
 refine lv (v := .int .i64 (0)) e_move ?_
 refine lv (v := .int .i64 (0)) e_assign ?_
 refine lnf ?_
 refine c_seq ?_
 rcases Decidable.em (min cp.v0 cv.v0 < -1099511627776) with hL0 | hL0
 ·refine c_quiet (by kernel_rfl) (by kernel_rfl) ?_
  refine q_val (v := .pointer (some ((ba p).add (i * 5)))) rfl rfl rfl e_move ?_
  refine q_val (v := .int .i64 (0)) rfl rfl rfl e_move ?_
  refine q_val (v := .pointer (some ((ba p).add (i * 5)))) rfl rfl rfl (e_nil (a := (ba p).add (i * 5)) rfl) ?_
  refine q_val (v := .pointer (some ((ba p).add (i * 5 + 1)))) rfl rfl rfl (ev_eq (congrArg (fun z => Value.pointer (some z)) (show ((ba p).add (i * 5) : Addr).add 1 = (ba p).add (i * 5 + 1) by rw [Addr.add_add'])) (e_fieldAddr (a := (ba p).add (i * 5)) rfl tg125)) ?_
  refine q_val (v := .pointer (some ((ba p).add (i * 5 + 1)))) rfl rfl rfl (ev_eq (congrArg (fun z => Value.pointer (some z)) (show ((ba p).add (i * 5 + 1) : Addr).add (0 * 1) = (ba p).add (i * 5 + 1) by rw [Addr.add_add'] <;> rfl)) (e_indexArr (a := (ba p).add (i * 5 + 1)) (k := 0) rfl rfl tg126 (by decide))) ?_
  refine q_val (v := Ix (cp.v0)) rfl rfl rfl (e_load1 tf2 rfl (k_flPart 0 (F := CompF) (o := 1) (us := [Ix (cp.v0)]) rfl hi rfl)) ?_
  refine q_val (v := .pointer (some ((ba p).add (j * 5)))) rfl rfl rfl e_move ?_
  refine q_val (v := .int .i64 (0)) rfl rfl rfl e_move ?_
  refine q_val (v := .pointer (some ((ba p).add (j * 5)))) rfl rfl rfl (e_nil (a := (ba p).add (j * 5)) rfl) ?_
  refine q_val (v := .pointer (some ((ba p).add (j * 5 + 1)))) rfl rfl rfl (ev_eq (congrArg (fun z => Value.pointer (some z)) (show ((ba p).add (j * 5) : Addr).add 1 = (ba p).add (j * 5 + 1) by rw [Addr.add_add'])) (e_fieldAddr (a := (ba p).add (j * 5)) rfl tg125)) ?_
  refine q_val (v := .pointer (some ((ba p).add (j * 5 + 1)))) rfl rfl rfl (ev_eq (congrArg (fun z => Value.pointer (some z)) (show ((ba p).add (j * 5 + 1) : Addr).add (0 * 1) = (ba p).add (j * 5 + 1) by rw [Addr.add_add'] <;> rfl)) (e_indexArr (a := (ba p).add (j * 5 + 1)) (k := 0) rfl rfl tg126 (by decide))) ?_
  refine q_val (v := Ix (cv.v0)) rfl rfl rfl (e_load1 tf2 rfl (k_flPart 0 (F := CompF) (o := 1) (us := [Ix (cv.v0)]) rfl hj rfl)) ?_
  refine q_val (v := Ix (min (cp.v0) (cv.v0))) rfl rfl rfl (e_min (a := (cp.v0)) (b := (cv.v0)) rfl rfl) ?_
  refine q_val rfl rfl rfl (e_lss (a := (min (cp.v0) (cv.v0))) (b := (-1099511627776 : Int)) rfl rfl) ?_
  refine q_val (v := .bool (decide ((min (cp.v0) (cv.v0)) < (-1099511627776 : Int)))) rfl rfl rfl e_move ?_
  refine q_split (s := 24) (p := (min (cp.v0) (cv.v0)) < (-1099511627776 : Int)) rfl (fun h => ?_) (fun h => ?_)
  rotate_left; exact absurd hL0 h
  refine q_skip rfl rfl rfl rfl rfl rfl ?_
  refine q_skip rfl rfl rfl rfl rfl rfl ?_
  refine q_skip rfl rfl rfl rfl rfl rfl ?_
  refine q_skip rfl rfl rfl rfl rfl rfl ?_
  refine q_skip rfl rfl rfl rfl rfl rfl ?_
  refine q_skip rfl rfl rfl rfl rfl rfl ?_
  refine q_skip rfl rfl rfl rfl rfl rfl ?_
  refine q_skip rfl rfl rfl rfl rfl rfl ?_
  refine q_skip rfl rfl rfl rfl rfl rfl ?_
  refine q_skip rfl rfl rfl rfl rfl rfl ?_
  refine q_skip rfl rfl rfl rfl rfl rfl ?_
  refine q_skip rfl rfl rfl rfl rfl rfl ?_
  refine q_skip rfl rfl rfl rfl rfl rfl ?_
  refine q_skip rfl rfl rfl rfl rfl rfl ?_
  refine q_val (v := .bool true) rfl rfl rfl (e_pick_t rfl) ?_
  refine q_nil ?_
  refine f_then ?_
  refine c_yes rfl ?_
  refine c_ret ?_
  refine f_block_ret ?_
  refine f_then_ret ?_
  refine f_then_ret ?_
  refine f_block_ret ?_
  refine f_then_ret ?_
  refine ret0 Tryd.results95 ?_
  intro w hw
  exact ⟨rfl, by rw [fly_no hi hj (fun h => by have a := h.1.1; have b := h.1.2; have c := h.2.1; have d := h.2.2; omega)]; exact st_mask [true] rfl hw⟩
 rcases Decidable.em (1099511627776 < max cp.v0 cv.v0) with hG0 | hG0
 ·refine c_quiet (by kernel_rfl) (by kernel_rfl) ?_
  refine q_val (v := .pointer (some ((ba p).add (i * 5)))) rfl rfl rfl e_move ?_
  refine q_val (v := .int .i64 (0)) rfl rfl rfl e_move ?_
  refine q_val (v := .pointer (some ((ba p).add (i * 5)))) rfl rfl rfl (e_nil (a := (ba p).add (i * 5)) rfl) ?_
  refine q_val (v := .pointer (some ((ba p).add (i * 5 + 1)))) rfl rfl rfl (ev_eq (congrArg (fun z => Value.pointer (some z)) (show ((ba p).add (i * 5) : Addr).add 1 = (ba p).add (i * 5 + 1) by rw [Addr.add_add'])) (e_fieldAddr (a := (ba p).add (i * 5)) rfl tg125)) ?_
  refine q_val (v := .pointer (some ((ba p).add (i * 5 + 1)))) rfl rfl rfl (ev_eq (congrArg (fun z => Value.pointer (some z)) (show ((ba p).add (i * 5 + 1) : Addr).add (0 * 1) = (ba p).add (i * 5 + 1) by rw [Addr.add_add'] <;> rfl)) (e_indexArr (a := (ba p).add (i * 5 + 1)) (k := 0) rfl rfl tg126 (by decide))) ?_
  refine q_val (v := Ix (cp.v0)) rfl rfl rfl (e_load1 tf2 rfl (k_flPart 0 (F := CompF) (o := 1) (us := [Ix (cp.v0)]) rfl hi rfl)) ?_
  refine q_val (v := .pointer (some ((ba p).add (j * 5)))) rfl rfl rfl e_move ?_
  refine q_val (v := .int .i64 (0)) rfl rfl rfl e_move ?_
  refine q_val (v := .pointer (some ((ba p).add (j * 5)))) rfl rfl rfl (e_nil (a := (ba p).add (j * 5)) rfl) ?_
  refine q_val (v := .pointer (some ((ba p).add (j * 5 + 1)))) rfl rfl rfl (ev_eq (congrArg (fun z => Value.pointer (some z)) (show ((ba p).add (j * 5) : Addr).add 1 = (ba p).add (j * 5 + 1) by rw [Addr.add_add'])) (e_fieldAddr (a := (ba p).add (j * 5)) rfl tg125)) ?_
  refine q_val (v := .pointer (some ((ba p).add (j * 5 + 1)))) rfl rfl rfl (ev_eq (congrArg (fun z => Value.pointer (some z)) (show ((ba p).add (j * 5 + 1) : Addr).add (0 * 1) = (ba p).add (j * 5 + 1) by rw [Addr.add_add'] <;> rfl)) (e_indexArr (a := (ba p).add (j * 5 + 1)) (k := 0) rfl rfl tg126 (by decide))) ?_
  refine q_val (v := Ix (cv.v0)) rfl rfl rfl (e_load1 tf2 rfl (k_flPart 0 (F := CompF) (o := 1) (us := [Ix (cv.v0)]) rfl hj rfl)) ?_
  refine q_val (v := Ix (min (cp.v0) (cv.v0))) rfl rfl rfl (e_min (a := (cp.v0)) (b := (cv.v0)) rfl rfl) ?_
  refine q_val rfl rfl rfl (e_lss (a := (min (cp.v0) (cv.v0))) (b := (-1099511627776 : Int)) rfl rfl) ?_
  refine q_val (v := .bool (decide ((min (cp.v0) (cv.v0)) < (-1099511627776 : Int)))) rfl rfl rfl e_move ?_
  refine q_split (s := 24) (p := (min (cp.v0) (cv.v0)) < (-1099511627776 : Int)) rfl (fun h => ?_) (fun h => ?_)
  exact absurd h hL0
  refine qg_val (v := .pointer (some ((ba p).add (i * 5)))) rfl rfl rfl rfl rfl e_move ?_
  refine qg_val (v := .int .i64 (0)) rfl rfl rfl rfl rfl e_move ?_
  refine qg_val (v := .pointer (some ((ba p).add (i * 5)))) rfl rfl rfl rfl rfl (e_nil (a := (ba p).add (i * 5)) rfl) ?_
  refine qg_val (v := .pointer (some ((ba p).add (i * 5 + 1)))) rfl rfl rfl rfl rfl (ev_eq (congrArg (fun z => Value.pointer (some z)) (show ((ba p).add (i * 5) : Addr).add 1 = (ba p).add (i * 5 + 1) by rw [Addr.add_add'])) (e_fieldAddr (a := (ba p).add (i * 5)) rfl tg125)) ?_
  refine qg_val (v := .pointer (some ((ba p).add (i * 5 + 1)))) rfl rfl rfl rfl rfl (ev_eq (congrArg (fun z => Value.pointer (some z)) (show ((ba p).add (i * 5 + 1) : Addr).add (0 * 1) = (ba p).add (i * 5 + 1) by rw [Addr.add_add'] <;> rfl)) (e_indexArr (a := (ba p).add (i * 5 + 1)) (k := 0) rfl rfl tg126 (by decide))) ?_
  refine qg_val (v := Ix (cp.v0)) rfl rfl rfl rfl rfl (e_load1 tf2 rfl (k_flPart 0 (F := CompF) (o := 1) (us := [Ix (cp.v0)]) rfl hi rfl)) ?_
  refine qg_val (v := .pointer (some ((ba p).add (j * 5)))) rfl rfl rfl rfl rfl e_move ?_
  refine qg_val (v := .int .i64 (0)) rfl rfl rfl rfl rfl e_move ?_
  refine qg_val (v := .pointer (some ((ba p).add (j * 5)))) rfl rfl rfl rfl rfl (e_nil (a := (ba p).add (j * 5)) rfl) ?_
  refine qg_val (v := .pointer (some ((ba p).add (j * 5 + 1)))) rfl rfl rfl rfl rfl (ev_eq (congrArg (fun z => Value.pointer (some z)) (show ((ba p).add (j * 5) : Addr).add 1 = (ba p).add (j * 5 + 1) by rw [Addr.add_add'])) (e_fieldAddr (a := (ba p).add (j * 5)) rfl tg125)) ?_
  refine qg_val (v := .pointer (some ((ba p).add (j * 5 + 1)))) rfl rfl rfl rfl rfl (ev_eq (congrArg (fun z => Value.pointer (some z)) (show ((ba p).add (j * 5 + 1) : Addr).add (0 * 1) = (ba p).add (j * 5 + 1) by rw [Addr.add_add'] <;> rfl)) (e_indexArr (a := (ba p).add (j * 5 + 1)) (k := 0) rfl rfl tg126 (by decide))) ?_
  refine qg_val (v := Ix (cv.v0)) rfl rfl rfl rfl rfl (e_load1 tf2 rfl (k_flPart 0 (F := CompF) (o := 1) (us := [Ix (cv.v0)]) rfl hj rfl)) ?_
  refine qg_val (v := Ix (max (cp.v0) (cv.v0))) rfl rfl rfl rfl rfl (e_max (a := (cp.v0)) (b := (cv.v0)) rfl rfl) ?_
  refine qg_val rfl rfl rfl rfl rfl (e_gtr (a := (max (cp.v0) (cv.v0))) (b := (1099511627776 : Int)) rfl rfl) ?_
  refine q_val (v := .bool (decide ((1099511627776 : Int) < (max (cp.v0) (cv.v0))))) rfl rfl rfl (e_pick_f rfl) ?_
  refine q_nil ?_
  refine f_then ?_
  refine c_if ((1099511627776 : Int) < (max (cp.v0) (cv.v0))) rfl (fun hc1 => ?_) (fun hc1 => ?_)
  ·refine c_ret ?_
   refine f_block_ret ?_
   refine f_then_ret ?_
   refine f_then_ret ?_
   refine f_block_ret ?_
   refine f_then_ret ?_
   refine ret0 Tryd.results95 ?_
   intro w hw
   exact ⟨rfl, by rw [fly_no hi hj (fun h => by have a := h.1.1; have b := h.1.2; have c := h.2.1; have d := h.2.2; omega)]; exact st_mask [true] rfl hw⟩
  exact absurd hG0 hc1
 refine c_quiet (by kernel_rfl) (by kernel_rfl) ?_
 refine q_val (v := .pointer (some ((ba p).add (i * 5)))) rfl rfl rfl e_move ?_
 refine q_val (v := .int .i64 (0)) rfl rfl rfl e_move ?_
 refine q_val (v := .pointer (some ((ba p).add (i * 5)))) rfl rfl rfl (e_nil (a := (ba p).add (i * 5)) rfl) ?_
 refine q_val (v := .pointer (some ((ba p).add (i * 5 + 1)))) rfl rfl rfl (ev_eq (congrArg (fun z => Value.pointer (some z)) (show ((ba p).add (i * 5) : Addr).add 1 = (ba p).add (i * 5 + 1) by rw [Addr.add_add'])) (e_fieldAddr (a := (ba p).add (i * 5)) rfl tg125)) ?_
 refine q_val (v := .pointer (some ((ba p).add (i * 5 + 1)))) rfl rfl rfl (ev_eq (congrArg (fun z => Value.pointer (some z)) (show ((ba p).add (i * 5 + 1) : Addr).add (0 * 1) = (ba p).add (i * 5 + 1) by rw [Addr.add_add'] <;> rfl)) (e_indexArr (a := (ba p).add (i * 5 + 1)) (k := 0) rfl rfl tg126 (by decide))) ?_
 refine q_val (v := Ix (cp.v0)) rfl rfl rfl (e_load1 tf2 rfl (k_flPart 0 (F := CompF) (o := 1) (us := [Ix (cp.v0)]) rfl hi rfl)) ?_
 refine q_val (v := .pointer (some ((ba p).add (j * 5)))) rfl rfl rfl e_move ?_
 refine q_val (v := .int .i64 (0)) rfl rfl rfl e_move ?_
 refine q_val (v := .pointer (some ((ba p).add (j * 5)))) rfl rfl rfl (e_nil (a := (ba p).add (j * 5)) rfl) ?_
 refine q_val (v := .pointer (some ((ba p).add (j * 5 + 1)))) rfl rfl rfl (ev_eq (congrArg (fun z => Value.pointer (some z)) (show ((ba p).add (j * 5) : Addr).add 1 = (ba p).add (j * 5 + 1) by rw [Addr.add_add'])) (e_fieldAddr (a := (ba p).add (j * 5)) rfl tg125)) ?_
 refine q_val (v := .pointer (some ((ba p).add (j * 5 + 1)))) rfl rfl rfl (ev_eq (congrArg (fun z => Value.pointer (some z)) (show ((ba p).add (j * 5 + 1) : Addr).add (0 * 1) = (ba p).add (j * 5 + 1) by rw [Addr.add_add'] <;> rfl)) (e_indexArr (a := (ba p).add (j * 5 + 1)) (k := 0) rfl rfl tg126 (by decide))) ?_
 refine q_val (v := Ix (cv.v0)) rfl rfl rfl (e_load1 tf2 rfl (k_flPart 0 (F := CompF) (o := 1) (us := [Ix (cv.v0)]) rfl hj rfl)) ?_
 refine q_val (v := Ix (min (cp.v0) (cv.v0))) rfl rfl rfl (e_min (a := (cp.v0)) (b := (cv.v0)) rfl rfl) ?_
 refine q_val rfl rfl rfl (e_lss (a := (min (cp.v0) (cv.v0))) (b := (-1099511627776 : Int)) rfl rfl) ?_
 refine q_val (v := .bool (decide ((min (cp.v0) (cv.v0)) < (-1099511627776 : Int)))) rfl rfl rfl e_move ?_
 refine q_split (s := 24) (p := (min (cp.v0) (cv.v0)) < (-1099511627776 : Int)) rfl (fun h => ?_) (fun h => ?_)
 exact absurd h hL0
 refine qg_val (v := .pointer (some ((ba p).add (i * 5)))) rfl rfl rfl rfl rfl e_move ?_
 refine qg_val (v := .int .i64 (0)) rfl rfl rfl rfl rfl e_move ?_
 refine qg_val (v := .pointer (some ((ba p).add (i * 5)))) rfl rfl rfl rfl rfl (e_nil (a := (ba p).add (i * 5)) rfl) ?_
 refine qg_val (v := .pointer (some ((ba p).add (i * 5 + 1)))) rfl rfl rfl rfl rfl (ev_eq (congrArg (fun z => Value.pointer (some z)) (show ((ba p).add (i * 5) : Addr).add 1 = (ba p).add (i * 5 + 1) by rw [Addr.add_add'])) (e_fieldAddr (a := (ba p).add (i * 5)) rfl tg125)) ?_
 refine qg_val (v := .pointer (some ((ba p).add (i * 5 + 1)))) rfl rfl rfl rfl rfl (ev_eq (congrArg (fun z => Value.pointer (some z)) (show ((ba p).add (i * 5 + 1) : Addr).add (0 * 1) = (ba p).add (i * 5 + 1) by rw [Addr.add_add'] <;> rfl)) (e_indexArr (a := (ba p).add (i * 5 + 1)) (k := 0) rfl rfl tg126 (by decide))) ?_
 refine qg_val (v := Ix (cp.v0)) rfl rfl rfl rfl rfl (e_load1 tf2 rfl (k_flPart 0 (F := CompF) (o := 1) (us := [Ix (cp.v0)]) rfl hi rfl)) ?_
 refine qg_val (v := .pointer (some ((ba p).add (j * 5)))) rfl rfl rfl rfl rfl e_move ?_
 refine qg_val (v := .int .i64 (0)) rfl rfl rfl rfl rfl e_move ?_
 refine qg_val (v := .pointer (some ((ba p).add (j * 5)))) rfl rfl rfl rfl rfl (e_nil (a := (ba p).add (j * 5)) rfl) ?_
 refine qg_val (v := .pointer (some ((ba p).add (j * 5 + 1)))) rfl rfl rfl rfl rfl (ev_eq (congrArg (fun z => Value.pointer (some z)) (show ((ba p).add (j * 5) : Addr).add 1 = (ba p).add (j * 5 + 1) by rw [Addr.add_add'])) (e_fieldAddr (a := (ba p).add (j * 5)) rfl tg125)) ?_
 refine qg_val (v := .pointer (some ((ba p).add (j * 5 + 1)))) rfl rfl rfl rfl rfl (ev_eq (congrArg (fun z => Value.pointer (some z)) (show ((ba p).add (j * 5 + 1) : Addr).add (0 * 1) = (ba p).add (j * 5 + 1) by rw [Addr.add_add'] <;> rfl)) (e_indexArr (a := (ba p).add (j * 5 + 1)) (k := 0) rfl rfl tg126 (by decide))) ?_
 refine qg_val (v := Ix (cv.v0)) rfl rfl rfl rfl rfl (e_load1 tf2 rfl (k_flPart 0 (F := CompF) (o := 1) (us := [Ix (cv.v0)]) rfl hj rfl)) ?_
 refine qg_val (v := Ix (max (cp.v0) (cv.v0))) rfl rfl rfl rfl rfl (e_max (a := (cp.v0)) (b := (cv.v0)) rfl rfl) ?_
 refine qg_val rfl rfl rfl rfl rfl (e_gtr (a := (max (cp.v0) (cv.v0))) (b := (1099511627776 : Int)) rfl rfl) ?_
 refine q_val (v := .bool (decide ((1099511627776 : Int) < (max (cp.v0) (cv.v0))))) rfl rfl rfl (e_pick_f rfl) ?_
 refine q_nil ?_
 refine f_then ?_
 refine c_if ((1099511627776 : Int) < (max (cp.v0) (cv.v0))) rfl (fun hc2 => ?_) (fun hc2 => ?_)
 ·exact absurd hc2 hG0
 refine c_skip ?_
 refine f_block ?_
 refine f_then ?_
 refine c_region ?_
 refine lv (v := .int .i64 (1)) (e_add (a := (0 : Int)) (b := (1 : Int)) rfl rfl (by decide)) ?_
 refine lv (v := .int .i64 (1)) e_move ?_
 refine l_nil ?_
 refine f_cut ?_
 refine un_succ 1 ?_
 refine csr ?_
 refine lv (v := .bool true) (e_lss (a := (1 : Int)) (b := (2 : Int)) rfl rfl) ?_
 refine lnf ?_
 refine c_seq ?_
 refine c_yes rfl ?_
 refine csk ?_
 refine c_seq ?_
 refine c_block ?_
 refine csr ?_
 refine lv (v := .int .i64 (1)) e_move ?_
 refine lv (v := .int .i64 (1)) e_assign ?_
 refine lnf ?_
 refine c_seq ?_
 rcases Decidable.em (min cp.v1 cv.v1 < -1099511627776) with hL1 | hL1
 ·refine c_quiet (by kernel_rfl) (by kernel_rfl) ?_
  refine q_val (v := .pointer (some ((ba p).add (i * 5)))) rfl rfl rfl e_move ?_
  refine q_val (v := .int .i64 (1)) rfl rfl rfl e_move ?_
  refine q_val (v := .pointer (some ((ba p).add (i * 5)))) rfl rfl rfl (e_nil (a := (ba p).add (i * 5)) rfl) ?_
  refine q_val (v := .pointer (some ((ba p).add (i * 5 + 1)))) rfl rfl rfl (ev_eq (congrArg (fun z => Value.pointer (some z)) (show ((ba p).add (i * 5) : Addr).add 1 = (ba p).add (i * 5 + 1) by rw [Addr.add_add'])) (e_fieldAddr (a := (ba p).add (i * 5)) rfl tg125)) ?_
  refine q_val (v := .pointer (some ((ba p).add (i * 5 + 2)))) rfl rfl rfl (ev_eq (congrArg (fun z => Value.pointer (some z)) (show ((ba p).add (i * 5 + 1) : Addr).add (1 * 1) = (ba p).add (i * 5 + 2) by rw [Addr.add_add'] <;> rfl)) (e_indexArr (a := (ba p).add (i * 5 + 1)) (k := 1) rfl rfl tg126 (by decide))) ?_
  refine q_val (v := Ix (cp.v1)) rfl rfl rfl (e_load1 tf2 rfl (k_flPart 0 (F := CompF) (o := 2) (us := [Ix (cp.v1)]) rfl hi rfl)) ?_
  refine q_val (v := .pointer (some ((ba p).add (j * 5)))) rfl rfl rfl e_move ?_
  refine q_val (v := .int .i64 (1)) rfl rfl rfl e_move ?_
  refine q_val (v := .pointer (some ((ba p).add (j * 5)))) rfl rfl rfl (e_nil (a := (ba p).add (j * 5)) rfl) ?_
  refine q_val (v := .pointer (some ((ba p).add (j * 5 + 1)))) rfl rfl rfl (ev_eq (congrArg (fun z => Value.pointer (some z)) (show ((ba p).add (j * 5) : Addr).add 1 = (ba p).add (j * 5 + 1) by rw [Addr.add_add'])) (e_fieldAddr (a := (ba p).add (j * 5)) rfl tg125)) ?_
  refine q_val (v := .pointer (some ((ba p).add (j * 5 + 2)))) rfl rfl rfl (ev_eq (congrArg (fun z => Value.pointer (some z)) (show ((ba p).add (j * 5 + 1) : Addr).add (1 * 1) = (ba p).add (j * 5 + 2) by rw [Addr.add_add'] <;> rfl)) (e_indexArr (a := (ba p).add (j * 5 + 1)) (k := 1) rfl rfl tg126 (by decide))) ?_
  refine q_val (v := Ix (cv.v1)) rfl rfl rfl (e_load1 tf2 rfl (k_flPart 0 (F := CompF) (o := 2) (us := [Ix (cv.v1)]) rfl hj rfl)) ?_
  refine q_val (v := Ix (min (cp.v1) (cv.v1))) rfl rfl rfl (e_min (a := (cp.v1)) (b := (cv.v1)) rfl rfl) ?_
  refine q_val rfl rfl rfl (e_lss (a := (min (cp.v1) (cv.v1))) (b := (-1099511627776 : Int)) rfl rfl) ?_
  refine q_val (v := .bool (decide ((min (cp.v1) (cv.v1)) < (-1099511627776 : Int)))) rfl rfl rfl e_move ?_
  refine q_split (s := 24) (p := (min (cp.v1) (cv.v1)) < (-1099511627776 : Int)) rfl (fun h => ?_) (fun h => ?_)
  rotate_left; exact absurd hL1 h
  refine q_skip rfl rfl rfl rfl rfl rfl ?_
  refine q_skip rfl rfl rfl rfl rfl rfl ?_
  refine q_skip rfl rfl rfl rfl rfl rfl ?_
  refine q_skip rfl rfl rfl rfl rfl rfl ?_
  refine q_skip rfl rfl rfl rfl rfl rfl ?_
  refine q_skip rfl rfl rfl rfl rfl rfl ?_
  refine q_skip rfl rfl rfl rfl rfl rfl ?_
  refine q_skip rfl rfl rfl rfl rfl rfl ?_
  refine q_skip rfl rfl rfl rfl rfl rfl ?_
  refine q_skip rfl rfl rfl rfl rfl rfl ?_
  refine q_skip rfl rfl rfl rfl rfl rfl ?_
  refine q_skip rfl rfl rfl rfl rfl rfl ?_
  refine q_skip rfl rfl rfl rfl rfl rfl ?_
  refine q_skip rfl rfl rfl rfl rfl rfl ?_
  refine q_val (v := .bool true) rfl rfl rfl (e_pick_t rfl) ?_
  refine q_nil ?_
  refine f_then ?_
  refine c_yes rfl ?_
  refine c_ret ?_
  refine f_block_ret ?_
  refine f_then_ret ?_
  refine f_then_ret ?_
  refine f_block_ret ?_
  refine f_then_ret ?_
  refine ret0 Tryd.results95 ?_
  intro w hw
  exact ⟨rfl, by rw [fly_no hi hj (fun h => by have a := h.1.1; have b := h.1.2; have c := h.2.1; have d := h.2.2; omega)]; exact st_mask [true] rfl hw⟩
 rcases Decidable.em (1099511627776 < max cp.v1 cv.v1) with hG1 | hG1
 ·refine c_quiet (by kernel_rfl) (by kernel_rfl) ?_
  refine q_val (v := .pointer (some ((ba p).add (i * 5)))) rfl rfl rfl e_move ?_
  refine q_val (v := .int .i64 (1)) rfl rfl rfl e_move ?_
  refine q_val (v := .pointer (some ((ba p).add (i * 5)))) rfl rfl rfl (e_nil (a := (ba p).add (i * 5)) rfl) ?_
  refine q_val (v := .pointer (some ((ba p).add (i * 5 + 1)))) rfl rfl rfl (ev_eq (congrArg (fun z => Value.pointer (some z)) (show ((ba p).add (i * 5) : Addr).add 1 = (ba p).add (i * 5 + 1) by rw [Addr.add_add'])) (e_fieldAddr (a := (ba p).add (i * 5)) rfl tg125)) ?_
  refine q_val (v := .pointer (some ((ba p).add (i * 5 + 2)))) rfl rfl rfl (ev_eq (congrArg (fun z => Value.pointer (some z)) (show ((ba p).add (i * 5 + 1) : Addr).add (1 * 1) = (ba p).add (i * 5 + 2) by rw [Addr.add_add'] <;> rfl)) (e_indexArr (a := (ba p).add (i * 5 + 1)) (k := 1) rfl rfl tg126 (by decide))) ?_
  refine q_val (v := Ix (cp.v1)) rfl rfl rfl (e_load1 tf2 rfl (k_flPart 0 (F := CompF) (o := 2) (us := [Ix (cp.v1)]) rfl hi rfl)) ?_
  refine q_val (v := .pointer (some ((ba p).add (j * 5)))) rfl rfl rfl e_move ?_
  refine q_val (v := .int .i64 (1)) rfl rfl rfl e_move ?_
  refine q_val (v := .pointer (some ((ba p).add (j * 5)))) rfl rfl rfl (e_nil (a := (ba p).add (j * 5)) rfl) ?_
  refine q_val (v := .pointer (some ((ba p).add (j * 5 + 1)))) rfl rfl rfl (ev_eq (congrArg (fun z => Value.pointer (some z)) (show ((ba p).add (j * 5) : Addr).add 1 = (ba p).add (j * 5 + 1) by rw [Addr.add_add'])) (e_fieldAddr (a := (ba p).add (j * 5)) rfl tg125)) ?_
  refine q_val (v := .pointer (some ((ba p).add (j * 5 + 2)))) rfl rfl rfl (ev_eq (congrArg (fun z => Value.pointer (some z)) (show ((ba p).add (j * 5 + 1) : Addr).add (1 * 1) = (ba p).add (j * 5 + 2) by rw [Addr.add_add'] <;> rfl)) (e_indexArr (a := (ba p).add (j * 5 + 1)) (k := 1) rfl rfl tg126 (by decide))) ?_
  refine q_val (v := Ix (cv.v1)) rfl rfl rfl (e_load1 tf2 rfl (k_flPart 0 (F := CompF) (o := 2) (us := [Ix (cv.v1)]) rfl hj rfl)) ?_
  refine q_val (v := Ix (min (cp.v1) (cv.v1))) rfl rfl rfl (e_min (a := (cp.v1)) (b := (cv.v1)) rfl rfl) ?_
  refine q_val rfl rfl rfl (e_lss (a := (min (cp.v1) (cv.v1))) (b := (-1099511627776 : Int)) rfl rfl) ?_
  refine q_val (v := .bool (decide ((min (cp.v1) (cv.v1)) < (-1099511627776 : Int)))) rfl rfl rfl e_move ?_
  refine q_split (s := 24) (p := (min (cp.v1) (cv.v1)) < (-1099511627776 : Int)) rfl (fun h => ?_) (fun h => ?_)
  exact absurd h hL1
  refine qg_val (v := .pointer (some ((ba p).add (i * 5)))) rfl rfl rfl rfl rfl e_move ?_
  refine qg_val (v := .int .i64 (1)) rfl rfl rfl rfl rfl e_move ?_
  refine qg_val (v := .pointer (some ((ba p).add (i * 5)))) rfl rfl rfl rfl rfl (e_nil (a := (ba p).add (i * 5)) rfl) ?_
  refine qg_val (v := .pointer (some ((ba p).add (i * 5 + 1)))) rfl rfl rfl rfl rfl (ev_eq (congrArg (fun z => Value.pointer (some z)) (show ((ba p).add (i * 5) : Addr).add 1 = (ba p).add (i * 5 + 1) by rw [Addr.add_add'])) (e_fieldAddr (a := (ba p).add (i * 5)) rfl tg125)) ?_
  refine qg_val (v := .pointer (some ((ba p).add (i * 5 + 2)))) rfl rfl rfl rfl rfl (ev_eq (congrArg (fun z => Value.pointer (some z)) (show ((ba p).add (i * 5 + 1) : Addr).add (1 * 1) = (ba p).add (i * 5 + 2) by rw [Addr.add_add'] <;> rfl)) (e_indexArr (a := (ba p).add (i * 5 + 1)) (k := 1) rfl rfl tg126 (by decide))) ?_
  refine qg_val (v := Ix (cp.v1)) rfl rfl rfl rfl rfl (e_load1 tf2 rfl (k_flPart 0 (F := CompF) (o := 2) (us := [Ix (cp.v1)]) rfl hi rfl)) ?_
  refine qg_val (v := .pointer (some ((ba p).add (j * 5)))) rfl rfl rfl rfl rfl e_move ?_
  refine qg_val (v := .int .i64 (1)) rfl rfl rfl rfl rfl e_move ?_
  refine qg_val (v := .pointer (some ((ba p).add (j * 5)))) rfl rfl rfl rfl rfl (e_nil (a := (ba p).add (j * 5)) rfl) ?_
  refine qg_val (v := .pointer (some ((ba p).add (j * 5 + 1)))) rfl rfl rfl rfl rfl (ev_eq (congrArg (fun z => Value.pointer (some z)) (show ((ba p).add (j * 5) : Addr).add 1 = (ba p).add (j * 5 + 1) by rw [Addr.add_add'])) (e_fieldAddr (a := (ba p).add (j * 5)) rfl tg125)) ?_
  refine qg_val (v := .pointer (some ((ba p).add (j * 5 + 2)))) rfl rfl rfl rfl rfl (ev_eq (congrArg (fun z => Value.pointer (some z)) (show ((ba p).add (j * 5 + 1) : Addr).add (1 * 1) = (ba p).add (j * 5 + 2) by rw [Addr.add_add'] <;> rfl)) (e_indexArr (a := (ba p).add (j * 5 + 1)) (k := 1) rfl rfl tg126 (by decide))) ?_
  refine qg_val (v := Ix (cv.v1)) rfl rfl rfl rfl rfl (e_load1 tf2 rfl (k_flPart 0 (F := CompF) (o := 2) (us := [Ix (cv.v1)]) rfl hj rfl)) ?_
  refine qg_val (v := Ix (max (cp.v1) (cv.v1))) rfl rfl rfl rfl rfl (e_max (a := (cp.v1)) (b := (cv.v1)) rfl rfl) ?_
  refine qg_val rfl rfl rfl rfl rfl (e_gtr (a := (max (cp.v1) (cv.v1))) (b := (1099511627776 : Int)) rfl rfl) ?_
  refine q_val (v := .bool (decide ((1099511627776 : Int) < (max (cp.v1) (cv.v1))))) rfl rfl rfl (e_pick_f rfl) ?_
  refine q_nil ?_
  refine f_then ?_
  refine c_if ((1099511627776 : Int) < (max (cp.v1) (cv.v1))) rfl (fun hc3 => ?_) (fun hc3 => ?_)
  ·refine c_ret ?_
   refine f_block_ret ?_
   refine f_then_ret ?_
   refine f_then_ret ?_
   refine f_block_ret ?_
   refine f_then_ret ?_
   refine ret0 Tryd.results95 ?_
   intro w hw
   exact ⟨rfl, by rw [fly_no hi hj (fun h => by have a := h.1.1; have b := h.1.2; have c := h.2.1; have d := h.2.2; omega)]; exact st_mask [true] rfl hw⟩
  exact absurd hG1 hc3
 refine c_quiet (by kernel_rfl) (by kernel_rfl) ?_
 refine q_val (v := .pointer (some ((ba p).add (i * 5)))) rfl rfl rfl e_move ?_
 refine q_val (v := .int .i64 (1)) rfl rfl rfl e_move ?_
 refine q_val (v := .pointer (some ((ba p).add (i * 5)))) rfl rfl rfl (e_nil (a := (ba p).add (i * 5)) rfl) ?_
 refine q_val (v := .pointer (some ((ba p).add (i * 5 + 1)))) rfl rfl rfl (ev_eq (congrArg (fun z => Value.pointer (some z)) (show ((ba p).add (i * 5) : Addr).add 1 = (ba p).add (i * 5 + 1) by rw [Addr.add_add'])) (e_fieldAddr (a := (ba p).add (i * 5)) rfl tg125)) ?_
 refine q_val (v := .pointer (some ((ba p).add (i * 5 + 2)))) rfl rfl rfl (ev_eq (congrArg (fun z => Value.pointer (some z)) (show ((ba p).add (i * 5 + 1) : Addr).add (1 * 1) = (ba p).add (i * 5 + 2) by rw [Addr.add_add'] <;> rfl)) (e_indexArr (a := (ba p).add (i * 5 + 1)) (k := 1) rfl rfl tg126 (by decide))) ?_
 refine q_val (v := Ix (cp.v1)) rfl rfl rfl (e_load1 tf2 rfl (k_flPart 0 (F := CompF) (o := 2) (us := [Ix (cp.v1)]) rfl hi rfl)) ?_
 refine q_val (v := .pointer (some ((ba p).add (j * 5)))) rfl rfl rfl e_move ?_
 refine q_val (v := .int .i64 (1)) rfl rfl rfl e_move ?_
 refine q_val (v := .pointer (some ((ba p).add (j * 5)))) rfl rfl rfl (e_nil (a := (ba p).add (j * 5)) rfl) ?_
 refine q_val (v := .pointer (some ((ba p).add (j * 5 + 1)))) rfl rfl rfl (ev_eq (congrArg (fun z => Value.pointer (some z)) (show ((ba p).add (j * 5) : Addr).add 1 = (ba p).add (j * 5 + 1) by rw [Addr.add_add'])) (e_fieldAddr (a := (ba p).add (j * 5)) rfl tg125)) ?_
 refine q_val (v := .pointer (some ((ba p).add (j * 5 + 2)))) rfl rfl rfl (ev_eq (congrArg (fun z => Value.pointer (some z)) (show ((ba p).add (j * 5 + 1) : Addr).add (1 * 1) = (ba p).add (j * 5 + 2) by rw [Addr.add_add'] <;> rfl)) (e_indexArr (a := (ba p).add (j * 5 + 1)) (k := 1) rfl rfl tg126 (by decide))) ?_
 refine q_val (v := Ix (cv.v1)) rfl rfl rfl (e_load1 tf2 rfl (k_flPart 0 (F := CompF) (o := 2) (us := [Ix (cv.v1)]) rfl hj rfl)) ?_
 refine q_val (v := Ix (min (cp.v1) (cv.v1))) rfl rfl rfl (e_min (a := (cp.v1)) (b := (cv.v1)) rfl rfl) ?_
 refine q_val rfl rfl rfl (e_lss (a := (min (cp.v1) (cv.v1))) (b := (-1099511627776 : Int)) rfl rfl) ?_
 refine q_val (v := .bool (decide ((min (cp.v1) (cv.v1)) < (-1099511627776 : Int)))) rfl rfl rfl e_move ?_
 refine q_split (s := 24) (p := (min (cp.v1) (cv.v1)) < (-1099511627776 : Int)) rfl (fun h => ?_) (fun h => ?_)
 exact absurd h hL1
 refine qg_val (v := .pointer (some ((ba p).add (i * 5)))) rfl rfl rfl rfl rfl e_move ?_
 refine qg_val (v := .int .i64 (1)) rfl rfl rfl rfl rfl e_move ?_
 refine qg_val (v := .pointer (some ((ba p).add (i * 5)))) rfl rfl rfl rfl rfl (e_nil (a := (ba p).add (i * 5)) rfl) ?_
 refine qg_val (v := .pointer (some ((ba p).add (i * 5 + 1)))) rfl rfl rfl rfl rfl (ev_eq (congrArg (fun z => Value.pointer (some z)) (show ((ba p).add (i * 5) : Addr).add 1 = (ba p).add (i * 5 + 1) by rw [Addr.add_add'])) (e_fieldAddr (a := (ba p).add (i * 5)) rfl tg125)) ?_
 refine qg_val (v := .pointer (some ((ba p).add (i * 5 + 2)))) rfl rfl rfl rfl rfl (ev_eq (congrArg (fun z => Value.pointer (some z)) (show ((ba p).add (i * 5 + 1) : Addr).add (1 * 1) = (ba p).add (i * 5 + 2) by rw [Addr.add_add'] <;> rfl)) (e_indexArr (a := (ba p).add (i * 5 + 1)) (k := 1) rfl rfl tg126 (by decide))) ?_
 refine qg_val (v := Ix (cp.v1)) rfl rfl rfl rfl rfl (e_load1 tf2 rfl (k_flPart 0 (F := CompF) (o := 2) (us := [Ix (cp.v1)]) rfl hi rfl)) ?_
 refine qg_val (v := .pointer (some ((ba p).add (j * 5)))) rfl rfl rfl rfl rfl e_move ?_
 refine qg_val (v := .int .i64 (1)) rfl rfl rfl rfl rfl e_move ?_
 refine qg_val (v := .pointer (some ((ba p).add (j * 5)))) rfl rfl rfl rfl rfl (e_nil (a := (ba p).add (j * 5)) rfl) ?_
 refine qg_val (v := .pointer (some ((ba p).add (j * 5 + 1)))) rfl rfl rfl rfl rfl (ev_eq (congrArg (fun z => Value.pointer (some z)) (show ((ba p).add (j * 5) : Addr).add 1 = (ba p).add (j * 5 + 1) by rw [Addr.add_add'])) (e_fieldAddr (a := (ba p).add (j * 5)) rfl tg125)) ?_
 refine qg_val (v := .pointer (some ((ba p).add (j * 5 + 2)))) rfl rfl rfl rfl rfl (ev_eq (congrArg (fun z => Value.pointer (some z)) (show ((ba p).add (j * 5 + 1) : Addr).add (1 * 1) = (ba p).add (j * 5 + 2) by rw [Addr.add_add'] <;> rfl)) (e_indexArr (a := (ba p).add (j * 5 + 1)) (k := 1) rfl rfl tg126 (by decide))) ?_
 refine qg_val (v := Ix (cv.v1)) rfl rfl rfl rfl rfl (e_load1 tf2 rfl (k_flPart 0 (F := CompF) (o := 2) (us := [Ix (cv.v1)]) rfl hj rfl)) ?_
 refine qg_val (v := Ix (max (cp.v1) (cv.v1))) rfl rfl rfl rfl rfl (e_max (a := (cp.v1)) (b := (cv.v1)) rfl rfl) ?_
 refine qg_val rfl rfl rfl rfl rfl (e_gtr (a := (max (cp.v1) (cv.v1))) (b := (1099511627776 : Int)) rfl rfl) ?_
 refine q_val (v := .bool (decide ((1099511627776 : Int) < (max (cp.v1) (cv.v1))))) rfl rfl rfl (e_pick_f rfl) ?_
 refine q_nil ?_
 refine f_then ?_
 refine c_if ((1099511627776 : Int) < (max (cp.v1) (cv.v1))) rfl (fun hc4 => ?_) (fun hc4 => ?_)
 ·exact absurd hc4 hG1
 refine c_skip ?_
 refine f_block ?_
 refine f_then ?_
 refine c_region ?_
 refine lv (v := .int .i64 (2)) (e_add (a := (1 : Int)) (b := (1 : Int)) rfl rfl (by decide)) ?_
 refine lv (v := .int .i64 (2)) e_move ?_
 refine l_nil ?_
 refine f_cut ?_
 refine un_succ 0 ?_
 refine csr ?_
 refine lv (v := .bool false) (e_lss (a := (2 : Int)) (b := (2 : Int)) rfl rfl) ?_
 refine lnf ?_
 refine c_seq ?_
 refine c_no rfl ?_
 refine c_exit ?_
 refine f_then_exit ?_
 refine f_then_exit ?_
 refine f_exit ?_
 refine ftc ?_
 refine lv (v := .int .i64 (0)) e_move ?_
 refine lnf ?_
 refine c_block ?_
 refine c_unroll 3 ?_
 refine un_succ 2 ?_
 refine csr ?_
 refine lv (v := .bool true) (e_lss (a := (0 : Int)) (b := (2 : Int)) rfl rfl) ?_
 refine lnf ?_
 refine c_seq ?_
 refine c_yes rfl ?_
 refine csk ?_
 refine c_seq ?_
 refine c_block ?_
 refine csr ?_
 refine lv (v := .int .i64 (0)) e_move ?_
 refine lv (v := .int .i64 (0)) e_assign ?_
 refine lnf ?_
 refine c_seq ?_
 refine c_quiet (by kernel_rfl) (by kernel_rfl) ?_
 refine q_val (v := .pointer (some ((ba p).add (i * 5)))) rfl rfl rfl e_move ?_
 refine q_val (v := .int .i64 (0)) rfl rfl rfl e_move ?_
 refine q_val (v := .pointer (some ((ba p).add (i * 5)))) rfl rfl rfl (e_nil (a := (ba p).add (i * 5)) rfl) ?_
 refine q_val (v := .pointer (some ((ba p).add (i * 5 + 1)))) rfl rfl rfl (ev_eq (congrArg (fun z => Value.pointer (some z)) (show ((ba p).add (i * 5) : Addr).add 1 = (ba p).add (i * 5 + 1) by rw [Addr.add_add'])) (e_fieldAddr (a := (ba p).add (i * 5)) rfl tg125)) ?_
 refine q_val (v := .pointer (some ((ba p).add (i * 5 + 1)))) rfl rfl rfl (ev_eq (congrArg (fun z => Value.pointer (some z)) (show ((ba p).add (i * 5 + 1) : Addr).add (0 * 1) = (ba p).add (i * 5 + 1) by rw [Addr.add_add'] <;> rfl)) (e_indexArr (a := (ba p).add (i * 5 + 1)) (k := 0) rfl rfl tg126 (by decide))) ?_
 refine q_val (v := Ix (cp.v0)) rfl rfl rfl (e_load1 tf2 rfl (k_flPart 0 (F := CompF) (o := 1) (us := [Ix (cp.v0)]) rfl hi rfl)) ?_
 refine q_val (v := .pointer (some ((ba p).add (j * 5)))) rfl rfl rfl e_move ?_
 refine q_val (v := .int .i64 (0)) rfl rfl rfl e_move ?_
 refine q_val (v := .pointer (some ((ba p).add (j * 5)))) rfl rfl rfl (e_nil (a := (ba p).add (j * 5)) rfl) ?_
 refine q_val (v := .pointer (some ((ba p).add (j * 5 + 1)))) rfl rfl rfl (ev_eq (congrArg (fun z => Value.pointer (some z)) (show ((ba p).add (j * 5) : Addr).add 1 = (ba p).add (j * 5 + 1) by rw [Addr.add_add'])) (e_fieldAddr (a := (ba p).add (j * 5)) rfl tg125)) ?_
 refine q_val (v := .pointer (some ((ba p).add (j * 5 + 1)))) rfl rfl rfl (ev_eq (congrArg (fun z => Value.pointer (some z)) (show ((ba p).add (j * 5 + 1) : Addr).add (0 * 1) = (ba p).add (j * 5 + 1) by rw [Addr.add_add'] <;> rfl)) (e_indexArr (a := (ba p).add (j * 5 + 1)) (k := 0) rfl rfl tg126 (by decide))) ?_
 refine q_val (v := Ix (cv.v0)) rfl rfl rfl (e_load1 tf2 rfl (k_flPart 0 (F := CompF) (o := 1) (us := [Ix (cv.v0)]) rfl hj rfl)) ?_
 refine q_val (v := Ix ((cp.v0) + (cv.v0))) rfl rfl rfl (e_add (a := (cp.v0)) (b := (cv.v0)) rfl rfl (i64w (by omega))) ?_
 refine q_val (v := Ix ((cp.v0) + (cv.v0))) rfl rfl rfl e_assign ?_
 refine q_nil ?_
 refine ftc ?_
 refine lv (v := .pointer (some ((ba p).add (i * 5)))) e_move ?_
 refine lv (v := .int .i64 (0)) e_move ?_
 refine lv (v := Ix ((cp.v0) + (cv.v0))) e_move ?_
 refine lv (v := Ix (min ((cp.v0) + (cv.v0)) (1048576 : Int))) (e_min (a := ((cp.v0) + (cv.v0))) (b := (1048576 : Int)) rfl rfl) ?_
 refine lv (v := Ix (max (min ((cp.v0) + (cv.v0)) (1048576 : Int)) (-1048576 : Int))) (e_max (a := (min ((cp.v0) + (cv.v0)) (1048576 : Int))) (b := (-1048576 : Int)) rfl rfl) ?_
 refine lv (v := .pointer (some ((ba p).add (i * 5)))) (e_nil (a := (ba p).add (i * 5)) rfl) ?_
 refine lv (v := .pointer (some ((ba p).add (i * 5 + 1)))) (ev_eq (congrArg (fun z => Value.pointer (some z)) (show ((ba p).add (i * 5) : Addr).add 1 = (ba p).add (i * 5 + 1) by rw [Addr.add_add'])) (e_fieldAddr (a := (ba p).add (i * 5)) rfl tg125)) ?_
 refine lv (v := .pointer (some ((ba p).add (i * 5 + 1)))) (ev_eq (congrArg (fun z => Value.pointer (some z)) (show ((ba p).add (i * 5 + 1) : Addr).add (0 * 1) = (ba p).add (i * 5 + 1) by rw [Addr.add_add'] <;> rfl)) (e_indexArr (a := (ba p).add (i * 5 + 1)) (k := 0) rfl rfl tg126 (by decide))) ?_
 refine lu (m_storeFlPart 0 (F := CompF) (p := p) (k := i) (o := 1) (xs := cs) (z0 := cp) (z := (setV0 cp (max (min ((cp.v0) + (cv.v0)) (1048576 : Int)) (-1048576 : Int)))) tf2 rfl rfl rfl rfl rfl hi (by decide) rfl) ?_
 refine lnc ?_
 refine lv (v := .pointer (some ((ba p).add (i * 5)))) e_move ?_
 refine lv (v := .int .i64 (0)) e_move ?_
 refine lv (v := .pointer (some ((ba p).add (i * 5)))) (e_nil (a := (ba p).add (i * 5)) rfl) ?_
 refine lv (v := .pointer (some ((ba p).add (i * 5 + 1)))) (ev_eq (congrArg (fun z => Value.pointer (some z)) (show ((ba p).add (i * 5) : Addr).add 1 = (ba p).add (i * 5 + 1) by rw [Addr.add_add'])) (e_fieldAddr (a := (ba p).add (i * 5)) rfl tg125)) ?_
 refine lv (v := .pointer (some ((ba p).add (i * 5 + 1)))) (ev_eq (congrArg (fun z => Value.pointer (some z)) (show ((ba p).add (i * 5 + 1) : Addr).add (0 * 1) = (ba p).add (i * 5 + 1) by rw [Addr.add_add'] <;> rfl)) (e_indexArr (a := (ba p).add (i * 5 + 1)) (k := 0) rfl rfl tg126 (by decide))) ?_
 refine lv (v := Ix (max (min ((cp.v0) + (cv.v0)) (1048576 : Int)) (-1048576 : Int))) (e_load1 tf2 rfl (k_flPart 0 (F := CompF) (o := 1) (us := [Ix (max (min ((cp.v0) + (cv.v0)) (1048576 : Int)) (-1048576 : Int))]) rfl (get_set (setV0 cp (max (min ((cp.v0) + (cv.v0)) (1048576 : Int)) (-1048576 : Int))) (by first | omega | (simp only [List.length_set]; omega))) rfl)) ?_
 refine lv (v := Ix ((cp.v0) + (cv.v0))) e_move ?_
 refine lv (e_neq (a := (max (min ((cp.v0) + (cv.v0)) (1048576 : Int)) (-1048576 : Int))) (b := ((cp.v0) + (cv.v0))) rfl rfl) ?_
 refine lnf ?_
 refine c_if ((max (min ((cp.v0) + (cv.v0)) (1048576 : Int)) (-1048576 : Int)) ≠ ((cp.v0) + (cv.v0))) rfl (fun hc5 => ?_) (fun hc5 => ?_)
 ·refine c_region ?_
  refine lv (v := .pointer (some ((ba p).add (j * 5)))) e_move ?_
  refine lv (v := .int .i64 (0)) e_move ?_
  refine lv (v := .pointer (some ((ba p).add (j * 5)))) (e_nil (a := (ba p).add (j * 5)) rfl) ?_
  refine lv (v := .pointer (some ((ba p).add (j * 5 + 1)))) (ev_eq (congrArg (fun z => Value.pointer (some z)) (show ((ba p).add (j * 5) : Addr).add 1 = (ba p).add (j * 5 + 1) by rw [Addr.add_add'])) (e_fieldAddr (a := (ba p).add (j * 5)) rfl tg125)) ?_
  refine lv (v := .pointer (some ((ba p).add (j * 5 + 1)))) (ev_eq (congrArg (fun z => Value.pointer (some z)) (show ((ba p).add (j * 5 + 1) : Addr).add (0 * 1) = (ba p).add (j * 5 + 1) by rw [Addr.add_add'] <;> rfl)) (e_indexArr (a := (ba p).add (j * 5 + 1)) (k := 0) rfl rfl tg126 (by decide))) ?_
  refine lu (m_storeFlPart 0 (F := CompF) (p := p) (k := j) (o := 1) (xs := (cs.set i (setV0 cp (max (min ((cp.v0) + (cv.v0)) (1048576 : Int)) (-1048576 : Int))))) (z0 := cv) (z := (setV0 cv 0)) tf2 rfl rfl rfl rfl rfl (set_ne (by first | assumption | (apply Ne.symm; assumption)) hj) (by decide) rfl) ?_
  refine l_nil ?_
  refine f_block ?_
  refine f_then ?_
  refine c_region ?_
  refine lv (v := .int .i64 (1)) (e_add (a := (0 : Int)) (b := (1 : Int)) rfl rfl (by decide)) ?_
  refine lv (v := .int .i64 (1)) e_move ?_
  refine l_nil ?_
  refine f_cut ?_
  refine un_succ 1 ?_
  refine csr ?_
  refine lv (v := .bool true) (e_lss (a := (1 : Int)) (b := (2 : Int)) rfl rfl) ?_
  refine lnf ?_
  refine c_seq ?_
  refine c_yes rfl ?_
  refine csk ?_
  refine c_seq ?_
  refine c_block ?_
  refine csr ?_
  refine lv (v := .int .i64 (1)) e_move ?_
  refine lv (v := .int .i64 (1)) e_assign ?_
  refine lnf ?_
  refine c_seq ?_
  refine c_quiet (by kernel_rfl) (by kernel_rfl) ?_
  refine q_val (v := .pointer (some ((ba p).add (i * 5)))) rfl rfl rfl e_move ?_
  refine q_val (v := .int .i64 (1)) rfl rfl rfl e_move ?_
  refine q_val (v := .pointer (some ((ba p).add (i * 5)))) rfl rfl rfl (e_nil (a := (ba p).add (i * 5)) rfl) ?_
  refine q_val (v := .pointer (some ((ba p).add (i * 5 + 1)))) rfl rfl rfl (ev_eq (congrArg (fun z => Value.pointer (some z)) (show ((ba p).add (i * 5) : Addr).add 1 = (ba p).add (i * 5 + 1) by rw [Addr.add_add'])) (e_fieldAddr (a := (ba p).add (i * 5)) rfl tg125)) ?_
  refine q_val (v := .pointer (some ((ba p).add (i * 5 + 2)))) rfl rfl rfl (ev_eq (congrArg (fun z => Value.pointer (some z)) (show ((ba p).add (i * 5 + 1) : Addr).add (1 * 1) = (ba p).add (i * 5 + 2) by rw [Addr.add_add'] <;> rfl)) (e_indexArr (a := (ba p).add (i * 5 + 1)) (k := 1) rfl rfl tg126 (by decide))) ?_
  refine q_val (v := Ix (cp.v1)) rfl rfl rfl (e_load1 tf2 rfl (k_flPart 0 (F := CompF) (o := 2) (us := [Ix (cp.v1)]) rfl (set_ne (by first | assumption | (apply Ne.symm; assumption)) (get_set (setV0 cp (max (min ((cp.v0) + (cv.v0)) (1048576 : Int)) (-1048576 : Int))) (by first | omega | (simp only [List.length_set]; omega)))) rfl)) ?_
  refine q_val (v := .pointer (some ((ba p).add (j * 5)))) rfl rfl rfl e_move ?_
  refine q_val (v := .int .i64 (1)) rfl rfl rfl e_move ?_
  refine q_val (v := .pointer (some ((ba p).add (j * 5)))) rfl rfl rfl (e_nil (a := (ba p).add (j * 5)) rfl) ?_
  refine q_val (v := .pointer (some ((ba p).add (j * 5 + 1)))) rfl rfl rfl (ev_eq (congrArg (fun z => Value.pointer (some z)) (show ((ba p).add (j * 5) : Addr).add 1 = (ba p).add (j * 5 + 1) by rw [Addr.add_add'])) (e_fieldAddr (a := (ba p).add (j * 5)) rfl tg125)) ?_
  refine q_val (v := .pointer (some ((ba p).add (j * 5 + 2)))) rfl rfl rfl (ev_eq (congrArg (fun z => Value.pointer (some z)) (show ((ba p).add (j * 5 + 1) : Addr).add (1 * 1) = (ba p).add (j * 5 + 2) by rw [Addr.add_add'] <;> rfl)) (e_indexArr (a := (ba p).add (j * 5 + 1)) (k := 1) rfl rfl tg126 (by decide))) ?_
  refine q_val (v := Ix (cv.v1)) rfl rfl rfl (e_load1 tf2 rfl (k_flPart 0 (F := CompF) (o := 2) (us := [Ix (cv.v1)]) rfl (get_set (setV0 cv 0) (by first | omega | (simp only [List.length_set]; omega))) rfl)) ?_
  refine q_val (v := Ix ((cp.v1) + (cv.v1))) rfl rfl rfl (e_add (a := (cp.v1)) (b := (cv.v1)) rfl rfl (i64w (by omega))) ?_
  refine q_val (v := Ix ((cp.v1) + (cv.v1))) rfl rfl rfl e_assign ?_
  refine q_nil ?_
  refine ftc ?_
  refine lv (v := .pointer (some ((ba p).add (i * 5)))) e_move ?_
  refine lv (v := .int .i64 (1)) e_move ?_
  refine lv (v := Ix ((cp.v1) + (cv.v1))) e_move ?_
  refine lv (v := Ix (min ((cp.v1) + (cv.v1)) (1048576 : Int))) (e_min (a := ((cp.v1) + (cv.v1))) (b := (1048576 : Int)) rfl rfl) ?_
  refine lv (v := Ix (max (min ((cp.v1) + (cv.v1)) (1048576 : Int)) (-1048576 : Int))) (e_max (a := (min ((cp.v1) + (cv.v1)) (1048576 : Int))) (b := (-1048576 : Int)) rfl rfl) ?_
  refine lv (v := .pointer (some ((ba p).add (i * 5)))) (e_nil (a := (ba p).add (i * 5)) rfl) ?_
  refine lv (v := .pointer (some ((ba p).add (i * 5 + 1)))) (ev_eq (congrArg (fun z => Value.pointer (some z)) (show ((ba p).add (i * 5) : Addr).add 1 = (ba p).add (i * 5 + 1) by rw [Addr.add_add'])) (e_fieldAddr (a := (ba p).add (i * 5)) rfl tg125)) ?_
  refine lv (v := .pointer (some ((ba p).add (i * 5 + 2)))) (ev_eq (congrArg (fun z => Value.pointer (some z)) (show ((ba p).add (i * 5 + 1) : Addr).add (1 * 1) = (ba p).add (i * 5 + 2) by rw [Addr.add_add'] <;> rfl)) (e_indexArr (a := (ba p).add (i * 5 + 1)) (k := 1) rfl rfl tg126 (by decide))) ?_
  refine lu (m_storeFlPart 0 (F := CompF) (p := p) (k := i) (o := 2) (xs := ((cs.set i (setV0 cp (max (min ((cp.v0) + (cv.v0)) (1048576 : Int)) (-1048576 : Int)))).set j (setV0 cv 0))) (z0 := (setV0 cp (max (min ((cp.v0) + (cv.v0)) (1048576 : Int)) (-1048576 : Int)))) (z := (setV1 (setV0 cp (max (min ((cp.v0) + (cv.v0)) (1048576 : Int)) (-1048576 : Int))) (max (min ((cp.v1) + (cv.v1)) (1048576 : Int)) (-1048576 : Int)))) tf2 rfl rfl rfl rfl rfl (set_ne (by first | assumption | (apply Ne.symm; assumption)) (get_set (setV0 cp (max (min ((cp.v0) + (cv.v0)) (1048576 : Int)) (-1048576 : Int))) (by first | omega | (simp only [List.length_set]; omega)))) (by decide) rfl) ?_
  refine lnc ?_
  refine lv (v := .pointer (some ((ba p).add (i * 5)))) e_move ?_
  refine lv (v := .int .i64 (1)) e_move ?_
  refine lv (v := .pointer (some ((ba p).add (i * 5)))) (e_nil (a := (ba p).add (i * 5)) rfl) ?_
  refine lv (v := .pointer (some ((ba p).add (i * 5 + 1)))) (ev_eq (congrArg (fun z => Value.pointer (some z)) (show ((ba p).add (i * 5) : Addr).add 1 = (ba p).add (i * 5 + 1) by rw [Addr.add_add'])) (e_fieldAddr (a := (ba p).add (i * 5)) rfl tg125)) ?_
  refine lv (v := .pointer (some ((ba p).add (i * 5 + 2)))) (ev_eq (congrArg (fun z => Value.pointer (some z)) (show ((ba p).add (i * 5 + 1) : Addr).add (1 * 1) = (ba p).add (i * 5 + 2) by rw [Addr.add_add'] <;> rfl)) (e_indexArr (a := (ba p).add (i * 5 + 1)) (k := 1) rfl rfl tg126 (by decide))) ?_
  refine lv (v := Ix (max (min ((cp.v1) + (cv.v1)) (1048576 : Int)) (-1048576 : Int))) (e_load1 tf2 rfl (k_flPart 0 (F := CompF) (o := 2) (us := [Ix (max (min ((cp.v1) + (cv.v1)) (1048576 : Int)) (-1048576 : Int))]) rfl (get_set (setV1 (setV0 cp (max (min ((cp.v0) + (cv.v0)) (1048576 : Int)) (-1048576 : Int))) (max (min ((cp.v1) + (cv.v1)) (1048576 : Int)) (-1048576 : Int))) (by first | omega | (simp only [List.length_set]; omega))) rfl)) ?_
  refine lv (v := Ix ((cp.v1) + (cv.v1))) e_move ?_
  refine lv (e_neq (a := (max (min ((cp.v1) + (cv.v1)) (1048576 : Int)) (-1048576 : Int))) (b := ((cp.v1) + (cv.v1))) rfl rfl) ?_
  refine lnf ?_
  refine c_if ((max (min ((cp.v1) + (cv.v1)) (1048576 : Int)) (-1048576 : Int)) ≠ ((cp.v1) + (cv.v1))) rfl (fun hc6 => ?_) (fun hc6 => ?_)
  ·refine c_region ?_
   refine lv (v := .pointer (some ((ba p).add (j * 5)))) e_move ?_
   refine lv (v := .int .i64 (1)) e_move ?_
   refine lv (v := .pointer (some ((ba p).add (j * 5)))) (e_nil (a := (ba p).add (j * 5)) rfl) ?_
   refine lv (v := .pointer (some ((ba p).add (j * 5 + 1)))) (ev_eq (congrArg (fun z => Value.pointer (some z)) (show ((ba p).add (j * 5) : Addr).add 1 = (ba p).add (j * 5 + 1) by rw [Addr.add_add'])) (e_fieldAddr (a := (ba p).add (j * 5)) rfl tg125)) ?_
   refine lv (v := .pointer (some ((ba p).add (j * 5 + 2)))) (ev_eq (congrArg (fun z => Value.pointer (some z)) (show ((ba p).add (j * 5 + 1) : Addr).add (1 * 1) = (ba p).add (j * 5 + 2) by rw [Addr.add_add'] <;> rfl)) (e_indexArr (a := (ba p).add (j * 5 + 1)) (k := 1) rfl rfl tg126 (by decide))) ?_
   refine lu (m_storeFlPart 0 (F := CompF) (p := p) (k := j) (o := 2) (xs := (((cs.set i (setV0 cp (max (min ((cp.v0) + (cv.v0)) (1048576 : Int)) (-1048576 : Int)))).set j (setV0 cv 0)).set i (setV1 (setV0 cp (max (min ((cp.v0) + (cv.v0)) (1048576 : Int)) (-1048576 : Int))) (max (min ((cp.v1) + (cv.v1)) (1048576 : Int)) (-1048576 : Int))))) (z0 := (setV0 cv 0)) (z := (setV1 (setV0 cv 0) 0)) tf2 rfl rfl rfl rfl rfl (set_ne (by first | assumption | (apply Ne.symm; assumption)) (get_set (setV0 cv 0) (by first | omega | (simp only [List.length_set]; omega)))) (by decide) rfl) ?_
   refine l_nil ?_
   refine f_block ?_
   refine f_then ?_
   refine c_region ?_
   refine lv (v := .int .i64 (2)) (e_add (a := (1 : Int)) (b := (1 : Int)) rfl rfl (by decide)) ?_
   refine lv (v := .int .i64 (2)) e_move ?_
   refine l_nil ?_
   refine f_cut ?_
   refine un_succ 0 ?_
   refine csr ?_
   refine lv (v := .bool false) (e_lss (a := (2 : Int)) (b := (2 : Int)) rfl rfl) ?_
   refine lnf ?_
   refine c_seq ?_
   refine c_no rfl ?_
   refine c_exit ?_
   refine f_then_exit ?_
   refine f_then_exit ?_
   refine f_exit ?_
   refine end0 Tryd.results95 ?_
   intro w hw
   have e : flyC cs i j cp cv = ((((cs.set i (setV0 cp (max (min ((cp.v0) + (cv.v0)) (1048576 : Int)) (-1048576 : Int)))).set j (setV0 cv 0)).set i (setV1 (setV0 cp (max (min ((cp.v0) + (cv.v0)) (1048576 : Int)) (-1048576 : Int))) (max (min ((cp.v1) + (cv.v1)) (1048576 : Int)) (-1048576 : Int)))).set j (setV1 (setV0 cv 0) 0)) := by
    rw [fly_yes ⟨⟨by omega, by omega⟩, by omega, by omega⟩, if_neg hc5, if_neg hc6]
    try simp only [set_swap hij, List.set_set]
    try rfl
   exact ⟨rfl, by rw [e]; exact st_mask [true] rfl hw⟩
  refine c_skip ?_
  refine f_block ?_
  refine f_then ?_
  refine c_region ?_
  refine lv (v := .int .i64 (2)) (e_add (a := (1 : Int)) (b := (1 : Int)) rfl rfl (by decide)) ?_
  refine lv (v := .int .i64 (2)) e_move ?_
  refine l_nil ?_
  refine f_cut ?_
  refine un_succ 0 ?_
  refine csr ?_
  refine lv (v := .bool false) (e_lss (a := (2 : Int)) (b := (2 : Int)) rfl rfl) ?_
  refine lnf ?_
  refine c_seq ?_
  refine c_no rfl ?_
  refine c_exit ?_
  refine f_then_exit ?_
  refine f_then_exit ?_
  refine f_exit ?_
  refine end0 Tryd.results95 ?_
  intro w hw
  have e : flyC cs i j cp cv = (((cs.set i (setV0 cp (max (min ((cp.v0) + (cv.v0)) (1048576 : Int)) (-1048576 : Int)))).set j (setV0 cv 0)).set i (setV1 (setV0 cp (max (min ((cp.v0) + (cv.v0)) (1048576 : Int)) (-1048576 : Int))) (max (min ((cp.v1) + (cv.v1)) (1048576 : Int)) (-1048576 : Int)))) := by
   rw [fly_yes ⟨⟨by omega, by omega⟩, by omega, by omega⟩, if_neg hc5, if_pos (Decidable.not_not.1 hc6)]
   try simp only [set_swap hij, List.set_set]
   try rfl
  exact ⟨rfl, by rw [e]; exact st_mask [true] rfl hw⟩
 refine c_skip ?_
 refine f_block ?_
 refine f_then ?_
 refine c_region ?_
 refine lv (v := .int .i64 (1)) (e_add (a := (0 : Int)) (b := (1 : Int)) rfl rfl (by decide)) ?_
 refine lv (v := .int .i64 (1)) e_move ?_
 refine l_nil ?_
 refine f_cut ?_
 refine un_succ 1 ?_
 refine csr ?_
 refine lv (v := .bool true) (e_lss (a := (1 : Int)) (b := (2 : Int)) rfl rfl) ?_
 refine lnf ?_
 refine c_seq ?_
 refine c_yes rfl ?_
 refine csk ?_
 refine c_seq ?_
 refine c_block ?_
 refine csr ?_
 refine lv (v := .int .i64 (1)) e_move ?_
 refine lv (v := .int .i64 (1)) e_assign ?_
 refine lnf ?_
 refine c_seq ?_
 refine c_quiet (by kernel_rfl) (by kernel_rfl) ?_
 refine q_val (v := .pointer (some ((ba p).add (i * 5)))) rfl rfl rfl e_move ?_
 refine q_val (v := .int .i64 (1)) rfl rfl rfl e_move ?_
 refine q_val (v := .pointer (some ((ba p).add (i * 5)))) rfl rfl rfl (e_nil (a := (ba p).add (i * 5)) rfl) ?_
 refine q_val (v := .pointer (some ((ba p).add (i * 5 + 1)))) rfl rfl rfl (ev_eq (congrArg (fun z => Value.pointer (some z)) (show ((ba p).add (i * 5) : Addr).add 1 = (ba p).add (i * 5 + 1) by rw [Addr.add_add'])) (e_fieldAddr (a := (ba p).add (i * 5)) rfl tg125)) ?_
 refine q_val (v := .pointer (some ((ba p).add (i * 5 + 2)))) rfl rfl rfl (ev_eq (congrArg (fun z => Value.pointer (some z)) (show ((ba p).add (i * 5 + 1) : Addr).add (1 * 1) = (ba p).add (i * 5 + 2) by rw [Addr.add_add'] <;> rfl)) (e_indexArr (a := (ba p).add (i * 5 + 1)) (k := 1) rfl rfl tg126 (by decide))) ?_
 refine q_val (v := Ix (cp.v1)) rfl rfl rfl (e_load1 tf2 rfl (k_flPart 0 (F := CompF) (o := 2) (us := [Ix (cp.v1)]) rfl (get_set (setV0 cp (max (min ((cp.v0) + (cv.v0)) (1048576 : Int)) (-1048576 : Int))) (by first | omega | (simp only [List.length_set]; omega))) rfl)) ?_
 refine q_val (v := .pointer (some ((ba p).add (j * 5)))) rfl rfl rfl e_move ?_
 refine q_val (v := .int .i64 (1)) rfl rfl rfl e_move ?_
 refine q_val (v := .pointer (some ((ba p).add (j * 5)))) rfl rfl rfl (e_nil (a := (ba p).add (j * 5)) rfl) ?_
 refine q_val (v := .pointer (some ((ba p).add (j * 5 + 1)))) rfl rfl rfl (ev_eq (congrArg (fun z => Value.pointer (some z)) (show ((ba p).add (j * 5) : Addr).add 1 = (ba p).add (j * 5 + 1) by rw [Addr.add_add'])) (e_fieldAddr (a := (ba p).add (j * 5)) rfl tg125)) ?_
 refine q_val (v := .pointer (some ((ba p).add (j * 5 + 2)))) rfl rfl rfl (ev_eq (congrArg (fun z => Value.pointer (some z)) (show ((ba p).add (j * 5 + 1) : Addr).add (1 * 1) = (ba p).add (j * 5 + 2) by rw [Addr.add_add'] <;> rfl)) (e_indexArr (a := (ba p).add (j * 5 + 1)) (k := 1) rfl rfl tg126 (by decide))) ?_
 refine q_val (v := Ix (cv.v1)) rfl rfl rfl (e_load1 tf2 rfl (k_flPart 0 (F := CompF) (o := 2) (us := [Ix (cv.v1)]) rfl (set_ne (by first | assumption | (apply Ne.symm; assumption)) hj) rfl)) ?_
 refine q_val (v := Ix ((cp.v1) + (cv.v1))) rfl rfl rfl (e_add (a := (cp.v1)) (b := (cv.v1)) rfl rfl (i64w (by omega))) ?_
 refine q_val (v := Ix ((cp.v1) + (cv.v1))) rfl rfl rfl e_assign ?_
 refine q_nil ?_
 refine ftc ?_
 refine lv (v := .pointer (some ((ba p).add (i * 5)))) e_move ?_
 refine lv (v := .int .i64 (1)) e_move ?_
 refine lv (v := Ix ((cp.v1) + (cv.v1))) e_move ?_
 refine lv (v := Ix (min ((cp.v1) + (cv.v1)) (1048576 : Int))) (e_min (a := ((cp.v1) + (cv.v1))) (b := (1048576 : Int)) rfl rfl) ?_
 refine lv (v := Ix (max (min ((cp.v1) + (cv.v1)) (1048576 : Int)) (-1048576 : Int))) (e_max (a := (min ((cp.v1) + (cv.v1)) (1048576 : Int))) (b := (-1048576 : Int)) rfl rfl) ?_
 refine lv (v := .pointer (some ((ba p).add (i * 5)))) (e_nil (a := (ba p).add (i * 5)) rfl) ?_
 refine lv (v := .pointer (some ((ba p).add (i * 5 + 1)))) (ev_eq (congrArg (fun z => Value.pointer (some z)) (show ((ba p).add (i * 5) : Addr).add 1 = (ba p).add (i * 5 + 1) by rw [Addr.add_add'])) (e_fieldAddr (a := (ba p).add (i * 5)) rfl tg125)) ?_
 refine lv (v := .pointer (some ((ba p).add (i * 5 + 2)))) (ev_eq (congrArg (fun z => Value.pointer (some z)) (show ((ba p).add (i * 5 + 1) : Addr).add (1 * 1) = (ba p).add (i * 5 + 2) by rw [Addr.add_add'] <;> rfl)) (e_indexArr (a := (ba p).add (i * 5 + 1)) (k := 1) rfl rfl tg126 (by decide))) ?_
 refine lu (m_storeFlPart 0 (F := CompF) (p := p) (k := i) (o := 2) (xs := (cs.set i (setV0 cp (max (min ((cp.v0) + (cv.v0)) (1048576 : Int)) (-1048576 : Int))))) (z0 := (setV0 cp (max (min ((cp.v0) + (cv.v0)) (1048576 : Int)) (-1048576 : Int)))) (z := (setV1 (setV0 cp (max (min ((cp.v0) + (cv.v0)) (1048576 : Int)) (-1048576 : Int))) (max (min ((cp.v1) + (cv.v1)) (1048576 : Int)) (-1048576 : Int)))) tf2 rfl rfl rfl rfl rfl (get_set (setV0 cp (max (min ((cp.v0) + (cv.v0)) (1048576 : Int)) (-1048576 : Int))) (by first | omega | (simp only [List.length_set]; omega))) (by decide) rfl) ?_
 refine l_re (L' := [rowF CompF 73 p c (cs.set i (setV1 (setV0 cp (max (min ((cp.v0) + (cv.v0)) (1048576 : Int)) (-1048576 : Int))) (max (min ((cp.v1) + (cv.v1)) (1048576 : Int)) (-1048576 : Int))))]) (by show (_ :: _ : List Res) = _; simp only [sB, rB, List.set_set, List.set_cons_zero, List.set_cons_succ]) ?_
 refine lnc ?_
 refine lv (v := .pointer (some ((ba p).add (i * 5)))) e_move ?_
 refine lv (v := .int .i64 (1)) e_move ?_
 refine lv (v := .pointer (some ((ba p).add (i * 5)))) (e_nil (a := (ba p).add (i * 5)) rfl) ?_
 refine lv (v := .pointer (some ((ba p).add (i * 5 + 1)))) (ev_eq (congrArg (fun z => Value.pointer (some z)) (show ((ba p).add (i * 5) : Addr).add 1 = (ba p).add (i * 5 + 1) by rw [Addr.add_add'])) (e_fieldAddr (a := (ba p).add (i * 5)) rfl tg125)) ?_
 refine lv (v := .pointer (some ((ba p).add (i * 5 + 2)))) (ev_eq (congrArg (fun z => Value.pointer (some z)) (show ((ba p).add (i * 5 + 1) : Addr).add (1 * 1) = (ba p).add (i * 5 + 2) by rw [Addr.add_add'] <;> rfl)) (e_indexArr (a := (ba p).add (i * 5 + 1)) (k := 1) rfl rfl tg126 (by decide))) ?_
 refine lv (v := Ix (max (min ((cp.v1) + (cv.v1)) (1048576 : Int)) (-1048576 : Int))) (e_load1 tf2 rfl (k_flPart 0 (F := CompF) (o := 2) (us := [Ix (max (min ((cp.v1) + (cv.v1)) (1048576 : Int)) (-1048576 : Int))]) rfl (get_set (setV1 (setV0 cp (max (min ((cp.v0) + (cv.v0)) (1048576 : Int)) (-1048576 : Int))) (max (min ((cp.v1) + (cv.v1)) (1048576 : Int)) (-1048576 : Int))) (by first | omega | (simp only [List.length_set]; omega))) rfl)) ?_
 refine lv (v := Ix ((cp.v1) + (cv.v1))) e_move ?_
 refine lv (e_neq (a := (max (min ((cp.v1) + (cv.v1)) (1048576 : Int)) (-1048576 : Int))) (b := ((cp.v1) + (cv.v1))) rfl rfl) ?_
 refine lnf ?_
 refine c_if ((max (min ((cp.v1) + (cv.v1)) (1048576 : Int)) (-1048576 : Int)) ≠ ((cp.v1) + (cv.v1))) rfl (fun hc7 => ?_) (fun hc7 => ?_)
 ·refine c_region ?_
  refine lv (v := .pointer (some ((ba p).add (j * 5)))) e_move ?_
  refine lv (v := .int .i64 (1)) e_move ?_
  refine lv (v := .pointer (some ((ba p).add (j * 5)))) (e_nil (a := (ba p).add (j * 5)) rfl) ?_
  refine lv (v := .pointer (some ((ba p).add (j * 5 + 1)))) (ev_eq (congrArg (fun z => Value.pointer (some z)) (show ((ba p).add (j * 5) : Addr).add 1 = (ba p).add (j * 5 + 1) by rw [Addr.add_add'])) (e_fieldAddr (a := (ba p).add (j * 5)) rfl tg125)) ?_
  refine lv (v := .pointer (some ((ba p).add (j * 5 + 2)))) (ev_eq (congrArg (fun z => Value.pointer (some z)) (show ((ba p).add (j * 5 + 1) : Addr).add (1 * 1) = (ba p).add (j * 5 + 2) by rw [Addr.add_add'] <;> rfl)) (e_indexArr (a := (ba p).add (j * 5 + 1)) (k := 1) rfl rfl tg126 (by decide))) ?_
  refine lu (m_storeFlPart 0 (F := CompF) (p := p) (k := j) (o := 2) (xs := (cs.set i (setV1 (setV0 cp (max (min ((cp.v0) + (cv.v0)) (1048576 : Int)) (-1048576 : Int))) (max (min ((cp.v1) + (cv.v1)) (1048576 : Int)) (-1048576 : Int))))) (z0 := cv) (z := (setV1 cv 0)) tf2 rfl rfl rfl rfl rfl (set_ne (by first | assumption | (apply Ne.symm; assumption)) hj) (by decide) rfl) ?_
  refine l_nil ?_
  refine f_block ?_
  refine f_then ?_
  refine c_region ?_
  refine lv (v := .int .i64 (2)) (e_add (a := (1 : Int)) (b := (1 : Int)) rfl rfl (by decide)) ?_
  refine lv (v := .int .i64 (2)) e_move ?_
  refine l_nil ?_
  refine f_cut ?_
  refine un_succ 0 ?_
  refine csr ?_
  refine lv (v := .bool false) (e_lss (a := (2 : Int)) (b := (2 : Int)) rfl rfl) ?_
  refine lnf ?_
  refine c_seq ?_
  refine c_no rfl ?_
  refine c_exit ?_
  refine f_then_exit ?_
  refine f_then_exit ?_
  refine f_exit ?_
  refine end0 Tryd.results95 ?_
  intro w hw
  have e : flyC cs i j cp cv = ((cs.set i (setV1 (setV0 cp (max (min ((cp.v0) + (cv.v0)) (1048576 : Int)) (-1048576 : Int))) (max (min ((cp.v1) + (cv.v1)) (1048576 : Int)) (-1048576 : Int)))).set j (setV1 cv 0)) := by
   rw [fly_yes ⟨⟨by omega, by omega⟩, by omega, by omega⟩, if_pos (Decidable.not_not.1 hc5), if_neg hc7]
   try simp only [set_swap hij, List.set_set]
   try rfl
  exact ⟨rfl, by rw [e]; exact st_mask [true] rfl hw⟩
 refine c_skip ?_
 refine f_block ?_
 refine f_then ?_
 refine c_region ?_
 refine lv (v := .int .i64 (2)) (e_add (a := (1 : Int)) (b := (1 : Int)) rfl rfl (by decide)) ?_
 refine lv (v := .int .i64 (2)) e_move ?_
 refine l_nil ?_
 refine f_cut ?_
 refine un_succ 0 ?_
 refine csr ?_
 refine lv (v := .bool false) (e_lss (a := (2 : Int)) (b := (2 : Int)) rfl rfl) ?_
 refine lnf ?_
 refine c_seq ?_
 refine c_no rfl ?_
 refine c_exit ?_
 refine f_then_exit ?_
 refine f_then_exit ?_
 refine f_exit ?_
 refine end0 Tryd.results95 ?_
 intro w hw
 have e : flyC cs i j cp cv = (cs.set i (setV1 (setV0 cp (max (min ((cp.v0) + (cv.v0)) (1048576 : Int)) (-1048576 : Int))) (max (min ((cp.v1) + (cv.v1)) (1048576 : Int)) (-1048576 : Int)))) := by
  rw [fly_yes ⟨⟨by omega, by omega⟩, by omega, by omega⟩, if_pos (Decidable.not_not.1 hc5), if_pos (Decidable.not_not.1 hc7)]
  exact set_self (set_ne (Ne.symm hij) hj)
 exact ⟨rfl, by rw [e]; exact st_mask [true] rfl hw⟩
theorem back1_fn (β : Base) (c : Nat) (i : Int) (v : Value) (hc : Cs β.heap ⟨c, 0, none⟩ [Ix i, v]) : FnV Tryd.prog β (.func (.func 97) #[] #[pp c 0]) (fun z : KB => [.agg (bC z)]) (fun _ => True) (fun z => .bool (decide (z.id = i))) := by
 refine ⟨97, [], [.pointer (some (⟨c, 0, none⟩))], rfl, by kernel_rfl, fun β₁ sb0 z_ hz_ w hw => ?_⟩
 have hc1 := Cs.mono _ _ _ _ sb0 hc
 obtain ⟨z, hz⟩ : ∃ z, z = z_ := ⟨_, rfl⟩
 subst hz
 refine enter (n := 9) Tryd.func97 rfl Tryd.ntmps97 rfl ?_ hw
 refine csr ?_
 refine l_mv rfl rfl rfl (m_box (v := .agg (bC z)) rfl) ?_
 rintro _ _ ⟨b1, rfl, rfl⟩
 refine lv (v := .bool false) e_assign ?_
 refine lnc ?_
 refine lv (v := pp b1 0) (e_fieldPt rfl tf3) ?_
 refine lv (v := Ix (z.id)) (e_load1 tf2 rfl (k_pt 0 rfl rfl)) ?_
 refine lv (v := .pointer (some ((⟨c, 0, none⟩ : Addr).add 0))) (e_fieldAddr (a := ⟨c, 0, none⟩) rfl tg124) ?_
 refine lv (v := Ix (i)) (e_load1 tf2 rfl (Knows.imp (kB hc1) (fun _ h => Cs.sub (vs := [Ix (i)]) 0 h rfl))) ?_
 refine lv (e_eql (a := (z.id)) (b := (i)) rfl rfl) ?_
 refine lv (v := .bool (decide ((z.id) = (i)))) e_assign ?_
 refine lnf ?_
 refine c_ret ?_
 refine ret1 Tryd.results97 (v := .bool (decide ((z.id) = (i)))) rfl ?_
 intro w hw
 exact ⟨rfl, st_mask [false] rfl hw⟩
set_option maxHeartbeats 4000000 in
theorem back_ok (β : Base) (w : World) (hw : St β [] w) (tick : Int) (v bv rv : Value) (gx gy : Int) (es : List KEnt) (B : List KB) (hs : Sl EntR β.heap v es) (hb : Sl KBR β.heap bv B) (hn : es.length ≤ 65536) (hcl : ∀ e ∈ es, e.comps.length ≤ 65536) : Calls Tryd.prog 58 #[.agg #[Ix tick, v], .agg #[bv, rv, Ix gx, Ix gy]] w fun r w' => ∃ p c, r = .returned (.agg #[Ix tick, sB p es c]) ∧ St β [entsR p c (es.map (backE B))] w' := by
 obtain ⟨va, vc, rfl, vl, vm, ve⟩ := hs.get
 obtain ⟨bva, bvc, rfl, bvl, bvm, bve⟩ := hb.get
 refine enter (n := 113) Tryd.func58 rfl Tryd.ntmps58 rfl ?_ hw
 refine csr ?_
 refine l_mv rfl rfl rfl (m_box (v := .agg #[Ix (tick), sB va es (vc)]) rfl) ?_
 rintro _ _ ⟨b1, rfl, rfl⟩
 refine l_mv rfl rfl rfl (m_box (v := .agg #[sB bva B (bvc), rv, Ix (gx), Ix (gy)]) rfl) ?_
 rintro _ _ ⟨b2, rfl, rfl⟩
 refine l_mv rfl rfl rfl (m_alloc tg136) ?_
 rintro _ _ ⟨b3, rfl, rfl⟩
 refine lnc ?_
 refine lv (v := pp b1 0) (e_fieldPt rfl tg137) ?_
 refine lv (v := Ix (tick)) (e_load1 tf2 rfl (k_pt 2 rfl rfl)) ?_
 refine lv (v := .agg #[Ix (tick), .slice none 0 0]) (e_build tg136 tg138 (vs := [(0, Ix (tick))]) (cells := #[Ix (tick), .slice none 0 0]) rfl rfl) ?_
 refine l_mv rfl rfl rfl (m_alloc tg136) ?_
 rintro _ _ ⟨b4, rfl, rfl⟩
 refine lu (m_store 0 tg139 (cs' := #[Ix (tick), .slice none 0 0]) rfl rfl rfl rfl rfl rfl rfl) ?_
 refine lnf ?_
 refine cs2 ?_
 refine c_emp (r := rowF HdF 76 none 0 []) (row_nil _ _ _) ?_
 refine c_emp (r := goodR [] []) good_nil ?_
 refine c_region ?_
 refine lv (v := pp b1 1) (e_fieldPt rfl tg128) ?_
 refine lv (v := sB va es (vc)) (e_load1 tg129 rfl (k_pt 5 rfl rfl)) ?_
 refine lv (v := Nx (es.length)) (e_len (a := va) (n := es.length) (c := vc) rfl tg130) ?_
 refine lv (v := .int .i64 (0)) e_move ?_
 refine lnf ?_
 refine c_block ?_
 refine c_mask [true, true, true, true, true, true] rfl ?_
 refine c_loop (fun (x_ : Nat × List KHd × Option Addr × Nat) (f : Fm) (L : List Res) => match x_ with | (k, hd, p, c) => (f 3 = pp b2 0 ∧ f 4 = pp b3 0 ∧ f 5 = pp b4 0 ∧ f 17 = sB va es (vc) ∧ f 18 = Nx (es.length) ∧ f 19 = Nx (k)) ∧ L = [goodR hd ((es.take k).map (backE B)), rowF HdF 76 p c hd, pt b4 (.cells #[Ix (tick), sB p hd c] 70), pt b3 (.cells #[.int .i64 (0), .slice none 0 0] 70), pt b2 (.cells #[sB bva B (bvc), rv, Ix (gx), Ix (gy)] 27), pt b1 (.cells #[Ix (tick), sB va es (vc)] 70)] ∧ (k ≤ es.length ∧ hd.length = k)) (fun (x_ : Nat × List KHd × Option Addr × Nat) => match x_ with | (k, hd, p, c) => es.length - k) (0, [], none, 0) ?_ ?_
 ·exact ⟨⟨rfl, rfl, rfl, rfl, rfl, rfl⟩, rfl, ⟨by omega, rfl⟩⟩
 rintro ⟨k, hd, p, c⟩ f0 L0 ⟨⟨hs3, hs4, hs5, hs17, hs18, hs19⟩, hL, ⟨hk, hdl⟩⟩
 subst L0
 refine rebase (d := 3) hs3 ?_
 refine rebase (d := 4) hs4 ?_
 refine rebase (d := 5) hs5 ?_
 refine rebase (d := 17) hs17 ?_
 refine rebase (d := 18) hs18 ?_
 refine rebase (d := 19) hs19 ?_
 clear hs3 hs4 hs5 hs17 hs18 hs19
 refine csr ?_
 refine lv (e_lss (a := ((k : Nat) : Int)) (b := ((es.length : Nat) : Int)) rfl rfl) ?_
 refine lnf ?_
 refine c_seq ?_
 refine c_if (((k : Nat) : Int) < ((es.length : Nat) : Int)) rfl (fun hc5 => ?_) (fun hc5 => ?_)
 ·refine csk ?_
  refine c_seq ?_
  refine c_block ?_
  refine csr ?_
  obtain ⟨x6, hx7⟩ : ∃ x_, (es)[k]? = some x_ := ⟨_, List.getElem?_eq_getElem (by omega)⟩
  obtain ⟨ha8, cs9, hc10, hr11⟩ := ve _ _ hx7
  obtain ⟨v12, rfl, hv13⟩ := hr11
  obtain ⟨v12a, v12c, rfl, v12l, v12m, v12e⟩ := hv13.get
  refine lv (v := .pointer (some ((ba va).add (k * 2)))) (e_indexAddr (k := k) (len := es.length) (cap := vc) (a := va) rfl rfl tg131 (by omega) ha8) ?_
  refine lv (v := .agg #[Ix (x6.id), sB v12a x6.comps (v12c)]) (e_load tg121 rfl (kB hc10) rfl) ?_
  refine l_mv rfl rfl rfl (m_alloc tg132) ?_
  rintro _ _ ⟨b14, rfl, rfl⟩
  refine lu (m_store 0 tg121 (cs' := #[Ix (x6.id), sB v12a x6.comps (v12c)]) rfl rfl rfl rfl rfl rfl rfl) ?_
  refine lnf ?_
  refine c_seq ?_
  have hcx := hcl x6 (List.mem_of_getElem? hx7)
  refine c_region ?_
  refine lv (v := pp b14 1) (e_fieldPt rfl tg118) ?_
  refine lv (v := sB v12a x6.comps (v12c)) (e_load1 tg119 rfl (k_pt 0 rfl rfl)) ?_
  refine lcf (cl0 (vs := [sB v12a x6.comps (v12c)]) tg140 rfl rfl) rfl fun w β1 sb kn hw1 back => (cloneC_ok β1 w hw1 _ x6.comps (Sl.mono _ _ _ _ _ sb (⟨⟨_, _, rfl, v12l, v12m, v12e⟩⟩ : Sl CompR _ _ x6.comps)) (by omega)).mono ?_
  rintro e w' ⟨p15, c16, rfl, hw'⟩
  refine ⟨_, rfl, _, back _ _ hw', ?_⟩
  clear hw1 hw' back kn sb
  refine lv (v := pp b14 1) (e_fieldPt rfl tg118) ?_
  refine lu (m_store 1 tg119 (cs' := #[Ix (x6.id), sB p15 x6.comps c16]) rfl rfl rfl rfl rfl rfl rfl) ?_
  refine lnc ?_
  refine lv (v := pp b4 1) (e_fieldPt rfl tg128) ?_
  refine lv (v := sB p hd c) (e_load1 tg129 rfl (k_pt 4 rfl rfl)) ?_
  refine lv (v := .agg #[Ix (x6.id), sB p15 x6.comps c16]) (e_load tg121 rfl (k_pt 1 rfl rfl) rfl) ?_
  refine l_mv rfl rfl rfl (m_slices tg131 tg132 (cells := #[Ix (x6.id), sB p15 x6.comps c16]) rfl rfl rfl rfl) ?_
  rintro _ _ ⟨b17, rfl, rfl⟩
  refine l_mv rfl rfl rfl (m_appendFlN (F := HdF) 4 tg131 tg141 (p := p) (m := hd.length) (xs := hd) (ys := [(⟨(x6.id), p15, x6.comps.length, c16⟩ : KHd)]) (ao := (some ⟨b17, 0, none⟩)) (k := 1) (c := 1) rfl rfl rfl rfl rfl (k_ptFl (z := (⟨(x6.id), p15, x6.comps.length, c16⟩ : KHd)) 0 rfl rfl) (by first | omega | simp only [List.length_nil, List.length_cons, List.length_append, List.length_set]; omega) (by first | omega | simp only [List.length_nil, List.length_cons, List.length_append, List.length_set]; omega)) ?_
  rintro _ _ ⟨rp18, rc19, rfl, rfl⟩
  refine lv (v := pp b4 1) (e_fieldPt rfl tg128) ?_
  refine lu (m_store 5 tg129 (cs' := #[Ix (tick), sB rp18 (hd ++ [(⟨(x6.id), p15, x6.comps.length, c16⟩ : KHd)]) rc19]) rfl rfl rfl rfl rfl rfl rfl) ?_
  refine lnf ?_
  refine c_seq ?_
  refine c_quiet (by kernel_rfl) (by kernel_rfl) ?_
  refine q_val (v := .agg #[Ix (x6.id), sB p15 x6.comps c16]) rfl rfl rfl (e_load tg121 rfl (k_pt 2 rfl rfl) rfl) ?_
  refine q_call (v := .pointer (optP p15 x6.comps 1)) rfl rfl rfl (cl0 (vs := [.agg #[Ix (x6.id), sB p15 x6.comps c16], .int .u8 (1)]) tg122 rfl rfl) (fun w hw => ?_) ?_
  ·obtain ⟨β1, sb, kn, hw1, back⟩ := St.frame_all hw
   exact (first_ok β1 w hw1 (x6.id) p15 c16 x6.comps (kn _ (k_flN 1 (F := CompF) (m := x6.comps.length) (xs := x6.comps) rfl rfl)) 1).mono (fun e w' ⟨he, hw'⟩ => ⟨he, st_mask [true, true, true, true, true, true, true, true, true] rfl (back _ _ hw')⟩)
  refine q_val (v := .agg #[Ix (x6.id), sB p15 x6.comps c16]) rfl rfl rfl (e_load tg121 rfl (k_pt 2 rfl rfl) rfl) ?_
  refine q_call (v := .pointer (optP p15 x6.comps 2)) rfl rfl rfl (cl0 (vs := [.agg #[Ix (x6.id), sB p15 x6.comps c16], .int .u8 (2)]) tg122 rfl rfl) (fun w hw => ?_) ?_
  ·obtain ⟨β1, sb, kn, hw1, back⟩ := St.frame_all hw
   exact (first_ok β1 w hw1 (x6.id) p15 c16 x6.comps (kn _ (k_flN 1 (F := CompF) (m := x6.comps.length) (xs := x6.comps) rfl rfl)) 2).mono (fun e w' ⟨he, hw'⟩ => ⟨he, st_mask [true, true, true, true, true, true, true, true, true] rfl (back _ _ hw')⟩)
  refine q_val (v := .pointer (optP p15 x6.comps 1)) rfl rfl rfl e_assign ?_
  refine q_val (v := .pointer (optP p15 x6.comps 2)) rfl rfl rfl e_assign ?_
  refine q_nil ?_
  refine ftc ?_
  refine lv (v := .agg #[Ix (x6.id), sB p15 x6.comps c16]) (e_load tg121 rfl (k_pt 2 rfl rfl) rfl) ?_
  refine lcf (cl0 (vs := [.agg #[Ix (x6.id), sB p15 x6.comps c16]]) tg133 rfl rfl) rfl fun w β1 sb kn hw1 back => (body_ok β1 w hw1 (x6.id) p15 c16 x6.comps (kn _ (k_flN 1 (F := CompF) (m := x6.comps.length) (xs := x6.comps) rfl rfl))).mono ?_
  rintro e w' ⟨rfl, hw'⟩
  refine ⟨_, rfl, _, back _ _ hw', ?_⟩
  clear hw1 hw' back kn sb
  refine lv (v := .tuple #[.agg (bC (bodyD (x6.id) x6.comps)), .bool ((bodyOf (x6.id) x6.comps).isSome)]) e_move ?_
  refine lv (v := .agg (bC (bodyD (x6.id) x6.comps))) (e_extract (vs := #[.agg (bC (bodyD (x6.id) x6.comps)), .bool ((bodyOf (x6.id) x6.comps).isSome)]) rfl rfl) ?_
  refine lv (v := .bool ((bodyOf (x6.id) x6.comps).isSome)) (e_extract (vs := #[.agg (bC (bodyD (x6.id) x6.comps)), .bool ((bodyOf (x6.id) x6.comps).isSome)]) rfl rfl) ?_
  refine l_mv rfl rfl rfl (m_alloc tf58) ?_
  rintro _ _ ⟨b20, rfl, rfl⟩
  refine lu (m_store 0 tf22 (cs' := (bC (bodyD (x6.id) x6.comps))) rfl rfl rfl rfl rfl rfl rfl) ?_
  refine lv (v := .bool ((bodyOf (x6.id) x6.comps).isSome)) e_assign ?_
  refine lnf ?_
  refine cs2 ?_
  refine c_region ?_
  refine lv (v := .bool ((bodyOf (x6.id) x6.comps).isSome)) e_move ?_
  refine lv (v := .bool (!((bodyOf (x6.id) x6.comps).isSome))) (e_not rfl) ?_
  refine lnf ?_
  refine c_ifb (!((bodyOf (x6.id) x6.comps).isSome)) rfl (fun hc21 => ?_) (fun hc21 => ?_)
  ·have h0 : (bodyOf x6.id x6.comps).isSome = false := by simpa using hc21
   refine cs2 ?_
   refine c_region ?_
   refine lv (v := .pointer (optP p15 x6.comps 1)) e_move ?_
   refine lv (v := .bool (!(optP p15 x6.comps 1).isNone)) (e_neq_pnil (p := optP p15 x6.comps 1) rfl rfl tg123) ?_
   refine lv (v := .bool (!(optP p15 x6.comps 1).isNone)) e_move ?_
   refine l_splitb (s := 46) (b := !(optP p15 x6.comps 1).isNone) rfl (fun hg22 => ?_) (fun hg22 => ?_)
   ·have hq23 : (optP p15 x6.comps 1).isNone = false := by simpa using hg22
    obtain ⟨i1, c1, hi1, hk1, hx1, hp1, hf1⟩ := optP_some hq23
    have hl1 := (List.getElem?_eq_some_iff.1 hi1).1
    rw [hp1]
    refine g_val (v := .pointer (optP p15 x6.comps 2)) rfl rfl rfl rfl rfl e_move ?_
    refine g_val (v := .bool (!(optP p15 x6.comps 2).isNone)) rfl rfl rfl rfl rfl (e_neq_pnil (p := optP p15 x6.comps 2) rfl rfl tg123) ?_
    refine lv (v := .bool (!(optP p15 x6.comps 2).isNone)) (e_pick_t rfl) ?_
    refine lv (v := .bool (!(optP p15 x6.comps 2).isNone)) e_move ?_
    refine l_splitb (s := 50) (b := !(optP p15 x6.comps 2).isNone) rfl (fun hg24 => ?_) (fun hg24 => ?_)
    ·have hq25 : (optP p15 x6.comps 2).isNone = false := by simpa using hg24
     obtain ⟨i2, c2, hi2, hk2, hx2, hp2, hf2⟩ := optP_some hq25
     have hl2 := (List.getElem?_eq_some_iff.1 hi2).1
     rw [hp2]
     have hij : i1 ≠ i2 := idx_ne hi1 hi2 hk1 hk2
     refine g_val (v := .agg #[Ix (x6.id), sB p15 x6.comps c16]) rfl rfl rfl rfl rfl (e_load tg121 rfl (k_pt 3 rfl rfl) rfl) ?_
     refine g_call rfl rfl rfl rfl rfl (cl0 (vs := [.agg #[Ix (x6.id), sB p15 x6.comps c16], .int .u8 (3)]) tg122 rfl rfl) ?_
     intro w hw
     obtain ⟨β1, sb, kn, hw1, back⟩ := St.frame_all hw
     refine (first_ok β1 w hw1 (x6.id) p15 c16 x6.comps (kn _ (k_flN 2 (F := CompF) (m := x6.comps.length) (xs := x6.comps) rfl rfl)) 3).mono ?_
     rintro e w' ⟨rfl, hw'⟩
     refine ⟨_, rfl, _, back _ _ hw', ?_⟩
     clear hw hw1 hw' back kn sb
     refine g_val (v := .bool ((optP p15 x6.comps 3).isNone)) rfl rfl rfl rfl rfl (e_eql_pnil (p := optP p15 x6.comps 3) rfl rfl tg123) ?_
     refine lv (v := .bool ((optP p15 x6.comps 3).isNone)) (e_pick_t rfl) ?_
     refine lnf ?_
     refine c_ifb ((optP p15 x6.comps 3).isNone) rfl (fun hc26 => ?_) (fun hc26 => ?_)
     ·have hq27 : (optP p15 x6.comps 3).isNone = true := by simpa using hc26
      have hn3 := (optP_none hq27).1
      refine c_region ?_
      refine lv (v := .pointer (some ((ba p15).add (i1 * 5)))) e_move ?_
      refine lv (v := .pointer (some ((ba p15).add (i2 * 5)))) e_move ?_
      refine l_call rfl rfl rfl (cl0 (vs := [.pointer (some ((ba p15).add (i1 * 5))), .pointer (some ((ba p15).add (i2 * 5)))]) tg142 rfl rfl) ?_
      intro w hw
      replace hw := hw.perm (L' := _ :: _ :: _ :: _ :: _ :: _ :: _ :: _ :: _ :: _ :: []) (by exact ((((((((((perm_front 9 rfl).trans (perm_front 9 rfl)).trans (perm_front 9 rfl)).trans (perm_front 9 rfl)).trans (perm_front 9 rfl)).trans (perm_front 9 rfl)).trans (perm_front 9 rfl)).trans (perm_front 8 rfl)).trans (perm_front 8 rfl)).trans (perm_front 9 rfl)))
      obtain ⟨β1, sb, kn, hw1, back⟩ := St.frame (L := [_]) (M := _ :: _ :: _ :: _ :: _ :: _ :: _ :: _ :: _ :: []) hw
      refine (fly_ok β1 w _ _ x6.comps i1 i2 c1 c2 hi1 hi2 hij hw1).mono ?_
      rintro e w' ⟨rfl, hw'⟩
      refine ⟨_, rfl, _, back _ _ hw', ?_⟩
      clear hw hw1 hw' back kn sb
      refine lnf ?_
      refine c_exit ?_
      refine f_then_exit ?_
      refine f_exit ?_
      refine f_then ?_
      refine c_region ?_
      refine lv (v := Nx (k + 1)) (e_add (a := ((k : Nat) : Int)) (b := (1 : Int)) rfl rfl (i64n (by omega) (by omega))) ?_
      refine lv (v := Nx (k + 1)) e_move ?_
      refine l_nil ?_
      have hY : (flyC x6.comps i1 i2 c1 c2) = backC B x6.id x6.comps := (back_fly h0 hx1 hf1 hx2 hf2 hn3)
      refine f_pi [0, 4, 1, 2, 3, 5, 6, 7, 8, 9] 10 rfl (by kernel_rfl) ?_
      refine f_merge (L := [rowF CompF 73 p15 c16 (flyC x6.comps i1 i2 c1 c2), goodR hd ((es.take k).map (backE B))]) (M := [pt b20 (.cells (bC (bodyD (x6.id) x6.comps)) 31), pt b17 (.cells #[Ix (x6.id), sB p15 x6.comps c16] 76), pt b14 (.cells #[Ix (x6.id), sB p15 x6.comps c16] 76), rowF HdF 76 rp18 rc19 (hd ++ [(⟨(x6.id), p15, x6.comps.length, c16⟩ : KHd)]), pt b4 (.cells #[Ix (tick), sB rp18 (hd ++ [(⟨(x6.id), p15, x6.comps.length, c16⟩ : KHd)]) rc19] 70), pt b3 (.cells #[.int .i64 (0), .slice none 0 0] 70), pt b2 (.cells #[sB bva B (bvc), rv, Ix (gx), Ix (gy)] 27), pt b1 (.cells #[Ix (tick), sB va es (vc)] 70)]) (r := goodR (hd ++ [(⟨(x6.id), p15, x6.comps.length, c16⟩ : KHd)]) ((es.take (k + 1)).map (backE B))) (by rw [← back_next hx7 hY]; exact good_merge (by rw [hY, back_len])) ?_
      refine f_mask (L' := [goodR (hd ++ [(⟨(x6.id), p15, x6.comps.length, c16⟩ : KHd)]) ((es.take (k + 1)).map (backE B)), rowF HdF 76 rp18 rc19 (hd ++ [(⟨(x6.id), p15, x6.comps.length, c16⟩ : KHd)]), pt b4 (.cells #[Ix (tick), sB rp18 (hd ++ [(⟨(x6.id), p15, x6.comps.length, c16⟩ : KHd)]) rc19] 70), pt b3 (.cells #[.int .i64 (0), .slice none 0 0] 70), pt b2 (.cells #[sB bva B (bvc), rv, Ix (gx), Ix (gy)] 27), pt b1 (.cells #[Ix (tick), sB va es (vc)] 70)]) [true, false, false, false, true, true, true, true, true] rfl ?_
      exact f_cut ⟨(k + 1, (hd ++ [(⟨(x6.id), p15, x6.comps.length, c16⟩ : KHd)]), rp18, rc19), ⟨⟨rfl, rfl, rfl, rfl, rfl, rfl⟩, rfl, ⟨by omega, by rw [List.length_append]; simp only [sB, rB, List.length_cons, List.length_nil]; omega⟩⟩, (show es.length - (k + 1) < es.length - k from by omega)⟩
     have hq28 : (optP p15 x6.comps 3).isNone = false := by simpa using hc26
     obtain ⟨i3, c3, -, -, hx3, -, -⟩ := optP_some hq28
     refine csk ?_
     refine c_exit ?_
     refine f_then_exit ?_
     refine f_exit ?_
     refine f_then ?_
     refine c_region ?_
     refine lv (v := Nx (k + 1)) (e_add (a := ((k : Nat) : Int)) (b := (1 : Int)) rfl rfl (i64n (by omega) (by omega))) ?_
     refine lv (v := Nx (k + 1)) e_move ?_
     refine l_nil ?_
     have hY : x6.comps = backC B x6.id x6.comps := (back_no h0 (.inr (.inr ⟨_, hx3⟩)))
     refine f_pi [2, 4, 0, 1, 3, 5, 6, 7, 8, 9] 10 rfl (by kernel_rfl) ?_
     refine f_merge (L := [rowF CompF 73 p15 c16 x6.comps, goodR hd ((es.take k).map (backE B))]) (M := [pt b20 (.cells (bC (bodyD (x6.id) x6.comps)) 31), pt b17 (.cells #[Ix (x6.id), sB p15 x6.comps c16] 76), pt b14 (.cells #[Ix (x6.id), sB p15 x6.comps c16] 76), rowF HdF 76 rp18 rc19 (hd ++ [(⟨(x6.id), p15, x6.comps.length, c16⟩ : KHd)]), pt b4 (.cells #[Ix (tick), sB rp18 (hd ++ [(⟨(x6.id), p15, x6.comps.length, c16⟩ : KHd)]) rc19] 70), pt b3 (.cells #[.int .i64 (0), .slice none 0 0] 70), pt b2 (.cells #[sB bva B (bvc), rv, Ix (gx), Ix (gy)] 27), pt b1 (.cells #[Ix (tick), sB va es (vc)] 70)]) (r := goodR (hd ++ [(⟨(x6.id), p15, x6.comps.length, c16⟩ : KHd)]) ((es.take (k + 1)).map (backE B))) (by rw [← back_next hx7 hY]; exact good_merge (by rw [hY, back_len])) ?_
     refine f_mask (L' := [goodR (hd ++ [(⟨(x6.id), p15, x6.comps.length, c16⟩ : KHd)]) ((es.take (k + 1)).map (backE B)), rowF HdF 76 rp18 rc19 (hd ++ [(⟨(x6.id), p15, x6.comps.length, c16⟩ : KHd)]), pt b4 (.cells #[Ix (tick), sB rp18 (hd ++ [(⟨(x6.id), p15, x6.comps.length, c16⟩ : KHd)]) rc19] 70), pt b3 (.cells #[.int .i64 (0), .slice none 0 0] 70), pt b2 (.cells #[sB bva B (bvc), rv, Ix (gx), Ix (gy)] 27), pt b1 (.cells #[Ix (tick), sB va es (vc)] 70)]) [true, false, false, false, true, true, true, true, true] rfl ?_
     exact f_cut ⟨(k + 1, (hd ++ [(⟨(x6.id), p15, x6.comps.length, c16⟩ : KHd)]), rp18, rc19), ⟨⟨rfl, rfl, rfl, rfl, rfl, rfl⟩, rfl, ⟨by omega, by rw [List.length_append]; simp only [sB, rB, List.length_cons, List.length_nil]; omega⟩⟩, (show es.length - (k + 1) < es.length - k from by omega)⟩
    have hq29 : (optP p15 x6.comps 2).isNone = true := by simpa using hg24
    refine l_skip rfl rfl rfl rfl rfl rfl ?_
    refine l_skip rfl rfl rfl rfl rfl rfl ?_
    refine l_skip rfl rfl rfl rfl rfl rfl ?_
    refine lv (v := .bool false) (e_pick_f rfl) ?_
    refine lnf ?_
    refine c_no rfl ?_
    refine csk ?_
    refine c_exit ?_
    refine f_then_exit ?_
    refine f_exit ?_
    refine f_then ?_
    refine c_region ?_
    refine lv (v := Nx (k + 1)) (e_add (a := ((k : Nat) : Int)) (b := (1 : Int)) rfl rfl (i64n (by omega) (by omega))) ?_
    refine lv (v := Nx (k + 1)) e_move ?_
    refine l_nil ?_
    have hY : x6.comps = backC B x6.id x6.comps := (back_no h0 (.inr (.inl (optP_none hq29).1)))
    refine f_pi [2, 4, 0, 1, 3, 5, 6, 7, 8, 9] 10 rfl (by kernel_rfl) ?_
    refine f_merge (L := [rowF CompF 73 p15 c16 x6.comps, goodR hd ((es.take k).map (backE B))]) (M := [pt b20 (.cells (bC (bodyD (x6.id) x6.comps)) 31), pt b17 (.cells #[Ix (x6.id), sB p15 x6.comps c16] 76), pt b14 (.cells #[Ix (x6.id), sB p15 x6.comps c16] 76), rowF HdF 76 rp18 rc19 (hd ++ [(⟨(x6.id), p15, x6.comps.length, c16⟩ : KHd)]), pt b4 (.cells #[Ix (tick), sB rp18 (hd ++ [(⟨(x6.id), p15, x6.comps.length, c16⟩ : KHd)]) rc19] 70), pt b3 (.cells #[.int .i64 (0), .slice none 0 0] 70), pt b2 (.cells #[sB bva B (bvc), rv, Ix (gx), Ix (gy)] 27), pt b1 (.cells #[Ix (tick), sB va es (vc)] 70)]) (r := goodR (hd ++ [(⟨(x6.id), p15, x6.comps.length, c16⟩ : KHd)]) ((es.take (k + 1)).map (backE B))) (by rw [← back_next hx7 hY]; exact good_merge (by rw [hY, back_len])) ?_
    refine f_mask (L' := [goodR (hd ++ [(⟨(x6.id), p15, x6.comps.length, c16⟩ : KHd)]) ((es.take (k + 1)).map (backE B)), rowF HdF 76 rp18 rc19 (hd ++ [(⟨(x6.id), p15, x6.comps.length, c16⟩ : KHd)]), pt b4 (.cells #[Ix (tick), sB rp18 (hd ++ [(⟨(x6.id), p15, x6.comps.length, c16⟩ : KHd)]) rc19] 70), pt b3 (.cells #[.int .i64 (0), .slice none 0 0] 70), pt b2 (.cells #[sB bva B (bvc), rv, Ix (gx), Ix (gy)] 27), pt b1 (.cells #[Ix (tick), sB va es (vc)] 70)]) [true, false, false, false, true, true, true, true, true] rfl ?_
    exact f_cut ⟨(k + 1, (hd ++ [(⟨(x6.id), p15, x6.comps.length, c16⟩ : KHd)]), rp18, rc19), ⟨⟨rfl, rfl, rfl, rfl, rfl, rfl⟩, rfl, ⟨by omega, by rw [List.length_append]; simp only [sB, rB, List.length_cons, List.length_nil]; omega⟩⟩, (show es.length - (k + 1) < es.length - k from by omega)⟩
   have hq30 : (optP p15 x6.comps 1).isNone = true := by simpa using hg22
   refine l_skip rfl rfl rfl rfl rfl rfl ?_
   refine l_skip rfl rfl rfl rfl rfl rfl ?_
   refine lv (v := .bool false) (e_pick_f rfl) ?_
   refine lv (v := .bool false) e_move ?_
   refine l_skip rfl rfl rfl rfl rfl rfl ?_
   refine l_skip rfl rfl rfl rfl rfl rfl ?_
   refine l_skip rfl rfl rfl rfl rfl rfl ?_
   refine lv (v := .bool false) (e_pick_f rfl) ?_
   refine lnf ?_
   refine c_no rfl ?_
   refine csk ?_
   refine c_exit ?_
   refine f_then_exit ?_
   refine f_exit ?_
   refine f_then ?_
   refine c_region ?_
   refine lv (v := Nx (k + 1)) (e_add (a := ((k : Nat) : Int)) (b := (1 : Int)) rfl rfl (i64n (by omega) (by omega))) ?_
   refine lv (v := Nx (k + 1)) e_move ?_
   refine l_nil ?_
   have hY : x6.comps = backC B x6.id x6.comps := (back_no h0 (.inl (optP_none hq30).1))
   refine f_pi [2, 4, 0, 1, 3, 5, 6, 7, 8, 9] 10 rfl (by kernel_rfl) ?_
   refine f_merge (L := [rowF CompF 73 p15 c16 x6.comps, goodR hd ((es.take k).map (backE B))]) (M := [pt b20 (.cells (bC (bodyD (x6.id) x6.comps)) 31), pt b17 (.cells #[Ix (x6.id), sB p15 x6.comps c16] 76), pt b14 (.cells #[Ix (x6.id), sB p15 x6.comps c16] 76), rowF HdF 76 rp18 rc19 (hd ++ [(⟨(x6.id), p15, x6.comps.length, c16⟩ : KHd)]), pt b4 (.cells #[Ix (tick), sB rp18 (hd ++ [(⟨(x6.id), p15, x6.comps.length, c16⟩ : KHd)]) rc19] 70), pt b3 (.cells #[.int .i64 (0), .slice none 0 0] 70), pt b2 (.cells #[sB bva B (bvc), rv, Ix (gx), Ix (gy)] 27), pt b1 (.cells #[Ix (tick), sB va es (vc)] 70)]) (r := goodR (hd ++ [(⟨(x6.id), p15, x6.comps.length, c16⟩ : KHd)]) ((es.take (k + 1)).map (backE B))) (by rw [← back_next hx7 hY]; exact good_merge (by rw [hY, back_len])) ?_
   refine f_mask (L' := [goodR (hd ++ [(⟨(x6.id), p15, x6.comps.length, c16⟩ : KHd)]) ((es.take (k + 1)).map (backE B)), rowF HdF 76 rp18 rc19 (hd ++ [(⟨(x6.id), p15, x6.comps.length, c16⟩ : KHd)]), pt b4 (.cells #[Ix (tick), sB rp18 (hd ++ [(⟨(x6.id), p15, x6.comps.length, c16⟩ : KHd)]) rc19] 70), pt b3 (.cells #[.int .i64 (0), .slice none 0 0] 70), pt b2 (.cells #[sB bva B (bvc), rv, Ix (gx), Ix (gy)] 27), pt b1 (.cells #[Ix (tick), sB va es (vc)] 70)]) [true, false, false, false, true, true, true, true, true] rfl ?_
   exact f_cut ⟨(k + 1, (hd ++ [(⟨(x6.id), p15, x6.comps.length, c16⟩ : KHd)]), rp18, rc19), ⟨⟨rfl, rfl, rfl, rfl, rfl, rfl⟩, rfl, ⟨by omega, by rw [List.length_append]; simp only [sB, rB, List.length_cons, List.length_nil]; omega⟩⟩, (show es.length - (k + 1) < es.length - k from by omega)⟩
  have h0 : (bodyOf x6.id x6.comps).isSome = true := by simpa using hc21
  have hN1 := body_has1 (a := p15) h0
  obtain ⟨i1, c1, hi1, hk1, hx1, hp1, hf1⟩ := optP_some hN1
  have hl1 := (List.getElem?_eq_some_iff.1 hi1).1
  rw [hp1]
  refine csk ?_
  refine csr ?_
  refine lv (v := pp b2 0) (e_fieldPt rfl tf49) ?_
  refine lv (v := sB bva B (bvc)) (e_load1 tf50 rfl (k_pt 8 rfl rfl)) ?_
  refine lv (v := .func (.func 97) #[] #[pp b14 0]) (e_func (u := []) (v := [pp b14 0]) rfl rfl) ?_
  refine lcf (cl0 (vs := [sB bva B (bvc), .func (.func 97) #[] #[pp b14 0]]) tf78 rfl rfl) rfl fun w β1 sb kn hw1 back => (indexB_ok β1 w hw1 _ _ B (Sl.mono _ _ _ _ _ sb hb) (fun b => decide (b.id = (x6.id))) (fnv_all (back1_fn β1 b14 (x6.id) _ (kn _ (k_pt 3 (o := 0) rfl rfl))))).mono ?_
  rintro e w' ⟨rfl, hw'⟩
  refine ⟨_, rfl, _, back _ _ hw', ?_⟩
  clear hw1 hw' back kn sb
  refine lv (v := Ix (idxI (fun b : KB => decide (b.id = (x6.id))) B)) e_assign ?_
  refine lnf ?_
  refine cs2 ?_
  rcases idxB_cases B x6.id with ⟨hn, hfn⟩ | ⟨ib, hib, hlb, hfo⟩
  ·refine c_region ?_
   refine lv (v := Ix (idxI (fun b : KB => decide (b.id = (x6.id))) B)) e_move ?_
   refine lv (e_lss (a := (idxI (fun b : KB => decide (b.id = (x6.id))) B)) (b := (0 : Int)) rfl rfl) ?_
   refine lnf ?_
   refine c_if ((idxI (fun b : KB => decide (b.id = (x6.id))) B) < (0 : Int)) rfl (fun hc31 => ?_) (fun hc31 => ?_)
   ·refine c_exit ?_
    refine f_then_exit ?_
    refine f_exit ?_
    refine f_then ?_
    refine c_region ?_
    refine lv (v := Nx (k + 1)) (e_add (a := ((k : Nat) : Int)) (b := (1 : Int)) rfl rfl (i64n (by omega) (by omega))) ?_
    refine lv (v := Nx (k + 1)) e_move ?_
    refine l_nil ?_
    have hY : x6.comps = backC B x6.id x6.comps := (back_lost h0 hfn)
    refine f_pi [2, 4, 0, 1, 3, 5, 6, 7, 8, 9] 10 rfl (by kernel_rfl) ?_
    refine f_merge (L := [rowF CompF 73 p15 c16 x6.comps, goodR hd ((es.take k).map (backE B))]) (M := [pt b20 (.cells (bC (bodyD (x6.id) x6.comps)) 31), pt b17 (.cells #[Ix (x6.id), sB p15 x6.comps c16] 76), pt b14 (.cells #[Ix (x6.id), sB p15 x6.comps c16] 76), rowF HdF 76 rp18 rc19 (hd ++ [(⟨(x6.id), p15, x6.comps.length, c16⟩ : KHd)]), pt b4 (.cells #[Ix (tick), sB rp18 (hd ++ [(⟨(x6.id), p15, x6.comps.length, c16⟩ : KHd)]) rc19] 70), pt b3 (.cells #[.int .i64 (0), .slice none 0 0] 70), pt b2 (.cells #[sB bva B (bvc), rv, Ix (gx), Ix (gy)] 27), pt b1 (.cells #[Ix (tick), sB va es (vc)] 70)]) (r := goodR (hd ++ [(⟨(x6.id), p15, x6.comps.length, c16⟩ : KHd)]) ((es.take (k + 1)).map (backE B))) (by rw [← back_next hx7 hY]; exact good_merge (by rw [hY, back_len])) ?_
    refine f_mask (L' := [goodR (hd ++ [(⟨(x6.id), p15, x6.comps.length, c16⟩ : KHd)]) ((es.take (k + 1)).map (backE B)), rowF HdF 76 rp18 rc19 (hd ++ [(⟨(x6.id), p15, x6.comps.length, c16⟩ : KHd)]), pt b4 (.cells #[Ix (tick), sB rp18 (hd ++ [(⟨(x6.id), p15, x6.comps.length, c16⟩ : KHd)]) rc19] 70), pt b3 (.cells #[.int .i64 (0), .slice none 0 0] 70), pt b2 (.cells #[sB bva B (bvc), rv, Ix (gx), Ix (gy)] 27), pt b1 (.cells #[Ix (tick), sB va es (vc)] 70)]) [true, false, false, false, true, true, true, true, true] rfl ?_
    exact f_cut ⟨(k + 1, (hd ++ [(⟨(x6.id), p15, x6.comps.length, c16⟩ : KHd)]), rp18, rc19), ⟨⟨rfl, rfl, rfl, rfl, rfl, rfl⟩, rfl, ⟨by omega, by rw [List.length_append]; simp only [sB, rB, List.length_cons, List.length_nil]; omega⟩⟩, (show es.length - (k + 1) < es.length - k from by omega)⟩
   exact absurd hn hc31
  rw [hib]
  refine c_region ?_
  refine lv (v := Nx (ib)) e_move ?_
  refine lv (e_lss (a := ((ib : Nat) : Int)) (b := (0 : Int)) rfl rfl) ?_
  refine lnf ?_
  refine c_if (((ib : Nat) : Int) < (0 : Int)) rfl (fun hc32 => ?_) (fun hc32 => ?_)
  ·exact absurd hc32 (by omega)
  refine csk ?_
  refine c_seq ?_
  obtain ⟨ob, hob⟩ : ∃ x_, B[ib]? = some x_ := ⟨_, List.getElem?_eq_getElem (by omega)⟩
  obtain ⟨hao, co, hco, rfl⟩ := bve _ _ hob
  refine c_any [⟨[], [], [0], [64], fun f => f 64 = .pointer (some ((ba p15).add (i1 * 5)))⟩, ⟨[], [], [0], [65], fun f => f 65 = .pointer (some ((ba p15).add (i1 * 5)))⟩, ⟨[], [], [1], [66], fun f => f 66 = pp b2 0⟩, ⟨[2], [2], [], [67], fun f => f 67 = sB bva B (bvc)⟩, ⟨[], [], [2], [68], fun f => f 68 = Nx (ib)⟩, ⟨[2, 3, 4], [3, 4], [], [69], fun f => f 69 = .pointer (some ((ba bva).add (ib * 9)))⟩, ⟨[2, 3, 4, 5], [5], [], [70], fun f => f 70 = .pointer (some (((ba bva).add (ib * 9) : Addr).add 1))⟩, ⟨[2, 3, 4, 5, 6], [6], [], [71], fun f => f 71 = .pointer (some ((((ba bva).add (ib * 9) : Addr).add 1 : Addr).add 0))⟩, ⟨[2, 3, 4, 5, 6, 7], [7], [], [72], fun f => f 72 = Ix (ob.x)⟩, ⟨[], [], [1], [73], fun f => f 73 = pp b2 0⟩, ⟨[9], [9], [], [74], fun f => f 74 = sB bva B (bvc)⟩, ⟨[], [], [2], [75], fun f => f 75 = Nx (ib)⟩, ⟨[9, 10, 11], [10, 11], [], [76], fun f => f 76 = .pointer (some ((ba bva).add (ib * 9)))⟩, ⟨[9, 10, 11, 12], [12], [], [77], fun f => f 77 = .pointer (some (((ba bva).add (ib * 9) : Addr).add 1))⟩, ⟨[9, 10, 11, 12, 13], [13], [], [78], fun f => f 78 = .pointer (some ((((ba bva).add (ib * 9) : Addr).add 1 : Addr).add 1))⟩, ⟨[9, 10, 11, 12, 13, 14], [14], [], [79], fun f => f 79 = Ix (ob.y)⟩, ⟨[0], [0], [], [80], fun f => f 80 = .pointer (some ((ba p15).add (i1 * 5)))⟩, ⟨[0, 16], [16], [], [81], fun f => f 81 = .pointer (some ((ba p15).add (i1 * 5 + 1)))⟩, ⟨[0, 2, 3, 4, 5, 6, 7, 8, 9, 10, 11, 12, 13, 14, 15, 16, 17], [17], [], [82], fun f => f 82 = .pointer (some ((ba p15).add (i1 * 5 + 1)))⟩, ⟨[0, 2, 3, 4, 5, 6, 7, 8, 9, 10, 11, 12, 13, 14, 15, 16, 17, 18], [18, 8], [], [], fun _ => True⟩, ⟨[1], [1], [], [83], fun f => f 83 = .pointer (some ((ba p15).add (i1 * 5)))⟩, ⟨[1, 20], [20], [], [84], fun f => f 84 = .pointer (some ((ba p15).add (i1 * 5 + 1)))⟩, ⟨(List.range 22), [21], [], [85], fun f => f 85 = .pointer (some ((ba p15).add (i1 * 5 + 2)))⟩, ⟨(List.range 23), [22, 15], [], [], fun _ => True⟩] [⟨none, none, [], [], fun _ => pt b20 (.cells (bC (bodyD (x6.id) x6.comps)) 31)⟩, ⟨none, none, [], [], fun _ => pt b17 (.cells #[Ix (x6.id), sB p15 x6.comps c16] 76)⟩, ⟨none, (some 19), [19], [], fun _ => rowF CompF 73 p15 c16 x6.comps⟩, ⟨none, none, [], [], fun _ => pt b14 (.cells #[Ix (x6.id), sB p15 x6.comps c16] 76)⟩, ⟨none, none, [], [], fun _ => goodR hd ((es.take k).map (backE B))⟩, ⟨none, none, [], [], fun _ => rowF HdF 76 rp18 rc19 (hd ++ [(⟨(x6.id), p15, x6.comps.length, c16⟩ : KHd)])⟩, ⟨none, none, [], [], fun _ => pt b4 (.cells #[Ix (tick), sB rp18 (hd ++ [(⟨(x6.id), p15, x6.comps.length, c16⟩ : KHd)]) rc19] 70)⟩, ⟨none, none, [], [], fun _ => pt b3 (.cells #[.int .i64 (0), .slice none 0 0] 70)⟩, ⟨none, none, [3, 10], [], fun _ => pt b2 (.cells #[sB bva B (bvc), rv, Ix (gx), Ix (gy)] 27)⟩, ⟨none, none, [], [], fun _ => pt b1 (.cells #[Ix (tick), sB va es (vc)] 70)⟩, ⟨(some 19), (some 23), [23], [], fun _ => rowF CompF 73 p15 c16 (x6.comps.set i1 (setV0 c1 ob.x))⟩, ⟨(some 23), none, [], [], fun _ => rowF CompF 73 p15 c16 ((x6.comps.set i1 (setV0 c1 ob.x)).set i1 (setV1 (setV0 c1 ob.x) ob.y))⟩] [(8, .pointer (some ((ba p15).add (i1 * 5)))), (3, pp b2 0), (12, Nx (ib)), (4, pp b3 0), (5, pp b4 0), (9, .pointer (optP p15 x6.comps 2)), (10, pp b20 0), (17, sB va es (vc)), (18, Nx (es.length)), (19, Nx (k))] [1, 3, 4, 5, 6, 2, 7, 8, 9] [] (by kernel_rfl) (by kernel_rfl) (by kernel_rfl) (by kernel_rfl) rfl ⟨rfl, rfl, rfl, rfl, rfl, rfl, rfl, rfl, rfl, rfl, trivial⟩ ⟨?_, ?_, ?_, ?_, ?_, ?_, ?_, ?_, ?_, ?_, ?_, ?_, ?_, ?_, ?_, ?_, ?_, ?_, ?_, ?_, ?_, ?_, ?_, ?_, trivial⟩ ?_
  ·rintro f M - ⟨i0, -⟩
   exact ob0 (up_cons (d := 8) rfl i0) rfl e_move (.refl _)
  ·rintro f M - ⟨i0, -⟩
   exact ob0 (up_cons (d := 8) rfl i0) rfl e_move (.refl _)
  ·rintro f M - ⟨i0, -⟩
   exact ob0 (up_cons (d := 3) rfl i0) rfl (e_fieldPt rfl tf49) (.refl _)
  ·rintro f M ⟨k0, -⟩ -
   exact obv (L' := pt b2 (.cells #[sB bva B (bvc), rv, Ix (gx), Ix (gy)] 27) :: M) (up_cons (d := 66) rfl k0) rfl (e_load1 tf50 rfl (k_pt 0 rfl rfl)) (perm_front 0 rfl) (by rfl)
  ·rintro f M - ⟨i0, -⟩
   exact ob0 (up_cons (d := 12) rfl i0) rfl e_move (.refl _)
  ·rintro f M ⟨k0, k1, -⟩ -
   exact ob0 (up_cons (d := 68) (up_cons (d := 67) rfl k0) k1) rfl (e_indexAddr (k := ib) (len := B.length) (cap := bvc) (a := bva) rfl rfl tf43 (by omega) hao) (.refl _)
  ·rintro f M ⟨k0, -⟩ -
   exact ob0 (up_cons (d := 69) rfl k0) rfl (e_fieldAddr (a := (ba bva).add (ib * 9)) rfl tf6) (.refl _)
  ·rintro f M ⟨k0, -⟩ -
   exact ob0 (up_cons (d := 70) rfl k0) rfl (e_fieldAddr (a := ((ba bva).add (ib * 9) : Addr).add 1) rfl tf7) (.refl _)
  ·rintro f M ⟨k0, -⟩ -
   exact ob0 (up_cons (d := 71) rfl k0) rfl (e_load1 tf2 rfl (Knows.imp (Knows.imp (kB hco) (fun _ h => Cs.sub (vs := [Ix (ob.x), Ix (ob.y)]) 1 h rfl)) (fun _ h => Cs.sub (vs := [Ix (ob.x)]) 0 h rfl))) (.refl _)
  ·rintro f M - ⟨i0, -⟩
   exact ob0 (up_cons (d := 3) rfl i0) rfl (e_fieldPt rfl tf49) (.refl _)
  ·rintro f M ⟨k0, -⟩ -
   exact obv (L' := pt b2 (.cells #[sB bva B (bvc), rv, Ix (gx), Ix (gy)] 27) :: M) (up_cons (d := 73) rfl k0) rfl (e_load1 tf50 rfl (k_pt 0 rfl rfl)) (perm_front 0 rfl) (by rfl)
  ·rintro f M - ⟨i0, -⟩
   exact ob0 (up_cons (d := 12) rfl i0) rfl e_move (.refl _)
  ·rintro f M ⟨k0, k1, -⟩ -
   exact ob0 (up_cons (d := 75) (up_cons (d := 74) rfl k0) k1) rfl (e_indexAddr (k := ib) (len := B.length) (cap := bvc) (a := bva) rfl rfl tf43 (by omega) hao) (.refl _)
  ·rintro f M ⟨k0, -⟩ -
   exact ob0 (up_cons (d := 76) rfl k0) rfl (e_fieldAddr (a := (ba bva).add (ib * 9)) rfl tf6) (.refl _)
  ·rintro f M ⟨k0, -⟩ -
   exact ob0 (up_cons (d := 77) rfl k0) rfl (e_fieldAddr (a := ((ba bva).add (ib * 9) : Addr).add 1) rfl tf8) (.refl _)
  ·rintro f M ⟨k0, -⟩ -
   exact ob0 (up_cons (d := 78) rfl k0) rfl (e_load1 tf2 rfl (Knows.imp (Knows.imp (kB hco) (fun _ h => Cs.sub (vs := [Ix (ob.x), Ix (ob.y)]) 1 h rfl)) (fun _ h => Cs.sub (vs := [Ix (ob.y)]) 1 h rfl))) (.refl _)
  ·rintro f M ⟨k0, -⟩ -
   exact ob0 (up_cons (d := 64) rfl k0) rfl (e_nil (a := (ba p15).add (i1 * 5)) rfl) (.refl _)
  ·rintro f M ⟨k0, -⟩ -
   exact ob0 (up_cons (d := 80) rfl k0) rfl (ev_eq (congrArg (fun z => Value.pointer (some z)) (show ((ba p15).add (i1 * 5) : Addr).add 1 = (ba p15).add (i1 * 5 + 1) by rw [Addr.add_add'])) (e_fieldAddr (a := (ba p15).add (i1 * 5)) rfl tg125)) (.refl _)
  ·rintro f M ⟨k0, -⟩ -
   exact ob0 (up_cons (d := 81) rfl k0) rfl (ev_eq (congrArg (fun z => Value.pointer (some z)) (show ((ba p15).add (i1 * 5 + 1) : Addr).add (0 * 1) = (ba p15).add (i1 * 5 + 1) by rw [Addr.add_add'] <;> rfl)) (e_indexArr (a := (ba p15).add (i1 * 5 + 1)) (k := 0) rfl rfl tg126 (by decide))) (.refl _)
  ·rintro f M ⟨k0, k1, -⟩ -
   refine ob_start (L' := rowF CompF 73 p15 c16 x6.comps :: M) (by rfl) (up_cons (d := 72) (up_cons (d := 82) rfl k0) k1) ?_
   refine lu (m_storeFlPart 0 (F := CompF) (p := p15) (k := i1) (o := 1) (xs := x6.comps) (z0 := c1) (z := (setV0 c1 ob.x)) tf2 rfl rfl rfl rfl rfl hi1 (by decide) rfl) ?_
   refine l_nil ?_
   exact f_owes_n (up_cons (d := 72) (up_cons (d := 82) rfl k0) k1) trivial (perm_front 0 rfl)
  ·rintro f M ⟨k0, -⟩ -
   exact ob0 (up_cons (d := 65) rfl k0) rfl (e_nil (a := (ba p15).add (i1 * 5)) rfl) (.refl _)
  ·rintro f M ⟨k0, -⟩ -
   exact ob0 (up_cons (d := 83) rfl k0) rfl (ev_eq (congrArg (fun z => Value.pointer (some z)) (show ((ba p15).add (i1 * 5) : Addr).add 1 = (ba p15).add (i1 * 5 + 1) by rw [Addr.add_add'])) (e_fieldAddr (a := (ba p15).add (i1 * 5)) rfl tg125)) (.refl _)
  ·rintro f M ⟨k0, -⟩ -
   exact ob0 (up_cons (d := 84) rfl k0) rfl (ev_eq (congrArg (fun z => Value.pointer (some z)) (show ((ba p15).add (i1 * 5 + 1) : Addr).add (1 * 1) = (ba p15).add (i1 * 5 + 2) by rw [Addr.add_add'] <;> rfl)) (e_indexArr (a := (ba p15).add (i1 * 5 + 1)) (k := 1) rfl rfl tg126 (by decide))) (.refl _)
  ·rintro f M ⟨k0, k1, -⟩ -
   refine ob_start (L' := rowF CompF 73 p15 c16 (x6.comps.set i1 (setV0 c1 ob.x)) :: M) (by rfl) (up_cons (d := 79) (up_cons (d := 85) rfl k0) k1) ?_
   refine lu (m_storeFlPart 0 (F := CompF) (p := p15) (k := i1) (o := 2) (xs := (x6.comps.set i1 (setV0 c1 ob.x))) (z0 := (setV0 c1 ob.x)) (z := (setV1 (setV0 c1 ob.x) ob.y)) tf2 rfl rfl rfl rfl rfl (get_set (setV0 c1 ob.x) (by first | omega | (simp only [List.length_set]; omega))) (by decide) rfl) ?_
   refine l_nil ?_
   exact f_owes_n (up_cons (d := 79) (up_cons (d := 85) rfl k0) k1) trivial (perm_front 0 rfl)
  rintro fa33 ⟨-, -, -, -, -, -, -, -, -, -, -, -, -, -, -, -, -, -, -, -, -, -, -, -, -⟩ ⟨j0, j1, j2, j3, j4, j5, j6, j7, j8, -⟩
  refine f_re (L' := [pt b20 (.cells (bC (bodyD (x6.id) x6.comps)) 31), pt b17 (.cells #[Ix (x6.id), sB p15 x6.comps c16] 76), pt b14 (.cells #[Ix (x6.id), sB p15 x6.comps c16] 76), goodR hd ((es.take k).map (backE B)), rowF HdF 76 rp18 rc19 (hd ++ [(⟨(x6.id), p15, x6.comps.length, c16⟩ : KHd)]), pt b4 (.cells #[Ix (tick), sB rp18 (hd ++ [(⟨(x6.id), p15, x6.comps.length, c16⟩ : KHd)]) rc19] 70), pt b3 (.cells #[.int .i64 (0), .slice none 0 0] 70), pt b2 (.cells #[sB bva B (bvc), rv, Ix (gx), Ix (gy)] 27), pt b1 (.cells #[Ix (tick), sB va es (vc)] 70), rowF CompF 73 p15 c16 ((x6.comps.set i1 (setV0 c1 ob.x)).set i1 (setV1 (setV0 c1 ob.x) ob.y))]) (by rfl) ?_
  refine f_rebase (d := 3) j0 ?_
  refine f_rebase (d := 4) j1 ?_
  refine f_rebase (d := 5) j2 ?_
  refine f_rebase (d := 9) j3 ?_
  refine f_rebase (d := 10) j4 ?_
  refine f_rebase (d := 12) j5 ?_
  refine f_rebase (d := 17) j6 ?_
  refine f_rebase (d := 18) j7 ?_
  refine f_rebase (d := 19) j8 ?_
  refine ftc ?_
  refine lv (v := pp b20 8) (e_fieldPt rfl tf14) ?_
  refine lv (v := .bool ((bodyD (x6.id) x6.comps).fixed)) (e_load1 tf13 rfl (k_pt 0 rfl rfl)) ?_
  refine lv (v := .bool (!((bodyD (x6.id) x6.comps).fixed))) (e_not rfl) ?_
  refine lnf ?_
  refine c_ifb (!((bodyD (x6.id) x6.comps).fixed)) rfl (fun hc34 => ?_) (fun hc34 => ?_)
  ·have hfx : (bodyD x6.id x6.comps).fixed = false := by simpa using hc34
   have hN2 := body_has2 (a := p15) h0 hfx
   obtain ⟨i2, c2, hi2, hk2, hx2, hp2, hf2⟩ := optP_some hN2
   have hl2 := (List.getElem?_eq_some_iff.1 hi2).1
   rw [hp2]
   have hij : i1 ≠ i2 := idx_ne hi1 hi2 hk1 hk2
   refine c_any [⟨[], [], [0], [89], fun f => f 89 = .pointer (some ((ba p15).add (i2 * 5)))⟩, ⟨[], [], [0], [90], fun f => f 90 = .pointer (some ((ba p15).add (i2 * 5)))⟩, ⟨[], [], [1], [91], fun f => f 91 = pp b2 0⟩, ⟨[2], [2], [], [92], fun f => f 92 = sB bva B (bvc)⟩, ⟨[], [], [2], [93], fun f => f 93 = Nx (ib)⟩, ⟨[2, 3, 4], [3, 4], [], [94], fun f => f 94 = .pointer (some ((ba bva).add (ib * 9)))⟩, ⟨[2, 3, 4, 5], [5], [], [95], fun f => f 95 = .pointer (some (((ba bva).add (ib * 9) : Addr).add 3))⟩, ⟨[2, 3, 4, 5, 6], [6], [], [96], fun f => f 96 = .pointer (some ((((ba bva).add (ib * 9) : Addr).add 3 : Addr).add 0))⟩, ⟨[2, 3, 4, 5, 6, 7], [7], [], [97], fun f => f 97 = Ix (ob.vx)⟩, ⟨[], [], [1], [98], fun f => f 98 = pp b2 0⟩, ⟨[9], [9], [], [99], fun f => f 99 = sB bva B (bvc)⟩, ⟨[], [], [2], [100], fun f => f 100 = Nx (ib)⟩, ⟨[9, 10, 11], [10, 11], [], [101], fun f => f 101 = .pointer (some ((ba bva).add (ib * 9)))⟩, ⟨[9, 10, 11, 12], [12], [], [102], fun f => f 102 = .pointer (some (((ba bva).add (ib * 9) : Addr).add 3))⟩, ⟨[9, 10, 11, 12, 13], [13], [], [103], fun f => f 103 = .pointer (some ((((ba bva).add (ib * 9) : Addr).add 3 : Addr).add 1))⟩, ⟨[9, 10, 11, 12, 13, 14], [14], [], [104], fun f => f 104 = Ix (ob.vy)⟩, ⟨[0], [0], [], [105], fun f => f 105 = .pointer (some ((ba p15).add (i2 * 5)))⟩, ⟨[0, 16], [16], [], [106], fun f => f 106 = .pointer (some ((ba p15).add (i2 * 5 + 1)))⟩, ⟨[0, 2, 3, 4, 5, 6, 7, 8, 9, 10, 11, 12, 13, 14, 15, 16, 17], [17], [], [107], fun f => f 107 = .pointer (some ((ba p15).add (i2 * 5 + 1)))⟩, ⟨[0, 2, 3, 4, 5, 6, 7, 8, 9, 10, 11, 12, 13, 14, 15, 16, 17, 18], [18, 8], [], [], fun _ => True⟩, ⟨[1], [1], [], [108], fun f => f 108 = .pointer (some ((ba p15).add (i2 * 5)))⟩, ⟨[1, 20], [20], [], [109], fun f => f 109 = .pointer (some ((ba p15).add (i2 * 5 + 1)))⟩, ⟨(List.range 22), [21], [], [110], fun f => f 110 = .pointer (some ((ba p15).add (i2 * 5 + 2)))⟩, ⟨(List.range 23), [22, 15], [], [], fun _ => True⟩] [⟨none, none, [], [], fun _ => pt b20 (.cells (bC (bodyD (x6.id) x6.comps)) 31)⟩, ⟨none, none, [], [], fun _ => pt b17 (.cells #[Ix (x6.id), sB p15 x6.comps c16] 76)⟩, ⟨none, none, [], [], fun _ => pt b14 (.cells #[Ix (x6.id), sB p15 x6.comps c16] 76)⟩, ⟨none, none, [], [], fun _ => goodR hd ((es.take k).map (backE B))⟩, ⟨none, none, [], [], fun _ => rowF HdF 76 rp18 rc19 (hd ++ [(⟨(x6.id), p15, x6.comps.length, c16⟩ : KHd)])⟩, ⟨none, none, [], [], fun _ => pt b4 (.cells #[Ix (tick), sB rp18 (hd ++ [(⟨(x6.id), p15, x6.comps.length, c16⟩ : KHd)]) rc19] 70)⟩, ⟨none, none, [], [], fun _ => pt b3 (.cells #[.int .i64 (0), .slice none 0 0] 70)⟩, ⟨none, none, [3, 10], [], fun _ => pt b2 (.cells #[sB bva B (bvc), rv, Ix (gx), Ix (gy)] 27)⟩, ⟨none, none, [], [], fun _ => pt b1 (.cells #[Ix (tick), sB va es (vc)] 70)⟩, ⟨none, (some 19), [19], [], fun _ => rowF CompF 73 p15 c16 ((x6.comps.set i1 (setV0 c1 ob.x)).set i1 (setV1 (setV0 c1 ob.x) ob.y))⟩, ⟨(some 19), (some 23), [23], [], fun _ => rowF CompF 73 p15 c16 (((x6.comps.set i1 (setV0 c1 ob.x)).set i1 (setV1 (setV0 c1 ob.x) ob.y)).set i2 (setV0 c2 ob.vx))⟩, ⟨(some 23), none, [], [], fun _ => rowF CompF 73 p15 c16 ((((x6.comps.set i1 (setV0 c1 ob.x)).set i1 (setV1 (setV0 c1 ob.x) ob.y)).set i2 (setV0 c2 ob.vx)).set i2 (setV1 (setV0 c2 ob.vx) ob.vy))⟩] [(9, .pointer (some ((ba p15).add (i2 * 5)))), (3, pp b2 0), (12, Nx (ib)), (4, pp b3 0), (5, pp b4 0), (17, sB va es (vc)), (18, Nx (es.length)), (19, Nx (k))] [1, 3, 4, 5, 6, 7] [] (by kernel_rfl) (by kernel_rfl) (by kernel_rfl) (by kernel_rfl) rfl ⟨rfl, rfl, rfl, rfl, rfl, rfl, rfl, rfl, trivial⟩ ⟨?_, ?_, ?_, ?_, ?_, ?_, ?_, ?_, ?_, ?_, ?_, ?_, ?_, ?_, ?_, ?_, ?_, ?_, ?_, ?_, ?_, ?_, ?_, ?_, trivial⟩ ?_
   ·rintro f M - ⟨i0, -⟩
    exact ob0 (up_cons (d := 9) rfl i0) rfl e_move (.refl _)
   ·rintro f M - ⟨i0, -⟩
    exact ob0 (up_cons (d := 9) rfl i0) rfl e_move (.refl _)
   ·rintro f M - ⟨i0, -⟩
    exact ob0 (up_cons (d := 3) rfl i0) rfl (e_fieldPt rfl tf49) (.refl _)
   ·rintro f M ⟨k0, -⟩ -
    exact obv (L' := pt b2 (.cells #[sB bva B (bvc), rv, Ix (gx), Ix (gy)] 27) :: M) (up_cons (d := 91) rfl k0) rfl (e_load1 tf50 rfl (k_pt 0 rfl rfl)) (perm_front 0 rfl) (by rfl)
   ·rintro f M - ⟨i0, -⟩
    exact ob0 (up_cons (d := 12) rfl i0) rfl e_move (.refl _)
   ·rintro f M ⟨k0, k1, -⟩ -
    exact ob0 (up_cons (d := 93) (up_cons (d := 92) rfl k0) k1) rfl (e_indexAddr (k := ib) (len := B.length) (cap := bvc) (a := bva) rfl rfl tf43 (by omega) hao) (.refl _)
   ·rintro f M ⟨k0, -⟩ -
    exact ob0 (up_cons (d := 94) rfl k0) rfl (e_fieldAddr (a := (ba bva).add (ib * 9)) rfl tf9) (.refl _)
   ·rintro f M ⟨k0, -⟩ -
    exact ob0 (up_cons (d := 95) rfl k0) rfl (e_fieldAddr (a := ((ba bva).add (ib * 9) : Addr).add 3) rfl tf7) (.refl _)
   ·rintro f M ⟨k0, -⟩ -
    exact ob0 (up_cons (d := 96) rfl k0) rfl (e_load1 tf2 rfl (Knows.imp (Knows.imp (kB hco) (fun _ h => Cs.sub (vs := [Ix (ob.vx), Ix (ob.vy)]) 3 h rfl)) (fun _ h => Cs.sub (vs := [Ix (ob.vx)]) 0 h rfl))) (.refl _)
   ·rintro f M - ⟨i0, -⟩
    exact ob0 (up_cons (d := 3) rfl i0) rfl (e_fieldPt rfl tf49) (.refl _)
   ·rintro f M ⟨k0, -⟩ -
    exact obv (L' := pt b2 (.cells #[sB bva B (bvc), rv, Ix (gx), Ix (gy)] 27) :: M) (up_cons (d := 98) rfl k0) rfl (e_load1 tf50 rfl (k_pt 0 rfl rfl)) (perm_front 0 rfl) (by rfl)
   ·rintro f M - ⟨i0, -⟩
    exact ob0 (up_cons (d := 12) rfl i0) rfl e_move (.refl _)
   ·rintro f M ⟨k0, k1, -⟩ -
    exact ob0 (up_cons (d := 100) (up_cons (d := 99) rfl k0) k1) rfl (e_indexAddr (k := ib) (len := B.length) (cap := bvc) (a := bva) rfl rfl tf43 (by omega) hao) (.refl _)
   ·rintro f M ⟨k0, -⟩ -
    exact ob0 (up_cons (d := 101) rfl k0) rfl (e_fieldAddr (a := (ba bva).add (ib * 9)) rfl tf9) (.refl _)
   ·rintro f M ⟨k0, -⟩ -
    exact ob0 (up_cons (d := 102) rfl k0) rfl (e_fieldAddr (a := ((ba bva).add (ib * 9) : Addr).add 3) rfl tf8) (.refl _)
   ·rintro f M ⟨k0, -⟩ -
    exact ob0 (up_cons (d := 103) rfl k0) rfl (e_load1 tf2 rfl (Knows.imp (Knows.imp (kB hco) (fun _ h => Cs.sub (vs := [Ix (ob.vx), Ix (ob.vy)]) 3 h rfl)) (fun _ h => Cs.sub (vs := [Ix (ob.vy)]) 1 h rfl))) (.refl _)
   ·rintro f M ⟨k0, -⟩ -
    exact ob0 (up_cons (d := 89) rfl k0) rfl (e_nil (a := (ba p15).add (i2 * 5)) rfl) (.refl _)
   ·rintro f M ⟨k0, -⟩ -
    exact ob0 (up_cons (d := 105) rfl k0) rfl (ev_eq (congrArg (fun z => Value.pointer (some z)) (show ((ba p15).add (i2 * 5) : Addr).add 1 = (ba p15).add (i2 * 5 + 1) by rw [Addr.add_add'])) (e_fieldAddr (a := (ba p15).add (i2 * 5)) rfl tg125)) (.refl _)
   ·rintro f M ⟨k0, -⟩ -
    exact ob0 (up_cons (d := 106) rfl k0) rfl (ev_eq (congrArg (fun z => Value.pointer (some z)) (show ((ba p15).add (i2 * 5 + 1) : Addr).add (0 * 1) = (ba p15).add (i2 * 5 + 1) by rw [Addr.add_add'] <;> rfl)) (e_indexArr (a := (ba p15).add (i2 * 5 + 1)) (k := 0) rfl rfl tg126 (by decide))) (.refl _)
   ·rintro f M ⟨k0, k1, -⟩ -
    refine ob_start (L' := rowF CompF 73 p15 c16 ((x6.comps.set i1 (setV0 c1 ob.x)).set i1 (setV1 (setV0 c1 ob.x) ob.y)) :: M) (by rfl) (up_cons (d := 97) (up_cons (d := 107) rfl k0) k1) ?_
    refine lu (m_storeFlPart 0 (F := CompF) (p := p15) (k := i2) (o := 1) (xs := ((x6.comps.set i1 (setV0 c1 ob.x)).set i1 (setV1 (setV0 c1 ob.x) ob.y))) (z0 := c2) (z := (setV0 c2 ob.vx)) tf2 rfl rfl rfl rfl rfl (set_ne (by first | assumption | (apply Ne.symm; assumption)) (set_ne (by first | assumption | (apply Ne.symm; assumption)) hi2)) (by decide) rfl) ?_
    refine l_nil ?_
    exact f_owes_n (up_cons (d := 97) (up_cons (d := 107) rfl k0) k1) trivial (perm_front 0 rfl)
   ·rintro f M ⟨k0, -⟩ -
    exact ob0 (up_cons (d := 90) rfl k0) rfl (e_nil (a := (ba p15).add (i2 * 5)) rfl) (.refl _)
   ·rintro f M ⟨k0, -⟩ -
    exact ob0 (up_cons (d := 108) rfl k0) rfl (ev_eq (congrArg (fun z => Value.pointer (some z)) (show ((ba p15).add (i2 * 5) : Addr).add 1 = (ba p15).add (i2 * 5 + 1) by rw [Addr.add_add'])) (e_fieldAddr (a := (ba p15).add (i2 * 5)) rfl tg125)) (.refl _)
   ·rintro f M ⟨k0, -⟩ -
    exact ob0 (up_cons (d := 109) rfl k0) rfl (ev_eq (congrArg (fun z => Value.pointer (some z)) (show ((ba p15).add (i2 * 5 + 1) : Addr).add (1 * 1) = (ba p15).add (i2 * 5 + 2) by rw [Addr.add_add'] <;> rfl)) (e_indexArr (a := (ba p15).add (i2 * 5 + 1)) (k := 1) rfl rfl tg126 (by decide))) (.refl _)
   ·rintro f M ⟨k0, k1, -⟩ -
    refine ob_start (L' := rowF CompF 73 p15 c16 (((x6.comps.set i1 (setV0 c1 ob.x)).set i1 (setV1 (setV0 c1 ob.x) ob.y)).set i2 (setV0 c2 ob.vx)) :: M) (by rfl) (up_cons (d := 104) (up_cons (d := 110) rfl k0) k1) ?_
    refine lu (m_storeFlPart 0 (F := CompF) (p := p15) (k := i2) (o := 2) (xs := (((x6.comps.set i1 (setV0 c1 ob.x)).set i1 (setV1 (setV0 c1 ob.x) ob.y)).set i2 (setV0 c2 ob.vx))) (z0 := (setV0 c2 ob.vx)) (z := (setV1 (setV0 c2 ob.vx) ob.vy)) tf2 rfl rfl rfl rfl rfl (get_set (setV0 c2 ob.vx) (by first | omega | (simp only [List.length_set]; omega))) (by decide) rfl) ?_
    refine l_nil ?_
    exact f_owes_n (up_cons (d := 104) (up_cons (d := 110) rfl k0) k1) trivial (perm_front 0 rfl)
   rintro fa35 ⟨-, -, -, -, -, -, -, -, -, -, -, -, -, -, -, -, -, -, -, -, -, -, -, -, -⟩ ⟨j0, j1, j2, j3, j4, j5, -⟩
   refine f_re (L' := [pt b20 (.cells (bC (bodyD (x6.id) x6.comps)) 31), pt b17 (.cells #[Ix (x6.id), sB p15 x6.comps c16] 76), pt b14 (.cells #[Ix (x6.id), sB p15 x6.comps c16] 76), goodR hd ((es.take k).map (backE B)), rowF HdF 76 rp18 rc19 (hd ++ [(⟨(x6.id), p15, x6.comps.length, c16⟩ : KHd)]), pt b4 (.cells #[Ix (tick), sB rp18 (hd ++ [(⟨(x6.id), p15, x6.comps.length, c16⟩ : KHd)]) rc19] 70), pt b3 (.cells #[.int .i64 (0), .slice none 0 0] 70), pt b2 (.cells #[sB bva B (bvc), rv, Ix (gx), Ix (gy)] 27), pt b1 (.cells #[Ix (tick), sB va es (vc)] 70), rowF CompF 73 p15 c16 ((((x6.comps.set i1 (setV0 c1 ob.x)).set i1 (setV1 (setV0 c1 ob.x) ob.y)).set i2 (setV0 c2 ob.vx)).set i2 (setV1 (setV0 c2 ob.vx) ob.vy))]) (by rfl) ?_
   refine f_rebase (d := 3) j0 ?_
   refine f_rebase (d := 4) j1 ?_
   refine f_rebase (d := 5) j2 ?_
   refine f_rebase (d := 17) j3 ?_
   refine f_rebase (d := 18) j4 ?_
   refine f_rebase (d := 19) j5 ?_
   refine f_block ?_
   refine f_then ?_
   refine c_region ?_
   refine lv (v := Nx (k + 1)) (e_add (a := ((k : Nat) : Int)) (b := (1 : Int)) rfl rfl (i64n (by omega) (by omega))) ?_
   refine lv (v := Nx (k + 1)) e_move ?_
   refine l_nil ?_
   have hY : ((((x6.comps.set i1 (setV0 c1 ob.x)).set i1 (setV1 (setV0 c1 ob.x) ob.y)).set i2 (setV0 c2 ob.vx)).set i2 (setV1 (setV0 c2 ob.vx) ob.vy)) = backC B x6.id x6.comps := (by simp only [List.set_set]; exact back_mov h0 (hfo _ hob) hfx hx1 hf1 hx2 hf2)
   refine f_pi [9, 3, 0, 1, 2, 4, 5, 6, 7, 8] 10 rfl (by kernel_rfl) ?_
   refine f_merge (L := [rowF CompF 73 p15 c16 ((((x6.comps.set i1 (setV0 c1 ob.x)).set i1 (setV1 (setV0 c1 ob.x) ob.y)).set i2 (setV0 c2 ob.vx)).set i2 (setV1 (setV0 c2 ob.vx) ob.vy)), goodR hd ((es.take k).map (backE B))]) (M := [pt b20 (.cells (bC (bodyD (x6.id) x6.comps)) 31), pt b17 (.cells #[Ix (x6.id), sB p15 x6.comps c16] 76), pt b14 (.cells #[Ix (x6.id), sB p15 x6.comps c16] 76), rowF HdF 76 rp18 rc19 (hd ++ [(⟨(x6.id), p15, x6.comps.length, c16⟩ : KHd)]), pt b4 (.cells #[Ix (tick), sB rp18 (hd ++ [(⟨(x6.id), p15, x6.comps.length, c16⟩ : KHd)]) rc19] 70), pt b3 (.cells #[.int .i64 (0), .slice none 0 0] 70), pt b2 (.cells #[sB bva B (bvc), rv, Ix (gx), Ix (gy)] 27), pt b1 (.cells #[Ix (tick), sB va es (vc)] 70)]) (r := goodR (hd ++ [(⟨(x6.id), p15, x6.comps.length, c16⟩ : KHd)]) ((es.take (k + 1)).map (backE B))) (by rw [← back_next hx7 hY]; exact good_merge (by rw [hY, back_len])) ?_
   refine f_mask (L' := [goodR (hd ++ [(⟨(x6.id), p15, x6.comps.length, c16⟩ : KHd)]) ((es.take (k + 1)).map (backE B)), rowF HdF 76 rp18 rc19 (hd ++ [(⟨(x6.id), p15, x6.comps.length, c16⟩ : KHd)]), pt b4 (.cells #[Ix (tick), sB rp18 (hd ++ [(⟨(x6.id), p15, x6.comps.length, c16⟩ : KHd)]) rc19] 70), pt b3 (.cells #[.int .i64 (0), .slice none 0 0] 70), pt b2 (.cells #[sB bva B (bvc), rv, Ix (gx), Ix (gy)] 27), pt b1 (.cells #[Ix (tick), sB va es (vc)] 70)]) [true, false, false, false, true, true, true, true, true] rfl ?_
   exact f_cut ⟨(k + 1, (hd ++ [(⟨(x6.id), p15, x6.comps.length, c16⟩ : KHd)]), rp18, rc19), ⟨⟨rfl, rfl, rfl, rfl, rfl, rfl⟩, rfl, ⟨by omega, by rw [List.length_append]; simp only [sB, rB, List.length_cons, List.length_nil]; omega⟩⟩, (show es.length - (k + 1) < es.length - k from by omega)⟩
  have hfx : (bodyD x6.id x6.comps).fixed = true := by simpa using hc34
  refine c_skip ?_
  refine f_block ?_
  refine f_then ?_
  refine c_region ?_
  refine lv (v := Nx (k + 1)) (e_add (a := ((k : Nat) : Int)) (b := (1 : Int)) rfl rfl (i64n (by omega) (by omega))) ?_
  refine lv (v := Nx (k + 1)) e_move ?_
  refine l_nil ?_
  have hY : ((x6.comps.set i1 (setV0 c1 ob.x)).set i1 (setV1 (setV0 c1 ob.x) ob.y)) = backC B x6.id x6.comps := (by simp only [List.set_set]; exact back_fix h0 (hfo _ hob) hfx hx1 hf1)
  refine f_pi [9, 3, 0, 1, 2, 4, 5, 6, 7, 8] 10 rfl (by kernel_rfl) ?_
  refine f_merge (L := [rowF CompF 73 p15 c16 ((x6.comps.set i1 (setV0 c1 ob.x)).set i1 (setV1 (setV0 c1 ob.x) ob.y)), goodR hd ((es.take k).map (backE B))]) (M := [pt b20 (.cells (bC (bodyD (x6.id) x6.comps)) 31), pt b17 (.cells #[Ix (x6.id), sB p15 x6.comps c16] 76), pt b14 (.cells #[Ix (x6.id), sB p15 x6.comps c16] 76), rowF HdF 76 rp18 rc19 (hd ++ [(⟨(x6.id), p15, x6.comps.length, c16⟩ : KHd)]), pt b4 (.cells #[Ix (tick), sB rp18 (hd ++ [(⟨(x6.id), p15, x6.comps.length, c16⟩ : KHd)]) rc19] 70), pt b3 (.cells #[.int .i64 (0), .slice none 0 0] 70), pt b2 (.cells #[sB bva B (bvc), rv, Ix (gx), Ix (gy)] 27), pt b1 (.cells #[Ix (tick), sB va es (vc)] 70)]) (r := goodR (hd ++ [(⟨(x6.id), p15, x6.comps.length, c16⟩ : KHd)]) ((es.take (k + 1)).map (backE B))) (by rw [← back_next hx7 hY]; exact good_merge (by rw [hY, back_len])) ?_
  refine f_mask (L' := [goodR (hd ++ [(⟨(x6.id), p15, x6.comps.length, c16⟩ : KHd)]) ((es.take (k + 1)).map (backE B)), rowF HdF 76 rp18 rc19 (hd ++ [(⟨(x6.id), p15, x6.comps.length, c16⟩ : KHd)]), pt b4 (.cells #[Ix (tick), sB rp18 (hd ++ [(⟨(x6.id), p15, x6.comps.length, c16⟩ : KHd)]) rc19] 70), pt b3 (.cells #[.int .i64 (0), .slice none 0 0] 70), pt b2 (.cells #[sB bva B (bvc), rv, Ix (gx), Ix (gy)] 27), pt b1 (.cells #[Ix (tick), sB va es (vc)] 70)]) [true, false, false, false, true, true, true, true, true] rfl ?_
  exact f_cut ⟨(k + 1, (hd ++ [(⟨(x6.id), p15, x6.comps.length, c16⟩ : KHd)]), rp18, rc19), ⟨⟨rfl, rfl, rfl, rfl, rfl, rfl⟩, rfl, ⟨by omega, by rw [List.length_append]; simp only [sB, rB, List.length_cons, List.length_nil]; omega⟩⟩, (show es.length - (k + 1) < es.length - k from by omega)⟩
 refine c_exit ?_
 refine f_then_exit ?_
 refine f_then_exit ?_
 refine f_exit ?_
 refine ftc ?_
 refine lv (v := .agg #[Ix (tick), sB p hd c]) (e_load tg139 rfl (k_pt 2 rfl rfl) rfl) ?_
 refine lu (m_store 3 tg139 (cs' := #[Ix (tick), sB p hd c]) rfl rfl rfl rfl rfl rfl rfl) ?_
 refine lnf ?_
 refine c_ret ?_
 refine retG (m := [.agg #[Ix (tick), sB p hd c]]) Tryd.results58 ⟨rd_cell tg139 rfl (k_pt 3 rfl rfl) rfl, trivial⟩ rfl ?_
 intro w hw
 have hw2 := st_mask (L' := [goodR hd ((es.take k).map (backE B)), rowF HdF 76 p c hd]) [true, true, false, false, false, false] rfl hw
 replace hw2 := hw2.perm (List.Perm.swap _ _ _)
 have hw3 := St.merge (M := []) hw2 ents_merge
 rw [List.take_of_length_le (by omega)] at hw3
 exact ⟨p, c, congrArg (fun n => Ending.returned (.agg #[Ix tick, .slice p n c])) (show hd.length = es.length by omega), hw3⟩
theorem worldY_ok (β : Base) (w : World) (hw : St β [] w) (tick : Int) (v rv : Value) (gx gy : Int) (es : List KEnt) (rs : List KR) (hs : Sl EntR β.heap v es) (hr : Sl KRR β.heap rv rs) (hn : es.length ≤ 65536) (hrn : rs.length ≤ 65536) (hcl : ∀ e ∈ es, e.comps.length ≤ 65536) (hgx : -9223372036854775808 ≤ gx ∧ gx ≤ 9223372036854775807) (hgy : -9223372036854775808 ≤ gy ∧ gy ≤ 9223372036854775807) (hG : GR β) (hokS : okS (bodiesOf es) (ropesOf (bodiesOf es) rs) gx gy) (T : List KB) (S : List KS) (hTS : stepsTo (ropesOf (bodiesOf es) rs) gx gy (bodiesOf es) (bodiesOf es).length = (T, S)) : Calls Tryd.prog 32 #[.agg #[Ix tick, v], rv, .agg #[Ix gx, Ix gy]] w fun r w' => ∃ p c sp sc, r = .returned (.tuple #[.agg #[Ix tick, sB p es c], sB sp S sc, .int .i64 (0)]) ∧ St β [entsR p c (es.map (backE T)), rowF StopF 45 sp sc S] w' := by
 have hTl : T.length = (bodiesOf es).length := by have h := (step_keeps (rs := ropesOf (bodiesOf es) rs) (gx := gx) (gy := gy) hokS.2.2.2.1 (bodiesOf es).length).1.len; rw [hTS] at h; exact h
 refine enter (n := 29) Tryd.func32 rfl Tryd.ntmps32 rfl ?_ hw
 refine csr ?_
 refine l_mv rfl rfl rfl (m_box (v := .agg #[Ix (tick), v]) rfl) ?_
 rintro _ _ ⟨b1, rfl, rfl⟩
 refine l_mv rfl rfl rfl (m_box (v := .agg #[Ix (gx), Ix (gy)]) rfl) ?_
 rintro _ _ ⟨b2, rfl, rfl⟩
 refine l_mv rfl rfl rfl (m_alloc tg136) ?_
 rintro _ _ ⟨b3, rfl, rfl⟩
 refine lv (v := .slice none 0 0) e_assign ?_
 refine lv (v := .int .i64 (0)) e_assign ?_
 refine lnc ?_
 refine lv (v := .agg #[Ix (tick), v]) (e_load tg139 rfl (k_pt 2 rfl rfl) rfl) ?_
 refine lv (v := rv) e_move ?_
 refine lv (v := .agg #[Ix (gx), Ix (gy)]) (e_load tf15 rfl (k_pt 1 rfl rfl) rfl) ?_
 refine lcf (cl0 (vs := [.agg #[Ix (tick), v], rv, .agg #[Ix (gx), Ix (gy)]]) tg143 rfl rfl) rfl fun w β1 sb kn hw1 back => (worldB_ok β1 w hw1 _ _ _ (gx) (gy) es rs (Sl.mono _ _ _ _ _ sb hs) (Sl.mono _ _ _ _ _ sb hr) hn hrn).mono ?_
 rintro e w' ⟨p4, c5, p6, c7, rfl, hw'⟩
 refine ⟨_, rfl, _, back _ _ hw', ?_⟩
 clear hw1 hw' back kn sb
 refine lcf (cl0 (vs := [.agg #[sB p4 (bodiesOf es) c5, sB p6 (ropesOf (bodiesOf es) rs) c7, Ix (gx), Ix (gy)]]) tf104 rfl rfl) rfl fun w β1 sb kn hw1 back => (stepY_ok β1 w hw1 _ _ gx gy (bodiesOf es) (ropesOf (bodiesOf es) rs) (kn _ (k_flN 0 (F := BodyF) (m := (bodiesOf es).length) (xs := (bodiesOf es)) rfl rfl)) (kn _ (k_flN 1 (F := RopeF) (m := (ropesOf (bodiesOf es) rs).length) (xs := (ropesOf (bodiesOf es) rs)) rfl rfl)) (by omega) (by omega) (GR.mono sb hG) hokS T S hTS).mono ?_
 rintro e w' ⟨p8, c9, p10, c11, p12, c13, rfl, hw'⟩
 refine ⟨_, rfl, _, back _ _ hw', ?_⟩
 clear hw1 hw' back kn sb
 refine lv (v := .tuple #[.agg #[sB p8 (bodiesOf es) c9, sB p10 (ropesOf (bodiesOf es) rs) c11, Ix (gx), Ix (gy)], sB p12 S c13, .int .i64 (0)]) e_move ?_
 refine lv (v := .agg #[sB p8 (bodiesOf es) c9, sB p10 (ropesOf (bodiesOf es) rs) c11, Ix (gx), Ix (gy)]) (e_extract (vs := #[.agg #[sB p8 (bodiesOf es) c9, sB p10 (ropesOf (bodiesOf es) rs) c11, Ix (gx), Ix (gy)], sB p12 S c13, .int .i64 (0)]) rfl rfl) ?_
 refine lv (v := sB p12 S c13) (e_extract (vs := #[.agg #[sB p8 (bodiesOf es) c9, sB p10 (ropesOf (bodiesOf es) rs) c11, Ix (gx), Ix (gy)], sB p12 S c13, .int .i64 (0)]) rfl rfl) ?_
 refine lv (v := .int .i64 (0)) (e_extract (vs := #[.agg #[sB p8 (bodiesOf es) c9, sB p10 (ropesOf (bodiesOf es) rs) c11, Ix (gx), Ix (gy)], sB p12 S c13, .int .i64 (0)]) rfl rfl) ?_
 refine l_mv rfl rfl rfl (m_alloc tf85) ?_
 rintro _ _ ⟨b14, rfl, rfl⟩
 refine lu (m_store 0 tf86 (cs' := #[sB p8 (bodiesOf es) c9, sB p10 (ropesOf (bodiesOf es) rs) c11, Ix (gx), Ix (gy)]) rfl rfl rfl rfl rfl rfl rfl) ?_
 refine lv (v := sB p12 S c13) e_assign ?_
 refine lv (v := .int .i64 (0)) e_assign ?_
 refine lnf ?_
 refine cs2 ?_
 refine c_region ?_
 refine lv (v := .int .i64 (0)) e_move ?_
 refine lv (v := .bool false) (e_neq (a := (0 : Int)) (b := (0 : Int)) rfl rfl) ?_
 refine lnf ?_
 refine c_no rfl ?_
 refine csk ?_
 refine csr ?_
 refine lv (v := .agg #[Ix (tick), v]) (e_load tg139 rfl (k_pt 8 rfl rfl) rfl) ?_
 refine lv (v := .agg #[sB p8 (bodiesOf es) c9, sB p10 (ropesOf (bodiesOf es) rs) c11, Ix (gx), Ix (gy)]) (e_load tf86 rfl (k_pt 0 rfl rfl) rfl) ?_
 refine lcf (cl0 (vs := [.agg #[Ix (tick), v], .agg #[sB p8 (bodiesOf es) c9, sB p10 (ropesOf (bodiesOf es) rs) c11, Ix (gx), Ix (gy)]]) tg144 rfl rfl) rfl fun w β1 sb kn hw1 back => (back_ok β1 w hw1 _ _ _ _ _ _ es T (Sl.mono _ _ _ _ _ sb hs) (kn _ (k_flN 1 (F := BodyF) (m := (bodiesOf es).length) (xs := T) rfl hTl.symm)) hn hcl).mono ?_
 rintro e w' ⟨p15, c16, rfl, hw'⟩
 refine ⟨_, rfl, _, back _ _ hw', ?_⟩
 clear hw1 hw' back kn sb
 refine lv (v := sB p12 S c13) e_move ?_
 refine lu (m_store 7 tg139 (cs' := #[Ix (tick), sB p15 es c16]) rfl rfl rfl rfl rfl rfl rfl) ?_
 refine lv (v := sB p12 S c13) e_assign ?_
 refine lv (v := .int .i64 (0)) e_assign ?_
 refine lnf ?_
 refine c_ret ?_
 refine retG (m := [.agg #[Ix (tick), sB p15 es c16], sB p12 S c13, .int .i64 (0)]) Tryd.results32 ⟨rd_cell tg139 rfl (k_pt 7 rfl rfl) rfl, rd_tmp (v := sB p12 S c13) rfl, rd_tmp (v := .int .i64 (0)) rfl, trivial⟩ rfl ?_
 intro w hw
 have hw2 := st_mask (L' := [entsR p15 c16 (es.map (backE T)), rowF StopF 45 p12 c13 S]) [true, false, false, false, true, false, false, false, false, false] rfl hw
 exact ⟨p15, c16, p12, c13, rfl, hw2⟩
end Go.Proofs
