/-
 The reference's free, Back and World. Printed by a program of my own.
-/
import Derived.Test.YtdkibofhppgbjaaGreatDoorWd1
import Derived.Test.YtdkibofhppgbjaaGreatDoorWdRef
namespace Go.Proofs
open Go Go.Sl Go.Stp
theorem tw45 : (Tryz.prog.info? 24).bind (·.zero) = some (.agg #[.int .i64 (0), .slice none 0 0]) := by kernel_rfl
theorem tw46 : fldB Tryz.prog 24 0 0 1 false = true := by kernel_rfl
theorem tw47 : stB Tryz.prog 24 [(0, 1), (1, 1)] = true := by kernel_rfl
theorem tw48 : tyB Tryz.prog 24 true 2 = true := by kernel_rfl
theorem tw49 : elB Tryz.prog 120 5 40 = true := by kernel_rfl
theorem tw50 : stB Tryz.prog 59 [(0, 1), (1, 1)] = true := by kernel_rfl
theorem tw51 : (Tryz.prog.info? 59).bind (·.zero) = some (.agg #[.int .i64 (0), .slice none 0 0]) := by kernel_rfl
theorem tw52 : cfB Tryz.prog 73 = true := by kernel_rfl
theorem tw53 : elB Tryz.prog 59 2 32 = true := by kernel_rfl
theorem tw54 : fldB Tryz.prog 52 1 1 2 true = true := by kernel_rfl
theorem tw55 : fldB Tryz.prog 28 0 0 1 false = true := by kernel_rfl
theorem tw56 : fldB Tryz.prog 28 1 1 1 false = true := by kernel_rfl
theorem tw57 : cfB Tryz.prog 20 = true := by kernel_rfl
theorem tw58 : cfB Tryz.prog 75 = true := by kernel_rfl
theorem tw59 : cfB Tryz.prog 22 = true := by kernel_rfl
theorem tw60 : cfB Tryz.prog 64 = true := by kernel_rfl
theorem tw61 : cfB Tryz.prog 65 = true := by kernel_rfl
theorem tw62 : cfB Tryz.prog 60 = true := by kernel_rfl
theorem tw63 : Tryz.prog.underlying 121 = some (.pointer (Tryz.prog.pointee 121)) := by kernel_rfl
theorem tw64 : cfB Tryz.prog 66 = true := by kernel_rfl
theorem tw65 : cfB Tryz.prog 67 = true := by kernel_rfl
theorem tw66 : cfB Tryz.prog 18 = true := by kernel_rfl
theorem tw67 : cfB Tryz.prog 9 = true := by kernel_rfl
theorem tw68 : cfB Tryz.prog 19 = true := by kernel_rfl
theorem rfirstN_ok (β : Base) (w : World) (hw : St β [] w) (id : Int) (va : Option Addr) (vc : Nat) (cm : List KComp) {m : Nat} (hm : m = cm.length) (hs : Sl CompR β.heap (.slice va m vc) cm) (kd : UInt8) : Calls Tryz.prog 72 #[.agg #[Ix id, .slice va m vc], Bx kd] w fun r w' => r = .returned (Ix (idxI (fun c : KComp => decide (c.kind = kd)) cm)) ∧ St β [] w' := by subst hm; exact rfirst_ok β w hw id va vc cm hs kd
set_option maxHeartbeats 4000000 in
theorem rfree_ok (β : Base) (w : World) (id : Int) (p : Option Addr) (c : Nat) (cs : List KComp) (hw : St β [rowF CompF 120 p c cs] w) : Calls Tryz.prog 73 #[.agg #[Ix id, .slice p cs.length c]] w fun r w' => r = .returned (.tuple #[]) ∧ St β [rowF CompF 120 p c (freeC cs)] w' := by
 refine enter (n := 106) Tryz.func73 rfl Tryz.ntmps73 rfl ?_ hw
 refine c_seq ?_
 refine c_region ?_
 refine l_mv rfl rfl rfl (m_box (v := .agg #[Ix (id), .slice p (cs.length) c]) rfl) ?_
 rintro _ _ ⟨b1, rfl, rfl⟩
 refine l_nil ?_
 refine f_then ?_
 refine c_seq ?_
 refine c_quiet (by kernel_rfl) (by kernel_rfl) ?_
 refine q_val (v := .agg #[Ix (id), .slice p (cs.length) c]) rfl rfl rfl (e_load tw7 (cs := [Ix (id), .slice p (cs.length) c]) rfl (k_pt 0 (cs := #[Ix (id), .slice p (cs.length) c]) (vs := [Ix (id), .slice p (cs.length) c]) rfl rfl) rfl) ?_
 refine q_call (v := Ix ((idxI (fun c : KComp => decide (c.kind = 1)) cs))) rfl rfl rfl (cl_value (fst := []) (cap := []) (vs := [.agg #[Ix (id), .slice p (cs.length) c], .int .u8 (1)]) (all := [.agg #[Ix (id), .slice p (cs.length) c], .int .u8 (1)]) tw8 rfl rfl rfl) (fun w hw => ?_) ?_
 ·obtain ⟨β1, sb, kn, hw1, back⟩ := St.frame_all hw
  exact (rfirstN_ok β1 w hw1 (id) p c cs (m := cs.length) rfl (kn _ (k_flN 1 (F := CompF) (m := cs.length) (xs := cs) rfl rfl)) 1).mono (fun e w' ⟨he, hw'⟩ => ⟨he, st_mask [true, true] rfl (back _ _ hw')⟩)
 refine q_val (v := .agg #[Ix (id), .slice p (cs.length) c]) rfl rfl rfl (e_load tw7 (cs := [Ix (id), .slice p (cs.length) c]) rfl (k_pt 0 (cs := #[Ix (id), .slice p (cs.length) c]) (vs := [Ix (id), .slice p (cs.length) c]) rfl rfl) rfl) ?_
 refine q_call (v := Ix ((idxI (fun c : KComp => decide (c.kind = 2)) cs))) rfl rfl rfl (cl_value (fst := []) (cap := []) (vs := [.agg #[Ix (id), .slice p (cs.length) c], .int .u8 (2)]) (all := [.agg #[Ix (id), .slice p (cs.length) c], .int .u8 (2)]) tw8 rfl rfl rfl) (fun w hw => ?_) ?_
 ·obtain ⟨β1, sb, kn, hw1, back⟩ := St.frame_all hw
  exact (rfirstN_ok β1 w hw1 (id) p c cs (m := cs.length) rfl (kn _ (k_flN 1 (F := CompF) (m := cs.length) (xs := cs) rfl rfl)) 2).mono (fun e w' ⟨he, hw'⟩ => ⟨he, st_mask [true, true] rfl (back _ _ hw')⟩)
 refine q_val (v := Ix ((idxI (fun c : KComp => decide (c.kind = 1)) cs))) rfl rfl rfl (e_assign) ?_
 refine q_val (v := Ix ((idxI (fun c : KComp => decide (c.kind = 2)) cs))) rfl rfl rfl (e_assign) ?_
 refine q_nil ?_
 refine f_then ?_
 refine c_seq ?_
 refine c_seq ?_
 rcases idxK_cases cs 1 with ⟨hn1, hf1⟩ | ⟨i1, c1, hi1, hx1, hf1, hl1⟩
 ·
  refine c_region ?_
  refine l_val (v := Ix ((idxI (fun c : KComp => decide (c.kind = 1)) cs))) rfl rfl rfl (e_move) ?_
  refine l_val (v := .bool (decide (((idxI (fun c : KComp => decide (c.kind = 1)) cs)) < (0 : Int)))) rfl rfl rfl (e_lss (a := ((idxI (fun c : KComp => decide (c.kind = 1)) cs))) (b := (0 : Int)) rfl rfl) ?_
  refine l_val (v := .bool (decide (((idxI (fun c : KComp => decide (c.kind = 1)) cs)) < (0 : Int)))) rfl rfl rfl (e_move) ?_
  refine l_split (s := 15) (p := ((idxI (fun c : KComp => decide (c.kind = 1)) cs)) < (0 : Int)) rfl (fun h => ?_) (fun h => ?_)
  rotate_left; exact absurd hn1 h
  refine l_skip rfl rfl rfl rfl rfl rfl ?_
  refine l_skip rfl rfl rfl rfl rfl rfl ?_
  refine l_val (v := .bool true) rfl rfl rfl (e_pick_t rfl) ?_
  refine l_val (v := .bool true) rfl rfl rfl (e_move) ?_
  refine l_skip rfl rfl rfl rfl rfl rfl ?_
  refine l_skip rfl rfl rfl rfl rfl rfl ?_
  refine l_skip rfl rfl rfl rfl rfl rfl ?_
  refine l_val (v := .bool true) rfl rfl rfl (e_pick_t rfl) ?_
  refine l_nil ?_
  refine f_then ?_
  refine c_yes rfl ?_
  refine c_ret ?_
  refine f_then_ret ?_
  refine ret0 Tryz.results73 ?_
  intro w hw
  exact ⟨rfl, by rw [free_no (.inl (idxK_none hn1))]; exact st_mask [false, true] rfl hw⟩
 ·
  rw [hi1]
  rcases idxK_cases cs 2 with ⟨hn2, hf2⟩ | ⟨i2, c2, hi2, hx2, hf2, hl2⟩
  ·
   refine c_region ?_
   refine l_val (v := Nx (i1)) rfl rfl rfl (e_move) ?_
   refine l_val (v := .bool (decide (((i1 : Nat) : Int) < (0 : Int)))) rfl rfl rfl (e_lss (a := ((i1 : Nat) : Int)) (b := (0 : Int)) rfl rfl) ?_
   refine l_val (v := .bool (decide (((i1 : Nat) : Int) < (0 : Int)))) rfl rfl rfl (e_move) ?_
   refine l_split (s := 15) (p := ((i1 : Nat) : Int) < (0 : Int)) rfl (fun h => ?_) (fun h => ?_)
   exact absurd h (by omega)
   refine g_val (v := Ix ((idxI (fun c : KComp => decide (c.kind = 2)) cs))) rfl rfl rfl rfl rfl (e_move) ?_
   refine g_val (v := .bool (decide (((idxI (fun c : KComp => decide (c.kind = 2)) cs)) < (0 : Int)))) rfl rfl rfl rfl rfl (e_lss (a := ((idxI (fun c : KComp => decide (c.kind = 2)) cs))) (b := (0 : Int)) rfl rfl) ?_
   refine l_val (v := .bool (decide (((idxI (fun c : KComp => decide (c.kind = 2)) cs)) < (0 : Int)))) rfl rfl rfl (e_pick_f rfl) ?_
   refine l_val (v := .bool (decide (((idxI (fun c : KComp => decide (c.kind = 2)) cs)) < (0 : Int)))) rfl rfl rfl (e_move) ?_
   refine l_split (s := 19) (p := ((idxI (fun c : KComp => decide (c.kind = 2)) cs)) < (0 : Int)) rfl (fun h => ?_) (fun h => ?_)
   rotate_left; exact absurd hn2 h
   refine l_skip rfl rfl rfl rfl rfl rfl ?_
   refine l_skip rfl rfl rfl rfl rfl rfl ?_
   refine l_skip rfl rfl rfl rfl rfl rfl ?_
   refine l_val (v := .bool true) rfl rfl rfl (e_pick_t rfl) ?_
   refine l_nil ?_
   refine f_then ?_
   refine c_yes rfl ?_
   refine c_ret ?_
   refine f_then_ret ?_
   refine ret0 Tryz.results73 ?_
   intro w hw
   exact ⟨rfl, by rw [free_no (.inr (.inl (idxK_none hn2)))]; exact st_mask [false, true] rfl hw⟩
  ·
   rw [hi2]
   rcases idxK_cases cs 3 with ⟨hn3, hf3⟩ | ⟨i3, c3, hi3, hx3, hf3, hl3⟩
   ·
    refine c_region ?_
    refine l_val (v := Nx (i1)) rfl rfl rfl (e_move) ?_
    refine l_val (v := .bool (decide (((i1 : Nat) : Int) < (0 : Int)))) rfl rfl rfl (e_lss (a := ((i1 : Nat) : Int)) (b := (0 : Int)) rfl rfl) ?_
    refine l_val (v := .bool (decide (((i1 : Nat) : Int) < (0 : Int)))) rfl rfl rfl (e_move) ?_
    refine l_split (s := 15) (p := ((i1 : Nat) : Int) < (0 : Int)) rfl (fun h => ?_) (fun h => ?_)
    exact absurd h (by omega)
    refine g_val (v := Nx (i2)) rfl rfl rfl rfl rfl (e_move) ?_
    refine g_val (v := .bool (decide (((i2 : Nat) : Int) < (0 : Int)))) rfl rfl rfl rfl rfl (e_lss (a := ((i2 : Nat) : Int)) (b := (0 : Int)) rfl rfl) ?_
    refine l_val (v := .bool (decide (((i2 : Nat) : Int) < (0 : Int)))) rfl rfl rfl (e_pick_f rfl) ?_
    refine l_val (v := .bool (decide (((i2 : Nat) : Int) < (0 : Int)))) rfl rfl rfl (e_move) ?_
    refine l_split (s := 19) (p := ((i2 : Nat) : Int) < (0 : Int)) rfl (fun h => ?_) (fun h => ?_)
    exact absurd h (by omega)
    refine g_val (v := .agg #[Ix (id), .slice p (cs.length) c]) rfl rfl rfl rfl rfl (e_load tw7 (cs := [Ix (id), .slice p (cs.length) c]) rfl (k_pt 0 (cs := #[Ix (id), .slice p (cs.length) c]) (vs := [Ix (id), .slice p (cs.length) c]) rfl rfl) rfl) ?_
    refine g_call rfl rfl rfl rfl rfl (cl_value (fst := []) (cap := []) (vs := [.agg #[Ix (id), .slice p (cs.length) c], .int .u8 (3)]) (all := [.agg #[Ix (id), .slice p (cs.length) c], .int .u8 (3)]) tw8 rfl rfl rfl) ?_
    intro w hw
    obtain ⟨β1, sb, kn, hw1, back⟩ := St.frame_all hw
    refine (rfirstN_ok β1 w hw1 (id) p c cs (m := cs.length) rfl (kn _ (k_flN 1 (F := CompF) (m := cs.length) (xs := cs) rfl rfl)) 3).mono ?_
    rintro e w' ⟨rfl, hw'⟩
    refine ⟨_, rfl, _, back _ _ hw', ?_⟩
    clear hw hw1 hw' back kn sb
    refine g_val (v := .bool (decide ((0 : Int) ≤ ((idxI (fun c : KComp => decide (c.kind = 3)) cs))))) rfl rfl rfl rfl rfl (e_geq (a := ((idxI (fun c : KComp => decide (c.kind = 3)) cs))) (b := (0 : Int)) rfl rfl) ?_
    refine l_val (v := .bool (decide ((0 : Int) ≤ ((idxI (fun c : KComp => decide (c.kind = 3)) cs))))) rfl rfl rfl (e_pick_f rfl) ?_
    refine l_nil ?_
    refine f_then ?_
    refine c_if ((0 : Int) ≤ ((idxI (fun c : KComp => decide (c.kind = 3)) cs))) rfl (fun hc2 => ?_) (fun hc2 => ?_)
    ·
     exact absurd hc2 (by omega)
    ·
     refine c_skip ?_
     refine f_then ?_
     refine c_seq ?_
     refine c_seq ?_
     have hij : i1 ≠ i2 := idx_ne hx1 hx2 (idxK_kind (idxC_found hi1) hx1) (idxK_kind (idxC_found hi2) hx2)
     refine c_region ?_
     refine l_val (v := .int .i64 (0)) rfl rfl rfl (e_assign) ?_
     refine l_nil ?_
     refine f_then ?_
     refine c_block ?_
     refine c_unroll 3 ?_
     refine un_succ 2 ?_
     refine c_seq ?_
     refine c_seq ?_
     refine c_region ?_
     refine l_val (v := .int .i64 (0)) rfl rfl rfl (e_move) ?_
     refine l_val (v := .bool true) rfl rfl rfl (e_lss (a := (0 : Int)) (b := (2 : Int)) rfl rfl) ?_
     refine l_nil ?_
     refine f_then ?_
     refine c_yes rfl ?_
     refine c_skip ?_
     refine f_then ?_
     refine c_seq ?_
     refine c_block ?_
     refine c_seq ?_
     refine c_quiet (by kernel_rfl) (by kernel_rfl) ?_
     refine q_val (v := .pointer (some ⟨b1, 1, none⟩)) rfl rfl rfl (e_fieldPt (b := b1) (o := 0) rfl tw0) ?_
     refine q_val (v := .slice p (cs.length) c) rfl rfl rfl (e_load1 tw1 (v := .slice p (cs.length) c) rfl (k_pt 0 (cs := #[Ix (id), .slice p (cs.length) c]) (vs := [.slice p (cs.length) c]) rfl rfl)) ?_
     refine q_val (v := Nx (i1)) rfl rfl rfl (e_move) ?_
     refine q_val (v := .int .i64 (0)) rfl rfl rfl (e_move) ?_
     refine q_val (v := .pointer (some ((ba p).add (i1 * 5)))) rfl rfl rfl (e_indexFlN 1 (F := CompF) (j := i1) (m := cs.length) (xs := cs) rfl rfl rfl tw3 (by omega) rfl) ?_
     refine q_val (v := .pointer (some ((ba p).add (i1 * 5 + 1)))) rfl rfl rfl (ev_eq (congrArg (fun z => Value.pointer (some z)) (show ((ba p).add (i1 * 5) : Addr).add 1 = (ba p).add (i1 * 5 + 1) by rw [Addr.add_add'])) (e_fieldAddr (a := (ba p).add (i1 * 5)) rfl tw11)) ?_
     refine q_val (v := .pointer (some ((ba p).add (i1 * 5 + 1)))) rfl rfl rfl (ev_eq (congrArg (fun z => Value.pointer (some z)) (show ((ba p).add (i1 * 5 + 1) : Addr).add (0 * 1) = (ba p).add (i1 * 5 + 1) by rw [Addr.add_add'] <;> rfl)) (e_indexArr (a := (ba p).add (i1 * 5 + 1)) (k := 0) rfl rfl tw16 (by decide))) ?_
     refine q_val (v := Ix (c1.v0)) rfl rfl rfl (e_load1 tw15 (v := Ix (c1.v0)) rfl (k_flPart 1 (F := CompF) (o := 1) (us := [Ix (c1.v0)]) rfl hx1 rfl)) ?_
     refine q_val (v := .pointer (some ⟨b1, 1, none⟩)) rfl rfl rfl (e_fieldPt (b := b1) (o := 0) rfl tw0) ?_
     refine q_val (v := .slice p (cs.length) c) rfl rfl rfl (e_load1 tw1 (v := .slice p (cs.length) c) rfl (k_pt 0 (cs := #[Ix (id), .slice p (cs.length) c]) (vs := [.slice p (cs.length) c]) rfl rfl)) ?_
     refine q_val (v := Nx (i2)) rfl rfl rfl (e_move) ?_
     refine q_val (v := .int .i64 (0)) rfl rfl rfl (e_move) ?_
     refine q_val (v := .pointer (some ((ba p).add (i2 * 5)))) rfl rfl rfl (e_indexFlN 1 (F := CompF) (j := i2) (m := cs.length) (xs := cs) rfl rfl rfl tw3 (by omega) rfl) ?_
     refine q_val (v := .pointer (some ((ba p).add (i2 * 5 + 1)))) rfl rfl rfl (ev_eq (congrArg (fun z => Value.pointer (some z)) (show ((ba p).add (i2 * 5) : Addr).add 1 = (ba p).add (i2 * 5 + 1) by rw [Addr.add_add'])) (e_fieldAddr (a := (ba p).add (i2 * 5)) rfl tw11)) ?_
     refine q_val (v := .pointer (some ((ba p).add (i2 * 5 + 1)))) rfl rfl rfl (ev_eq (congrArg (fun z => Value.pointer (some z)) (show ((ba p).add (i2 * 5 + 1) : Addr).add (0 * 1) = (ba p).add (i2 * 5 + 1) by rw [Addr.add_add'] <;> rfl)) (e_indexArr (a := (ba p).add (i2 * 5 + 1)) (k := 0) rfl rfl tw16 (by decide))) ?_
     refine q_val (v := Ix (c2.v0)) rfl rfl rfl (e_load1 tw15 (v := Ix (c2.v0)) rfl (k_flPart 1 (F := CompF) (o := 1) (us := [Ix (c2.v0)]) rfl hx2 rfl)) ?_
     refine q_val (v := Ix (c1.v0)) rfl rfl rfl (e_assign) ?_
     refine q_val (v := Ix (c2.v0)) rfl rfl rfl (e_assign) ?_
     refine q_nil ?_
     refine f_then ?_
     refine c_seq ?_
     rcases Decidable.em (c1.v0 < -1099511627776) with hpL0 | hpL0
     ·
      refine c_region ?_
      refine l_val (v := Ix (c1.v0)) rfl rfl rfl (e_move) ?_
      refine l_val (v := .bool (decide ((c1.v0) < (-1099511627776 : Int)))) rfl rfl rfl (e_lss (a := (c1.v0)) (b := (-1099511627776 : Int)) rfl rfl) ?_
      refine l_val (v := .bool (decide ((c1.v0) < (-1099511627776 : Int)))) rfl rfl rfl (e_move) ?_
      refine l_split (s := 46) (p := (c1.v0) < (-1099511627776 : Int)) rfl (fun h => ?_) (fun h => ?_)
      rotate_left; exact absurd hpL0 h
      refine l_skip rfl rfl rfl rfl rfl rfl ?_
      refine l_skip rfl rfl rfl rfl rfl rfl ?_
      refine l_val (v := .bool true) rfl rfl rfl (e_pick_t rfl) ?_
      refine l_val (v := .bool true) rfl rfl rfl (e_move) ?_
      refine l_skip rfl rfl rfl rfl rfl rfl ?_
      refine l_skip rfl rfl rfl rfl rfl rfl ?_
      refine l_val (v := .bool true) rfl rfl rfl (e_pick_t rfl) ?_
      refine l_val (v := .bool true) rfl rfl rfl (e_move) ?_
      refine l_skip rfl rfl rfl rfl rfl rfl ?_
      refine l_skip rfl rfl rfl rfl rfl rfl ?_
      refine l_val (v := .bool true) rfl rfl rfl (e_pick_t rfl) ?_
      refine l_nil ?_
      refine f_then ?_
      refine c_yes rfl ?_
      refine c_ret ?_
      refine f_block_ret ?_
      refine f_then_ret ?_
      refine f_then_ret ?_
      refine f_block_ret ?_
      refine f_then_ret ?_
      refine ret0 Tryz.results73 ?_
      intro w hw
      have e0 := free_fly (idxC_found hi1) hf1 (idxC_found hi2) hf2 (idxK_none hn3)
      exact ⟨rfl, by rw [e0, fly_no hx1 hx2 (fun h => by have a := h.1.1; have b := h.1.2; have c := h.2.1; have d := h.2.2; omega)]; exact st_mask [false, true] rfl hw⟩
     ·
      rcases Decidable.em (1099511627776 < c1.v0) with hpG0 | hpG0
      ·
       refine c_region ?_
       refine l_val (v := Ix (c1.v0)) rfl rfl rfl (e_move) ?_
       refine l_val (v := .bool (decide ((c1.v0) < (-1099511627776 : Int)))) rfl rfl rfl (e_lss (a := (c1.v0)) (b := (-1099511627776 : Int)) rfl rfl) ?_
       refine l_val (v := .bool (decide ((c1.v0) < (-1099511627776 : Int)))) rfl rfl rfl (e_move) ?_
       refine l_split (s := 46) (p := (c1.v0) < (-1099511627776 : Int)) rfl (fun h => ?_) (fun h => ?_)
       exact absurd h hpL0
       refine g_val (v := Ix (c1.v0)) rfl rfl rfl rfl rfl (e_move) ?_
       refine g_val (v := .bool (decide ((1099511627776 : Int) < (c1.v0)))) rfl rfl rfl rfl rfl (e_gtr (a := (c1.v0)) (b := (1099511627776 : Int)) rfl rfl) ?_
       refine l_val (v := .bool (decide ((1099511627776 : Int) < (c1.v0)))) rfl rfl rfl (e_pick_f rfl) ?_
       refine l_val (v := .bool (decide ((1099511627776 : Int) < (c1.v0)))) rfl rfl rfl (e_move) ?_
       refine l_split (s := 50) (p := (1099511627776 : Int) < (c1.v0)) rfl (fun h => ?_) (fun h => ?_)
       rotate_left; exact absurd hpG0 h
       refine l_skip rfl rfl rfl rfl rfl rfl ?_
       refine l_skip rfl rfl rfl rfl rfl rfl ?_
       refine l_val (v := .bool true) rfl rfl rfl (e_pick_t rfl) ?_
       refine l_val (v := .bool true) rfl rfl rfl (e_move) ?_
       refine l_skip rfl rfl rfl rfl rfl rfl ?_
       refine l_skip rfl rfl rfl rfl rfl rfl ?_
       refine l_val (v := .bool true) rfl rfl rfl (e_pick_t rfl) ?_
       refine l_nil ?_
       refine f_then ?_
       refine c_yes rfl ?_
       refine c_ret ?_
       refine f_block_ret ?_
       refine f_then_ret ?_
       refine f_then_ret ?_
       refine f_block_ret ?_
       refine f_then_ret ?_
       refine ret0 Tryz.results73 ?_
       intro w hw
       have e0 := free_fly (idxC_found hi1) hf1 (idxC_found hi2) hf2 (idxK_none hn3)
       exact ⟨rfl, by rw [e0, fly_no hx1 hx2 (fun h => by have a := h.1.1; have b := h.1.2; have c := h.2.1; have d := h.2.2; omega)]; exact st_mask [false, true] rfl hw⟩
      ·
       rcases Decidable.em (c2.v0 < -1099511627776) with hvL0 | hvL0
       ·
        refine c_region ?_
        refine l_val (v := Ix (c1.v0)) rfl rfl rfl (e_move) ?_
        refine l_val (v := .bool (decide ((c1.v0) < (-1099511627776 : Int)))) rfl rfl rfl (e_lss (a := (c1.v0)) (b := (-1099511627776 : Int)) rfl rfl) ?_
        refine l_val (v := .bool (decide ((c1.v0) < (-1099511627776 : Int)))) rfl rfl rfl (e_move) ?_
        refine l_split (s := 46) (p := (c1.v0) < (-1099511627776 : Int)) rfl (fun h => ?_) (fun h => ?_)
        exact absurd h hpL0
        refine g_val (v := Ix (c1.v0)) rfl rfl rfl rfl rfl (e_move) ?_
        refine g_val (v := .bool (decide ((1099511627776 : Int) < (c1.v0)))) rfl rfl rfl rfl rfl (e_gtr (a := (c1.v0)) (b := (1099511627776 : Int)) rfl rfl) ?_
        refine l_val (v := .bool (decide ((1099511627776 : Int) < (c1.v0)))) rfl rfl rfl (e_pick_f rfl) ?_
        refine l_val (v := .bool (decide ((1099511627776 : Int) < (c1.v0)))) rfl rfl rfl (e_move) ?_
        refine l_split (s := 50) (p := (1099511627776 : Int) < (c1.v0)) rfl (fun h => ?_) (fun h => ?_)
        exact absurd h hpG0
        refine g_val (v := Ix (c2.v0)) rfl rfl rfl rfl rfl (e_move) ?_
        refine g_val (v := .bool (decide ((c2.v0) < (-1099511627776 : Int)))) rfl rfl rfl rfl rfl (e_lss (a := (c2.v0)) (b := (-1099511627776 : Int)) rfl rfl) ?_
        refine l_val (v := .bool (decide ((c2.v0) < (-1099511627776 : Int)))) rfl rfl rfl (e_pick_f rfl) ?_
        refine l_val (v := .bool (decide ((c2.v0) < (-1099511627776 : Int)))) rfl rfl rfl (e_move) ?_
        refine l_split (s := 54) (p := (c2.v0) < (-1099511627776 : Int)) rfl (fun h => ?_) (fun h => ?_)
        rotate_left; exact absurd hvL0 h
        refine l_skip rfl rfl rfl rfl rfl rfl ?_
        refine l_skip rfl rfl rfl rfl rfl rfl ?_
        refine l_val (v := .bool true) rfl rfl rfl (e_pick_t rfl) ?_
        refine l_nil ?_
        refine f_then ?_
        refine c_yes rfl ?_
        refine c_ret ?_
        refine f_block_ret ?_
        refine f_then_ret ?_
        refine f_then_ret ?_
        refine f_block_ret ?_
        refine f_then_ret ?_
        refine ret0 Tryz.results73 ?_
        intro w hw
        have e0 := free_fly (idxC_found hi1) hf1 (idxC_found hi2) hf2 (idxK_none hn3)
        exact ⟨rfl, by rw [e0, fly_no hx1 hx2 (fun h => by have a := h.1.1; have b := h.1.2; have c := h.2.1; have d := h.2.2; omega)]; exact st_mask [false, true] rfl hw⟩
       ·
        rcases Decidable.em (1099511627776 < c2.v0) with hvG0 | hvG0
        ·
         refine c_region ?_
         refine l_val (v := Ix (c1.v0)) rfl rfl rfl (e_move) ?_
         refine l_val (v := .bool (decide ((c1.v0) < (-1099511627776 : Int)))) rfl rfl rfl (e_lss (a := (c1.v0)) (b := (-1099511627776 : Int)) rfl rfl) ?_
         refine l_val (v := .bool (decide ((c1.v0) < (-1099511627776 : Int)))) rfl rfl rfl (e_move) ?_
         refine l_split (s := 46) (p := (c1.v0) < (-1099511627776 : Int)) rfl (fun h => ?_) (fun h => ?_)
         exact absurd h hpL0
         refine g_val (v := Ix (c1.v0)) rfl rfl rfl rfl rfl (e_move) ?_
         refine g_val (v := .bool (decide ((1099511627776 : Int) < (c1.v0)))) rfl rfl rfl rfl rfl (e_gtr (a := (c1.v0)) (b := (1099511627776 : Int)) rfl rfl) ?_
         refine l_val (v := .bool (decide ((1099511627776 : Int) < (c1.v0)))) rfl rfl rfl (e_pick_f rfl) ?_
         refine l_val (v := .bool (decide ((1099511627776 : Int) < (c1.v0)))) rfl rfl rfl (e_move) ?_
         refine l_split (s := 50) (p := (1099511627776 : Int) < (c1.v0)) rfl (fun h => ?_) (fun h => ?_)
         exact absurd h hpG0
         refine g_val (v := Ix (c2.v0)) rfl rfl rfl rfl rfl (e_move) ?_
         refine g_val (v := .bool (decide ((c2.v0) < (-1099511627776 : Int)))) rfl rfl rfl rfl rfl (e_lss (a := (c2.v0)) (b := (-1099511627776 : Int)) rfl rfl) ?_
         refine l_val (v := .bool (decide ((c2.v0) < (-1099511627776 : Int)))) rfl rfl rfl (e_pick_f rfl) ?_
         refine l_val (v := .bool (decide ((c2.v0) < (-1099511627776 : Int)))) rfl rfl rfl (e_move) ?_
         refine l_split (s := 54) (p := (c2.v0) < (-1099511627776 : Int)) rfl (fun h => ?_) (fun h => ?_)
         exact absurd h hvL0
         refine g_val (v := Ix (c2.v0)) rfl rfl rfl rfl rfl (e_move) ?_
         refine g_val (v := .bool (decide ((1099511627776 : Int) < (c2.v0)))) rfl rfl rfl rfl rfl (e_gtr (a := (c2.v0)) (b := (1099511627776 : Int)) rfl rfl) ?_
         refine l_val (v := .bool (decide ((1099511627776 : Int) < (c2.v0)))) rfl rfl rfl (e_pick_f rfl) ?_
         refine l_nil ?_
         refine f_then ?_
         refine c_if ((1099511627776 : Int) < (c2.v0)) rfl (fun hc3 => ?_) (fun hc3 => ?_)
         ·
          refine c_ret ?_
          refine f_block_ret ?_
          refine f_then_ret ?_
          refine f_then_ret ?_
          refine f_block_ret ?_
          refine f_then_ret ?_
          refine ret0 Tryz.results73 ?_
          intro w hw
          have e0 := free_fly (idxC_found hi1) hf1 (idxC_found hi2) hf2 (idxK_none hn3)
          exact ⟨rfl, by rw [e0, fly_no hx1 hx2 (fun h => by have a := h.1.1; have b := h.1.2; have c := h.2.1; have d := h.2.2; omega)]; exact st_mask [false, true] rfl hw⟩
         ·
          exact absurd hvG0 hc3
        ·
         refine c_region ?_
         refine l_val (v := Ix (c1.v0)) rfl rfl rfl (e_move) ?_
         refine l_val (v := .bool (decide ((c1.v0) < (-1099511627776 : Int)))) rfl rfl rfl (e_lss (a := (c1.v0)) (b := (-1099511627776 : Int)) rfl rfl) ?_
         refine l_val (v := .bool (decide ((c1.v0) < (-1099511627776 : Int)))) rfl rfl rfl (e_move) ?_
         refine l_split (s := 46) (p := (c1.v0) < (-1099511627776 : Int)) rfl (fun h => ?_) (fun h => ?_)
         exact absurd h hpL0
         refine g_val (v := Ix (c1.v0)) rfl rfl rfl rfl rfl (e_move) ?_
         refine g_val (v := .bool (decide ((1099511627776 : Int) < (c1.v0)))) rfl rfl rfl rfl rfl (e_gtr (a := (c1.v0)) (b := (1099511627776 : Int)) rfl rfl) ?_
         refine l_val (v := .bool (decide ((1099511627776 : Int) < (c1.v0)))) rfl rfl rfl (e_pick_f rfl) ?_
         refine l_val (v := .bool (decide ((1099511627776 : Int) < (c1.v0)))) rfl rfl rfl (e_move) ?_
         refine l_split (s := 50) (p := (1099511627776 : Int) < (c1.v0)) rfl (fun h => ?_) (fun h => ?_)
         exact absurd h hpG0
         refine g_val (v := Ix (c2.v0)) rfl rfl rfl rfl rfl (e_move) ?_
         refine g_val (v := .bool (decide ((c2.v0) < (-1099511627776 : Int)))) rfl rfl rfl rfl rfl (e_lss (a := (c2.v0)) (b := (-1099511627776 : Int)) rfl rfl) ?_
         refine l_val (v := .bool (decide ((c2.v0) < (-1099511627776 : Int)))) rfl rfl rfl (e_pick_f rfl) ?_
         refine l_val (v := .bool (decide ((c2.v0) < (-1099511627776 : Int)))) rfl rfl rfl (e_move) ?_
         refine l_split (s := 54) (p := (c2.v0) < (-1099511627776 : Int)) rfl (fun h => ?_) (fun h => ?_)
         exact absurd h hvL0
         refine g_val (v := Ix (c2.v0)) rfl rfl rfl rfl rfl (e_move) ?_
         refine g_val (v := .bool (decide ((1099511627776 : Int) < (c2.v0)))) rfl rfl rfl rfl rfl (e_gtr (a := (c2.v0)) (b := (1099511627776 : Int)) rfl rfl) ?_
         refine l_val (v := .bool (decide ((1099511627776 : Int) < (c2.v0)))) rfl rfl rfl (e_pick_f rfl) ?_
         refine l_nil ?_
         refine f_then ?_
         refine c_if ((1099511627776 : Int) < (c2.v0)) rfl (fun hc4 => ?_) (fun hc4 => ?_)
         ·
          exact absurd hc4 hvG0
         ·
          refine c_skip ?_
          refine f_block ?_
          refine f_then ?_
          refine c_region ?_
          refine l_val (v := .int .i64 (0)) rfl rfl rfl (e_move) ?_
          refine l_val (v := .int .i64 (1)) rfl rfl rfl (e_add (a := (0 : Int)) (b := (1 : Int)) rfl rfl (by decide)) ?_
          refine l_val (v := .int .i64 (1)) rfl rfl rfl (e_assign) ?_
          refine l_nil ?_
          refine f_cut ?_
          refine un_succ 1 ?_
          refine c_seq ?_
          refine c_seq ?_
          refine c_region ?_
          refine l_val (v := .int .i64 (1)) rfl rfl rfl (e_move) ?_
          refine l_val (v := .bool true) rfl rfl rfl (e_lss (a := (1 : Int)) (b := (2 : Int)) rfl rfl) ?_
          refine l_nil ?_
          refine f_then ?_
          refine c_yes rfl ?_
          refine c_skip ?_
          refine f_then ?_
          refine c_seq ?_
          refine c_block ?_
          refine c_seq ?_
          refine c_quiet (by kernel_rfl) (by kernel_rfl) ?_
          refine q_val (v := .pointer (some ⟨b1, 1, none⟩)) rfl rfl rfl (e_fieldPt (b := b1) (o := 0) rfl tw0) ?_
          refine q_val (v := .slice p (cs.length) c) rfl rfl rfl (e_load1 tw1 (v := .slice p (cs.length) c) rfl (k_pt 0 (cs := #[Ix (id), .slice p (cs.length) c]) (vs := [.slice p (cs.length) c]) rfl rfl)) ?_
          refine q_val (v := Nx (i1)) rfl rfl rfl (e_move) ?_
          refine q_val (v := .int .i64 (1)) rfl rfl rfl (e_move) ?_
          refine q_val (v := .pointer (some ((ba p).add (i1 * 5)))) rfl rfl rfl (e_indexFlN 1 (F := CompF) (j := i1) (m := cs.length) (xs := cs) rfl rfl rfl tw3 (by omega) rfl) ?_
          refine q_val (v := .pointer (some ((ba p).add (i1 * 5 + 1)))) rfl rfl rfl (ev_eq (congrArg (fun z => Value.pointer (some z)) (show ((ba p).add (i1 * 5) : Addr).add 1 = (ba p).add (i1 * 5 + 1) by rw [Addr.add_add'])) (e_fieldAddr (a := (ba p).add (i1 * 5)) rfl tw11)) ?_
          refine q_val (v := .pointer (some ((ba p).add (i1 * 5 + 2)))) rfl rfl rfl (ev_eq (congrArg (fun z => Value.pointer (some z)) (show ((ba p).add (i1 * 5 + 1) : Addr).add (1 * 1) = (ba p).add (i1 * 5 + 2) by rw [Addr.add_add'] <;> rfl)) (e_indexArr (a := (ba p).add (i1 * 5 + 1)) (k := 1) rfl rfl tw16 (by decide))) ?_
          refine q_val (v := Ix (c1.v1)) rfl rfl rfl (e_load1 tw15 (v := Ix (c1.v1)) rfl (k_flPart 1 (F := CompF) (o := 2) (us := [Ix (c1.v1)]) rfl hx1 rfl)) ?_
          refine q_val (v := .pointer (some ⟨b1, 1, none⟩)) rfl rfl rfl (e_fieldPt (b := b1) (o := 0) rfl tw0) ?_
          refine q_val (v := .slice p (cs.length) c) rfl rfl rfl (e_load1 tw1 (v := .slice p (cs.length) c) rfl (k_pt 0 (cs := #[Ix (id), .slice p (cs.length) c]) (vs := [.slice p (cs.length) c]) rfl rfl)) ?_
          refine q_val (v := Nx (i2)) rfl rfl rfl (e_move) ?_
          refine q_val (v := .int .i64 (1)) rfl rfl rfl (e_move) ?_
          refine q_val (v := .pointer (some ((ba p).add (i2 * 5)))) rfl rfl rfl (e_indexFlN 1 (F := CompF) (j := i2) (m := cs.length) (xs := cs) rfl rfl rfl tw3 (by omega) rfl) ?_
          refine q_val (v := .pointer (some ((ba p).add (i2 * 5 + 1)))) rfl rfl rfl (ev_eq (congrArg (fun z => Value.pointer (some z)) (show ((ba p).add (i2 * 5) : Addr).add 1 = (ba p).add (i2 * 5 + 1) by rw [Addr.add_add'])) (e_fieldAddr (a := (ba p).add (i2 * 5)) rfl tw11)) ?_
          refine q_val (v := .pointer (some ((ba p).add (i2 * 5 + 2)))) rfl rfl rfl (ev_eq (congrArg (fun z => Value.pointer (some z)) (show ((ba p).add (i2 * 5 + 1) : Addr).add (1 * 1) = (ba p).add (i2 * 5 + 2) by rw [Addr.add_add'] <;> rfl)) (e_indexArr (a := (ba p).add (i2 * 5 + 1)) (k := 1) rfl rfl tw16 (by decide))) ?_
          refine q_val (v := Ix (c2.v1)) rfl rfl rfl (e_load1 tw15 (v := Ix (c2.v1)) rfl (k_flPart 1 (F := CompF) (o := 2) (us := [Ix (c2.v1)]) rfl hx2 rfl)) ?_
          refine q_val (v := Ix (c1.v1)) rfl rfl rfl (e_assign) ?_
          refine q_val (v := Ix (c2.v1)) rfl rfl rfl (e_assign) ?_
          refine q_nil ?_
          refine f_then ?_
          refine c_seq ?_
          rcases Decidable.em (c1.v1 < -1099511627776) with hpL1 | hpL1
          ·
           refine c_region ?_
           refine l_val (v := Ix (c1.v1)) rfl rfl rfl (e_move) ?_
           refine l_val (v := .bool (decide ((c1.v1) < (-1099511627776 : Int)))) rfl rfl rfl (e_lss (a := (c1.v1)) (b := (-1099511627776 : Int)) rfl rfl) ?_
           refine l_val (v := .bool (decide ((c1.v1) < (-1099511627776 : Int)))) rfl rfl rfl (e_move) ?_
           refine l_split (s := 46) (p := (c1.v1) < (-1099511627776 : Int)) rfl (fun h => ?_) (fun h => ?_)
           rotate_left; exact absurd hpL1 h
           refine l_skip rfl rfl rfl rfl rfl rfl ?_
           refine l_skip rfl rfl rfl rfl rfl rfl ?_
           refine l_val (v := .bool true) rfl rfl rfl (e_pick_t rfl) ?_
           refine l_val (v := .bool true) rfl rfl rfl (e_move) ?_
           refine l_skip rfl rfl rfl rfl rfl rfl ?_
           refine l_skip rfl rfl rfl rfl rfl rfl ?_
           refine l_val (v := .bool true) rfl rfl rfl (e_pick_t rfl) ?_
           refine l_val (v := .bool true) rfl rfl rfl (e_move) ?_
           refine l_skip rfl rfl rfl rfl rfl rfl ?_
           refine l_skip rfl rfl rfl rfl rfl rfl ?_
           refine l_val (v := .bool true) rfl rfl rfl (e_pick_t rfl) ?_
           refine l_nil ?_
           refine f_then ?_
           refine c_yes rfl ?_
           refine c_ret ?_
           refine f_block_ret ?_
           refine f_then_ret ?_
           refine f_then_ret ?_
           refine f_block_ret ?_
           refine f_then_ret ?_
           refine ret0 Tryz.results73 ?_
           intro w hw
           have e0 := free_fly (idxC_found hi1) hf1 (idxC_found hi2) hf2 (idxK_none hn3)
           exact ⟨rfl, by rw [e0, fly_no hx1 hx2 (fun h => by have a := h.1.1; have b := h.1.2; have c := h.2.1; have d := h.2.2; omega)]; exact st_mask [false, true] rfl hw⟩
          ·
           rcases Decidable.em (1099511627776 < c1.v1) with hpG1 | hpG1
           ·
            refine c_region ?_
            refine l_val (v := Ix (c1.v1)) rfl rfl rfl (e_move) ?_
            refine l_val (v := .bool (decide ((c1.v1) < (-1099511627776 : Int)))) rfl rfl rfl (e_lss (a := (c1.v1)) (b := (-1099511627776 : Int)) rfl rfl) ?_
            refine l_val (v := .bool (decide ((c1.v1) < (-1099511627776 : Int)))) rfl rfl rfl (e_move) ?_
            refine l_split (s := 46) (p := (c1.v1) < (-1099511627776 : Int)) rfl (fun h => ?_) (fun h => ?_)
            exact absurd h hpL1
            refine g_val (v := Ix (c1.v1)) rfl rfl rfl rfl rfl (e_move) ?_
            refine g_val (v := .bool (decide ((1099511627776 : Int) < (c1.v1)))) rfl rfl rfl rfl rfl (e_gtr (a := (c1.v1)) (b := (1099511627776 : Int)) rfl rfl) ?_
            refine l_val (v := .bool (decide ((1099511627776 : Int) < (c1.v1)))) rfl rfl rfl (e_pick_f rfl) ?_
            refine l_val (v := .bool (decide ((1099511627776 : Int) < (c1.v1)))) rfl rfl rfl (e_move) ?_
            refine l_split (s := 50) (p := (1099511627776 : Int) < (c1.v1)) rfl (fun h => ?_) (fun h => ?_)
            rotate_left; exact absurd hpG1 h
            refine l_skip rfl rfl rfl rfl rfl rfl ?_
            refine l_skip rfl rfl rfl rfl rfl rfl ?_
            refine l_val (v := .bool true) rfl rfl rfl (e_pick_t rfl) ?_
            refine l_val (v := .bool true) rfl rfl rfl (e_move) ?_
            refine l_skip rfl rfl rfl rfl rfl rfl ?_
            refine l_skip rfl rfl rfl rfl rfl rfl ?_
            refine l_val (v := .bool true) rfl rfl rfl (e_pick_t rfl) ?_
            refine l_nil ?_
            refine f_then ?_
            refine c_yes rfl ?_
            refine c_ret ?_
            refine f_block_ret ?_
            refine f_then_ret ?_
            refine f_then_ret ?_
            refine f_block_ret ?_
            refine f_then_ret ?_
            refine ret0 Tryz.results73 ?_
            intro w hw
            have e0 := free_fly (idxC_found hi1) hf1 (idxC_found hi2) hf2 (idxK_none hn3)
            exact ⟨rfl, by rw [e0, fly_no hx1 hx2 (fun h => by have a := h.1.1; have b := h.1.2; have c := h.2.1; have d := h.2.2; omega)]; exact st_mask [false, true] rfl hw⟩
           ·
            rcases Decidable.em (c2.v1 < -1099511627776) with hvL1 | hvL1
            ·
             refine c_region ?_
             refine l_val (v := Ix (c1.v1)) rfl rfl rfl (e_move) ?_
             refine l_val (v := .bool (decide ((c1.v1) < (-1099511627776 : Int)))) rfl rfl rfl (e_lss (a := (c1.v1)) (b := (-1099511627776 : Int)) rfl rfl) ?_
             refine l_val (v := .bool (decide ((c1.v1) < (-1099511627776 : Int)))) rfl rfl rfl (e_move) ?_
             refine l_split (s := 46) (p := (c1.v1) < (-1099511627776 : Int)) rfl (fun h => ?_) (fun h => ?_)
             exact absurd h hpL1
             refine g_val (v := Ix (c1.v1)) rfl rfl rfl rfl rfl (e_move) ?_
             refine g_val (v := .bool (decide ((1099511627776 : Int) < (c1.v1)))) rfl rfl rfl rfl rfl (e_gtr (a := (c1.v1)) (b := (1099511627776 : Int)) rfl rfl) ?_
             refine l_val (v := .bool (decide ((1099511627776 : Int) < (c1.v1)))) rfl rfl rfl (e_pick_f rfl) ?_
             refine l_val (v := .bool (decide ((1099511627776 : Int) < (c1.v1)))) rfl rfl rfl (e_move) ?_
             refine l_split (s := 50) (p := (1099511627776 : Int) < (c1.v1)) rfl (fun h => ?_) (fun h => ?_)
             exact absurd h hpG1
             refine g_val (v := Ix (c2.v1)) rfl rfl rfl rfl rfl (e_move) ?_
             refine g_val (v := .bool (decide ((c2.v1) < (-1099511627776 : Int)))) rfl rfl rfl rfl rfl (e_lss (a := (c2.v1)) (b := (-1099511627776 : Int)) rfl rfl) ?_
             refine l_val (v := .bool (decide ((c2.v1) < (-1099511627776 : Int)))) rfl rfl rfl (e_pick_f rfl) ?_
             refine l_val (v := .bool (decide ((c2.v1) < (-1099511627776 : Int)))) rfl rfl rfl (e_move) ?_
             refine l_split (s := 54) (p := (c2.v1) < (-1099511627776 : Int)) rfl (fun h => ?_) (fun h => ?_)
             rotate_left; exact absurd hvL1 h
             refine l_skip rfl rfl rfl rfl rfl rfl ?_
             refine l_skip rfl rfl rfl rfl rfl rfl ?_
             refine l_val (v := .bool true) rfl rfl rfl (e_pick_t rfl) ?_
             refine l_nil ?_
             refine f_then ?_
             refine c_yes rfl ?_
             refine c_ret ?_
             refine f_block_ret ?_
             refine f_then_ret ?_
             refine f_then_ret ?_
             refine f_block_ret ?_
             refine f_then_ret ?_
             refine ret0 Tryz.results73 ?_
             intro w hw
             have e0 := free_fly (idxC_found hi1) hf1 (idxC_found hi2) hf2 (idxK_none hn3)
             exact ⟨rfl, by rw [e0, fly_no hx1 hx2 (fun h => by have a := h.1.1; have b := h.1.2; have c := h.2.1; have d := h.2.2; omega)]; exact st_mask [false, true] rfl hw⟩
            ·
             rcases Decidable.em (1099511627776 < c2.v1) with hvG1 | hvG1
             ·
              refine c_region ?_
              refine l_val (v := Ix (c1.v1)) rfl rfl rfl (e_move) ?_
              refine l_val (v := .bool (decide ((c1.v1) < (-1099511627776 : Int)))) rfl rfl rfl (e_lss (a := (c1.v1)) (b := (-1099511627776 : Int)) rfl rfl) ?_
              refine l_val (v := .bool (decide ((c1.v1) < (-1099511627776 : Int)))) rfl rfl rfl (e_move) ?_
              refine l_split (s := 46) (p := (c1.v1) < (-1099511627776 : Int)) rfl (fun h => ?_) (fun h => ?_)
              exact absurd h hpL1
              refine g_val (v := Ix (c1.v1)) rfl rfl rfl rfl rfl (e_move) ?_
              refine g_val (v := .bool (decide ((1099511627776 : Int) < (c1.v1)))) rfl rfl rfl rfl rfl (e_gtr (a := (c1.v1)) (b := (1099511627776 : Int)) rfl rfl) ?_
              refine l_val (v := .bool (decide ((1099511627776 : Int) < (c1.v1)))) rfl rfl rfl (e_pick_f rfl) ?_
              refine l_val (v := .bool (decide ((1099511627776 : Int) < (c1.v1)))) rfl rfl rfl (e_move) ?_
              refine l_split (s := 50) (p := (1099511627776 : Int) < (c1.v1)) rfl (fun h => ?_) (fun h => ?_)
              exact absurd h hpG1
              refine g_val (v := Ix (c2.v1)) rfl rfl rfl rfl rfl (e_move) ?_
              refine g_val (v := .bool (decide ((c2.v1) < (-1099511627776 : Int)))) rfl rfl rfl rfl rfl (e_lss (a := (c2.v1)) (b := (-1099511627776 : Int)) rfl rfl) ?_
              refine l_val (v := .bool (decide ((c2.v1) < (-1099511627776 : Int)))) rfl rfl rfl (e_pick_f rfl) ?_
              refine l_val (v := .bool (decide ((c2.v1) < (-1099511627776 : Int)))) rfl rfl rfl (e_move) ?_
              refine l_split (s := 54) (p := (c2.v1) < (-1099511627776 : Int)) rfl (fun h => ?_) (fun h => ?_)
              exact absurd h hvL1
              refine g_val (v := Ix (c2.v1)) rfl rfl rfl rfl rfl (e_move) ?_
              refine g_val (v := .bool (decide ((1099511627776 : Int) < (c2.v1)))) rfl rfl rfl rfl rfl (e_gtr (a := (c2.v1)) (b := (1099511627776 : Int)) rfl rfl) ?_
              refine l_val (v := .bool (decide ((1099511627776 : Int) < (c2.v1)))) rfl rfl rfl (e_pick_f rfl) ?_
              refine l_nil ?_
              refine f_then ?_
              refine c_if ((1099511627776 : Int) < (c2.v1)) rfl (fun hc5 => ?_) (fun hc5 => ?_)
              ·
               refine c_ret ?_
               refine f_block_ret ?_
               refine f_then_ret ?_
               refine f_then_ret ?_
               refine f_block_ret ?_
               refine f_then_ret ?_
               refine ret0 Tryz.results73 ?_
               intro w hw
               have e0 := free_fly (idxC_found hi1) hf1 (idxC_found hi2) hf2 (idxK_none hn3)
               exact ⟨rfl, by rw [e0, fly_no hx1 hx2 (fun h => by have a := h.1.1; have b := h.1.2; have c := h.2.1; have d := h.2.2; omega)]; exact st_mask [false, true] rfl hw⟩
              ·
               exact absurd hvG1 hc5
             ·
              refine c_region ?_
              refine l_val (v := Ix (c1.v1)) rfl rfl rfl (e_move) ?_
              refine l_val (v := .bool (decide ((c1.v1) < (-1099511627776 : Int)))) rfl rfl rfl (e_lss (a := (c1.v1)) (b := (-1099511627776 : Int)) rfl rfl) ?_
              refine l_val (v := .bool (decide ((c1.v1) < (-1099511627776 : Int)))) rfl rfl rfl (e_move) ?_
              refine l_split (s := 46) (p := (c1.v1) < (-1099511627776 : Int)) rfl (fun h => ?_) (fun h => ?_)
              exact absurd h hpL1
              refine g_val (v := Ix (c1.v1)) rfl rfl rfl rfl rfl (e_move) ?_
              refine g_val (v := .bool (decide ((1099511627776 : Int) < (c1.v1)))) rfl rfl rfl rfl rfl (e_gtr (a := (c1.v1)) (b := (1099511627776 : Int)) rfl rfl) ?_
              refine l_val (v := .bool (decide ((1099511627776 : Int) < (c1.v1)))) rfl rfl rfl (e_pick_f rfl) ?_
              refine l_val (v := .bool (decide ((1099511627776 : Int) < (c1.v1)))) rfl rfl rfl (e_move) ?_
              refine l_split (s := 50) (p := (1099511627776 : Int) < (c1.v1)) rfl (fun h => ?_) (fun h => ?_)
              exact absurd h hpG1
              refine g_val (v := Ix (c2.v1)) rfl rfl rfl rfl rfl (e_move) ?_
              refine g_val (v := .bool (decide ((c2.v1) < (-1099511627776 : Int)))) rfl rfl rfl rfl rfl (e_lss (a := (c2.v1)) (b := (-1099511627776 : Int)) rfl rfl) ?_
              refine l_val (v := .bool (decide ((c2.v1) < (-1099511627776 : Int)))) rfl rfl rfl (e_pick_f rfl) ?_
              refine l_val (v := .bool (decide ((c2.v1) < (-1099511627776 : Int)))) rfl rfl rfl (e_move) ?_
              refine l_split (s := 54) (p := (c2.v1) < (-1099511627776 : Int)) rfl (fun h => ?_) (fun h => ?_)
              exact absurd h hvL1
              refine g_val (v := Ix (c2.v1)) rfl rfl rfl rfl rfl (e_move) ?_
              refine g_val (v := .bool (decide ((1099511627776 : Int) < (c2.v1)))) rfl rfl rfl rfl rfl (e_gtr (a := (c2.v1)) (b := (1099511627776 : Int)) rfl rfl) ?_
              refine l_val (v := .bool (decide ((1099511627776 : Int) < (c2.v1)))) rfl rfl rfl (e_pick_f rfl) ?_
              refine l_nil ?_
              refine f_then ?_
              refine c_if ((1099511627776 : Int) < (c2.v1)) rfl (fun hc6 => ?_) (fun hc6 => ?_)
              ·
               exact absurd hc6 hvG1
              ·
               refine c_skip ?_
               refine f_block ?_
               refine f_then ?_
               refine c_region ?_
               refine l_val (v := .int .i64 (1)) rfl rfl rfl (e_move) ?_
               refine l_val (v := .int .i64 (2)) rfl rfl rfl (e_add (a := (1 : Int)) (b := (1 : Int)) rfl rfl (by decide)) ?_
               refine l_val (v := .int .i64 (2)) rfl rfl rfl (e_assign) ?_
               refine l_nil ?_
               refine f_cut ?_
               refine un_succ 0 ?_
               refine c_seq ?_
               refine c_seq ?_
               refine c_region ?_
               refine l_val (v := .int .i64 (2)) rfl rfl rfl (e_move) ?_
               refine l_val (v := .bool false) rfl rfl rfl (e_lss (a := (2 : Int)) (b := (2 : Int)) rfl rfl) ?_
               refine l_nil ?_
               refine f_then ?_
               refine c_no rfl ?_
               refine c_exit ?_
               refine f_then_exit ?_
               refine f_then_exit ?_
               refine f_exit ?_
               refine f_then ?_
               refine c_seq ?_
               refine c_region ?_
               refine l_val (v := .int .i64 (0)) rfl rfl rfl (e_assign) ?_
               refine l_nil ?_
               refine f_then ?_
               refine c_block ?_
               refine c_unroll 3 ?_
               refine un_succ 2 ?_
               refine c_seq ?_
               refine c_seq ?_
               refine c_region ?_
               refine l_val (v := .int .i64 (0)) rfl rfl rfl (e_move) ?_
               refine l_val (v := .bool true) rfl rfl rfl (e_lss (a := (0 : Int)) (b := (2 : Int)) rfl rfl) ?_
               refine l_nil ?_
               refine f_then ?_
               refine c_yes rfl ?_
               refine c_skip ?_
               refine f_then ?_
               refine c_seq ?_
               refine c_block ?_
               refine c_seq ?_
               refine c_quiet (by kernel_rfl) (by kernel_rfl) ?_
               refine q_val (v := .pointer (some ⟨b1, 1, none⟩)) rfl rfl rfl (e_fieldPt (b := b1) (o := 0) rfl tw0) ?_
               refine q_val (v := .slice p (cs.length) c) rfl rfl rfl (e_load1 tw1 (v := .slice p (cs.length) c) rfl (k_pt 0 (cs := #[Ix (id), .slice p (cs.length) c]) (vs := [.slice p (cs.length) c]) rfl rfl)) ?_
               refine q_val (v := Nx (i1)) rfl rfl rfl (e_move) ?_
               refine q_val (v := .int .i64 (0)) rfl rfl rfl (e_move) ?_
               refine q_val (v := .pointer (some ((ba p).add (i1 * 5)))) rfl rfl rfl (e_indexFlN 1 (F := CompF) (j := i1) (m := cs.length) (xs := cs) rfl rfl rfl tw3 (by omega) rfl) ?_
               refine q_val (v := .pointer (some ((ba p).add (i1 * 5 + 1)))) rfl rfl rfl (ev_eq (congrArg (fun z => Value.pointer (some z)) (show ((ba p).add (i1 * 5) : Addr).add 1 = (ba p).add (i1 * 5 + 1) by rw [Addr.add_add'])) (e_fieldAddr (a := (ba p).add (i1 * 5)) rfl tw11)) ?_
               refine q_val (v := .pointer (some ((ba p).add (i1 * 5 + 1)))) rfl rfl rfl (ev_eq (congrArg (fun z => Value.pointer (some z)) (show ((ba p).add (i1 * 5 + 1) : Addr).add (0 * 1) = (ba p).add (i1 * 5 + 1) by rw [Addr.add_add'] <;> rfl)) (e_indexArr (a := (ba p).add (i1 * 5 + 1)) (k := 0) rfl rfl tw16 (by decide))) ?_
               refine q_val (v := Ix (c1.v0)) rfl rfl rfl (e_load1 tw15 (v := Ix (c1.v0)) rfl (k_flPart 1 (F := CompF) (o := 1) (us := [Ix (c1.v0)]) rfl hx1 rfl)) ?_
               refine q_val (v := .pointer (some ⟨b1, 1, none⟩)) rfl rfl rfl (e_fieldPt (b := b1) (o := 0) rfl tw0) ?_
               refine q_val (v := .slice p (cs.length) c) rfl rfl rfl (e_load1 tw1 (v := .slice p (cs.length) c) rfl (k_pt 0 (cs := #[Ix (id), .slice p (cs.length) c]) (vs := [.slice p (cs.length) c]) rfl rfl)) ?_
               refine q_val (v := Nx (i2)) rfl rfl rfl (e_move) ?_
               refine q_val (v := .int .i64 (0)) rfl rfl rfl (e_move) ?_
               refine q_val (v := .pointer (some ((ba p).add (i2 * 5)))) rfl rfl rfl (e_indexFlN 1 (F := CompF) (j := i2) (m := cs.length) (xs := cs) rfl rfl rfl tw3 (by omega) rfl) ?_
               refine q_val (v := .pointer (some ((ba p).add (i2 * 5 + 1)))) rfl rfl rfl (ev_eq (congrArg (fun z => Value.pointer (some z)) (show ((ba p).add (i2 * 5) : Addr).add 1 = (ba p).add (i2 * 5 + 1) by rw [Addr.add_add'])) (e_fieldAddr (a := (ba p).add (i2 * 5)) rfl tw11)) ?_
               refine q_val (v := .pointer (some ((ba p).add (i2 * 5 + 1)))) rfl rfl rfl (ev_eq (congrArg (fun z => Value.pointer (some z)) (show ((ba p).add (i2 * 5 + 1) : Addr).add (0 * 1) = (ba p).add (i2 * 5 + 1) by rw [Addr.add_add'] <;> rfl)) (e_indexArr (a := (ba p).add (i2 * 5 + 1)) (k := 0) rfl rfl tw16 (by decide))) ?_
               refine q_val (v := Ix (c2.v0)) rfl rfl rfl (e_load1 tw15 (v := Ix (c2.v0)) rfl (k_flPart 1 (F := CompF) (o := 1) (us := [Ix (c2.v0)]) rfl hx2 rfl)) ?_
               refine q_val (v := Ix ((c1.v0) + (c2.v0))) rfl rfl rfl (e_add (a := (c1.v0)) (b := (c2.v0)) rfl rfl (i64w (by omega))) ?_
               refine q_val (v := Ix ((c1.v0) + (c2.v0))) rfl rfl rfl (e_assign) ?_
               refine q_nil ?_
               refine f_then ?_
               refine c_seq ?_
               refine c_region ?_
               refine l_val (v := .pointer (some ⟨b1, 1, none⟩)) rfl rfl rfl (e_fieldPt (b := b1) (o := 0) rfl tw0) ?_
               refine l_val (v := .slice p (cs.length) c) rfl rfl rfl (e_load1 tw1 (v := .slice p (cs.length) c) rfl (k_pt 0 (cs := #[Ix (id), .slice p (cs.length) c]) (vs := [.slice p (cs.length) c]) rfl rfl)) ?_
               refine l_val (v := Nx (i1)) rfl rfl rfl (e_move) ?_
               refine l_val (v := .int .i64 (0)) rfl rfl rfl (e_move) ?_
               refine l_val (v := Ix ((c1.v0) + (c2.v0))) rfl rfl rfl (e_move) ?_
               refine l_val (v := Ix (max ((c1.v0) + (c2.v0)) (-1048576 : Int))) rfl rfl rfl (e_max (a := ((c1.v0) + (c2.v0))) (b := (-1048576 : Int)) rfl rfl) ?_
               refine l_val (v := Ix (min (max ((c1.v0) + (c2.v0)) (-1048576 : Int)) (1048576 : Int))) rfl rfl rfl (e_min (a := (max ((c1.v0) + (c2.v0)) (-1048576 : Int))) (b := (1048576 : Int)) rfl rfl) ?_
               refine l_val (v := .pointer (some ((ba p).add (i1 * 5)))) rfl rfl rfl (e_indexFlN 1 (F := CompF) (j := i1) (m := cs.length) (xs := cs) rfl rfl rfl tw3 (by omega) rfl) ?_
               refine l_val (v := .pointer (some ((ba p).add (i1 * 5 + 1)))) rfl rfl rfl (ev_eq (congrArg (fun z => Value.pointer (some z)) (show ((ba p).add (i1 * 5) : Addr).add 1 = (ba p).add (i1 * 5 + 1) by rw [Addr.add_add'])) (e_fieldAddr (a := (ba p).add (i1 * 5)) rfl tw11)) ?_
               refine l_val (v := .pointer (some ((ba p).add (i1 * 5 + 1)))) rfl rfl rfl (ev_eq (congrArg (fun z => Value.pointer (some z)) (show ((ba p).add (i1 * 5 + 1) : Addr).add (0 * 1) = (ba p).add (i1 * 5 + 1) by rw [Addr.add_add'] <;> rfl)) (e_indexArr (a := (ba p).add (i1 * 5 + 1)) (k := 0) rfl rfl tw16 (by decide))) ?_
               refine l_mu rfl rfl (m_storeFlPart 1 (F := CompF) (p := p) (k := i1) (o := 1) (xs := cs) (z0 := c1) (z := (setV0 c1 (min (max ((c1.v0) + (c2.v0)) (-1048576 : Int)) (1048576 : Int)))) tw15 rfl rfl rfl rfl rfl hx1 (by decide) rfl) ?_
               refine l_nil ?_
               refine f_then ?_
               refine c_seq ?_
               refine c_region ?_
               refine l_val (v := .pointer (some ⟨b1, 1, none⟩)) rfl rfl rfl (e_fieldPt (b := b1) (o := 0) rfl tw0) ?_
               refine l_val (v := .slice p (cs.length) c) rfl rfl rfl (e_load1 tw1 (v := .slice p (cs.length) c) rfl (k_pt 0 (cs := #[Ix (id), .slice p (cs.length) c]) (vs := [.slice p (cs.length) c]) rfl rfl)) ?_
               refine l_val (v := Nx (i1)) rfl rfl rfl (e_move) ?_
               refine l_val (v := .int .i64 (0)) rfl rfl rfl (e_move) ?_
               refine l_val (v := .pointer (some ((ba p).add (i1 * 5)))) rfl rfl rfl (e_indexFlN 1 (F := CompF) (j := i1) (m := cs.length) (xs := (cs.set i1 (setV0 c1 (min (max ((c1.v0) + (c2.v0)) (-1048576 : Int)) (1048576 : Int))))) rfl (by simp only [List.length_set]) rfl tw3 (by omega) rfl) ?_
               refine l_val (v := .pointer (some ((ba p).add (i1 * 5 + 1)))) rfl rfl rfl (ev_eq (congrArg (fun z => Value.pointer (some z)) (show ((ba p).add (i1 * 5) : Addr).add 1 = (ba p).add (i1 * 5 + 1) by rw [Addr.add_add'])) (e_fieldAddr (a := (ba p).add (i1 * 5)) rfl tw11)) ?_
               refine l_val (v := .pointer (some ((ba p).add (i1 * 5 + 1)))) rfl rfl rfl (ev_eq (congrArg (fun z => Value.pointer (some z)) (show ((ba p).add (i1 * 5 + 1) : Addr).add (0 * 1) = (ba p).add (i1 * 5 + 1) by rw [Addr.add_add'] <;> rfl)) (e_indexArr (a := (ba p).add (i1 * 5 + 1)) (k := 0) rfl rfl tw16 (by decide))) ?_
               refine l_val (v := Ix (min (max ((c1.v0) + (c2.v0)) (-1048576 : Int)) (1048576 : Int))) rfl rfl rfl (e_load1 tw15 (v := Ix (min (max ((c1.v0) + (c2.v0)) (-1048576 : Int)) (1048576 : Int))) rfl (k_flPart 1 (F := CompF) (o := 1) (us := [Ix (min (max ((c1.v0) + (c2.v0)) (-1048576 : Int)) (1048576 : Int))]) rfl (get_set (setV0 c1 (min (max ((c1.v0) + (c2.v0)) (-1048576 : Int)) (1048576 : Int))) (by first | omega | (simp only [List.length_set]; omega))) rfl)) ?_
               refine l_val (v := Ix ((c1.v0) + (c2.v0))) rfl rfl rfl (e_move) ?_
               refine l_val (v := .bool (decide ((min (max ((c1.v0) + (c2.v0)) (-1048576 : Int)) (1048576 : Int)) ≠ ((c1.v0) + (c2.v0))))) rfl rfl rfl (e_neq (a := (min (max ((c1.v0) + (c2.v0)) (-1048576 : Int)) (1048576 : Int))) (b := ((c1.v0) + (c2.v0))) rfl rfl) ?_
               refine l_nil ?_
               refine f_then ?_
               refine c_if ((min (max ((c1.v0) + (c2.v0)) (-1048576 : Int)) (1048576 : Int)) ≠ ((c1.v0) + (c2.v0))) rfl (fun hc7 => ?_) (fun hc7 => ?_)
               ·
                refine c_region ?_
                refine l_val (v := .pointer (some ⟨b1, 1, none⟩)) rfl rfl rfl (e_fieldPt (b := b1) (o := 0) rfl tw0) ?_
                refine l_val (v := .slice p (cs.length) c) rfl rfl rfl (e_load1 tw1 (v := .slice p (cs.length) c) rfl (k_pt 0 (cs := #[Ix (id), .slice p (cs.length) c]) (vs := [.slice p (cs.length) c]) rfl rfl)) ?_
                refine l_val (v := Nx (i2)) rfl rfl rfl (e_move) ?_
                refine l_val (v := .int .i64 (0)) rfl rfl rfl (e_move) ?_
                refine l_val (v := .pointer (some ((ba p).add (i2 * 5)))) rfl rfl rfl (e_indexFlN 1 (F := CompF) (j := i2) (m := cs.length) (xs := (cs.set i1 (setV0 c1 (min (max ((c1.v0) + (c2.v0)) (-1048576 : Int)) (1048576 : Int))))) rfl (by simp only [List.length_set]) rfl tw3 (by omega) rfl) ?_
                refine l_val (v := .pointer (some ((ba p).add (i2 * 5 + 1)))) rfl rfl rfl (ev_eq (congrArg (fun z => Value.pointer (some z)) (show ((ba p).add (i2 * 5) : Addr).add 1 = (ba p).add (i2 * 5 + 1) by rw [Addr.add_add'])) (e_fieldAddr (a := (ba p).add (i2 * 5)) rfl tw11)) ?_
                refine l_val (v := .pointer (some ((ba p).add (i2 * 5 + 1)))) rfl rfl rfl (ev_eq (congrArg (fun z => Value.pointer (some z)) (show ((ba p).add (i2 * 5 + 1) : Addr).add (0 * 1) = (ba p).add (i2 * 5 + 1) by rw [Addr.add_add'] <;> rfl)) (e_indexArr (a := (ba p).add (i2 * 5 + 1)) (k := 0) rfl rfl tw16 (by decide))) ?_
                refine l_mu rfl rfl (m_storeFlPart 1 (F := CompF) (p := p) (k := i2) (o := 1) (xs := (cs.set i1 (setV0 c1 (min (max ((c1.v0) + (c2.v0)) (-1048576 : Int)) (1048576 : Int))))) (z0 := c2) (z := (setV0 c2 0)) tw15 rfl rfl rfl rfl rfl (set_ne (by first | assumption | (apply Ne.symm; assumption)) hx2) (by decide) rfl) ?_
                refine l_nil ?_
                refine f_block ?_
                refine f_then ?_
                refine c_region ?_
                refine l_val (v := .int .i64 (0)) rfl rfl rfl (e_move) ?_
                refine l_val (v := .int .i64 (1)) rfl rfl rfl (e_add (a := (0 : Int)) (b := (1 : Int)) rfl rfl (by decide)) ?_
                refine l_val (v := .int .i64 (1)) rfl rfl rfl (e_assign) ?_
                refine l_nil ?_
                refine f_cut ?_
                refine un_succ 1 ?_
                refine c_seq ?_
                refine c_seq ?_
                refine c_region ?_
                refine l_val (v := .int .i64 (1)) rfl rfl rfl (e_move) ?_
                refine l_val (v := .bool true) rfl rfl rfl (e_lss (a := (1 : Int)) (b := (2 : Int)) rfl rfl) ?_
                refine l_nil ?_
                refine f_then ?_
                refine c_yes rfl ?_
                refine c_skip ?_
                refine f_then ?_
                refine c_seq ?_
                refine c_block ?_
                refine c_seq ?_
                refine c_quiet (by kernel_rfl) (by kernel_rfl) ?_
                refine q_val (v := .pointer (some ⟨b1, 1, none⟩)) rfl rfl rfl (e_fieldPt (b := b1) (o := 0) rfl tw0) ?_
                refine q_val (v := .slice p (cs.length) c) rfl rfl rfl (e_load1 tw1 (v := .slice p (cs.length) c) rfl (k_pt 0 (cs := #[Ix (id), .slice p (cs.length) c]) (vs := [.slice p (cs.length) c]) rfl rfl)) ?_
                refine q_val (v := Nx (i1)) rfl rfl rfl (e_move) ?_
                refine q_val (v := .int .i64 (1)) rfl rfl rfl (e_move) ?_
                refine q_val (v := .pointer (some ((ba p).add (i1 * 5)))) rfl rfl rfl (e_indexFlN 1 (F := CompF) (j := i1) (m := cs.length) (xs := ((cs.set i1 (setV0 c1 (min (max ((c1.v0) + (c2.v0)) (-1048576 : Int)) (1048576 : Int)))).set i2 (setV0 c2 0))) rfl (by simp only [List.length_set]) rfl tw3 (by omega) rfl) ?_
                refine q_val (v := .pointer (some ((ba p).add (i1 * 5 + 1)))) rfl rfl rfl (ev_eq (congrArg (fun z => Value.pointer (some z)) (show ((ba p).add (i1 * 5) : Addr).add 1 = (ba p).add (i1 * 5 + 1) by rw [Addr.add_add'])) (e_fieldAddr (a := (ba p).add (i1 * 5)) rfl tw11)) ?_
                refine q_val (v := .pointer (some ((ba p).add (i1 * 5 + 2)))) rfl rfl rfl (ev_eq (congrArg (fun z => Value.pointer (some z)) (show ((ba p).add (i1 * 5 + 1) : Addr).add (1 * 1) = (ba p).add (i1 * 5 + 2) by rw [Addr.add_add'] <;> rfl)) (e_indexArr (a := (ba p).add (i1 * 5 + 1)) (k := 1) rfl rfl tw16 (by decide))) ?_
                refine q_val (v := Ix (c1.v1)) rfl rfl rfl (e_load1 tw15 (v := Ix (c1.v1)) rfl (k_flPart 1 (F := CompF) (o := 2) (us := [Ix (c1.v1)]) rfl (set_ne (by first | assumption | (apply Ne.symm; assumption)) (get_set (setV0 c1 (min (max ((c1.v0) + (c2.v0)) (-1048576 : Int)) (1048576 : Int))) (by first | omega | (simp only [List.length_set]; omega)))) rfl)) ?_
                refine q_val (v := .pointer (some ⟨b1, 1, none⟩)) rfl rfl rfl (e_fieldPt (b := b1) (o := 0) rfl tw0) ?_
                refine q_val (v := .slice p (cs.length) c) rfl rfl rfl (e_load1 tw1 (v := .slice p (cs.length) c) rfl (k_pt 0 (cs := #[Ix (id), .slice p (cs.length) c]) (vs := [.slice p (cs.length) c]) rfl rfl)) ?_
                refine q_val (v := Nx (i2)) rfl rfl rfl (e_move) ?_
                refine q_val (v := .int .i64 (1)) rfl rfl rfl (e_move) ?_
                refine q_val (v := .pointer (some ((ba p).add (i2 * 5)))) rfl rfl rfl (e_indexFlN 1 (F := CompF) (j := i2) (m := cs.length) (xs := ((cs.set i1 (setV0 c1 (min (max ((c1.v0) + (c2.v0)) (-1048576 : Int)) (1048576 : Int)))).set i2 (setV0 c2 0))) rfl (by simp only [List.length_set]) rfl tw3 (by omega) rfl) ?_
                refine q_val (v := .pointer (some ((ba p).add (i2 * 5 + 1)))) rfl rfl rfl (ev_eq (congrArg (fun z => Value.pointer (some z)) (show ((ba p).add (i2 * 5) : Addr).add 1 = (ba p).add (i2 * 5 + 1) by rw [Addr.add_add'])) (e_fieldAddr (a := (ba p).add (i2 * 5)) rfl tw11)) ?_
                refine q_val (v := .pointer (some ((ba p).add (i2 * 5 + 2)))) rfl rfl rfl (ev_eq (congrArg (fun z => Value.pointer (some z)) (show ((ba p).add (i2 * 5 + 1) : Addr).add (1 * 1) = (ba p).add (i2 * 5 + 2) by rw [Addr.add_add'] <;> rfl)) (e_indexArr (a := (ba p).add (i2 * 5 + 1)) (k := 1) rfl rfl tw16 (by decide))) ?_
                refine q_val (v := Ix (c2.v1)) rfl rfl rfl (e_load1 tw15 (v := Ix (c2.v1)) rfl (k_flPart 1 (F := CompF) (o := 2) (us := [Ix (c2.v1)]) rfl (get_set (setV0 c2 0) (by first | omega | (simp only [List.length_set]; omega))) rfl)) ?_
                refine q_val (v := Ix ((c1.v1) + (c2.v1))) rfl rfl rfl (e_add (a := (c1.v1)) (b := (c2.v1)) rfl rfl (i64w (by omega))) ?_
                refine q_val (v := Ix ((c1.v1) + (c2.v1))) rfl rfl rfl (e_assign) ?_
                refine q_nil ?_
                refine f_then ?_
                refine c_seq ?_
                refine c_region ?_
                refine l_val (v := .pointer (some ⟨b1, 1, none⟩)) rfl rfl rfl (e_fieldPt (b := b1) (o := 0) rfl tw0) ?_
                refine l_val (v := .slice p (cs.length) c) rfl rfl rfl (e_load1 tw1 (v := .slice p (cs.length) c) rfl (k_pt 0 (cs := #[Ix (id), .slice p (cs.length) c]) (vs := [.slice p (cs.length) c]) rfl rfl)) ?_
                refine l_val (v := Nx (i1)) rfl rfl rfl (e_move) ?_
                refine l_val (v := .int .i64 (1)) rfl rfl rfl (e_move) ?_
                refine l_val (v := Ix ((c1.v1) + (c2.v1))) rfl rfl rfl (e_move) ?_
                refine l_val (v := Ix (max ((c1.v1) + (c2.v1)) (-1048576 : Int))) rfl rfl rfl (e_max (a := ((c1.v1) + (c2.v1))) (b := (-1048576 : Int)) rfl rfl) ?_
                refine l_val (v := Ix (min (max ((c1.v1) + (c2.v1)) (-1048576 : Int)) (1048576 : Int))) rfl rfl rfl (e_min (a := (max ((c1.v1) + (c2.v1)) (-1048576 : Int))) (b := (1048576 : Int)) rfl rfl) ?_
                refine l_val (v := .pointer (some ((ba p).add (i1 * 5)))) rfl rfl rfl (e_indexFlN 1 (F := CompF) (j := i1) (m := cs.length) (xs := ((cs.set i1 (setV0 c1 (min (max ((c1.v0) + (c2.v0)) (-1048576 : Int)) (1048576 : Int)))).set i2 (setV0 c2 0))) rfl (by simp only [List.length_set]) rfl tw3 (by omega) rfl) ?_
                refine l_val (v := .pointer (some ((ba p).add (i1 * 5 + 1)))) rfl rfl rfl (ev_eq (congrArg (fun z => Value.pointer (some z)) (show ((ba p).add (i1 * 5) : Addr).add 1 = (ba p).add (i1 * 5 + 1) by rw [Addr.add_add'])) (e_fieldAddr (a := (ba p).add (i1 * 5)) rfl tw11)) ?_
                refine l_val (v := .pointer (some ((ba p).add (i1 * 5 + 2)))) rfl rfl rfl (ev_eq (congrArg (fun z => Value.pointer (some z)) (show ((ba p).add (i1 * 5 + 1) : Addr).add (1 * 1) = (ba p).add (i1 * 5 + 2) by rw [Addr.add_add'] <;> rfl)) (e_indexArr (a := (ba p).add (i1 * 5 + 1)) (k := 1) rfl rfl tw16 (by decide))) ?_
                refine l_mu rfl rfl (m_storeFlPart 1 (F := CompF) (p := p) (k := i1) (o := 2) (xs := ((cs.set i1 (setV0 c1 (min (max ((c1.v0) + (c2.v0)) (-1048576 : Int)) (1048576 : Int)))).set i2 (setV0 c2 0))) (z0 := (setV0 c1 (min (max ((c1.v0) + (c2.v0)) (-1048576 : Int)) (1048576 : Int)))) (z := (setV1 (setV0 c1 (min (max ((c1.v0) + (c2.v0)) (-1048576 : Int)) (1048576 : Int))) (min (max ((c1.v1) + (c2.v1)) (-1048576 : Int)) (1048576 : Int)))) tw15 rfl rfl rfl rfl rfl (set_ne (by first | assumption | (apply Ne.symm; assumption)) (get_set (setV0 c1 (min (max ((c1.v0) + (c2.v0)) (-1048576 : Int)) (1048576 : Int))) (by first | omega | (simp only [List.length_set]; omega)))) (by decide) rfl) ?_
                refine l_nil ?_
                refine f_then ?_
                refine c_seq ?_
                refine c_region ?_
                refine l_val (v := .pointer (some ⟨b1, 1, none⟩)) rfl rfl rfl (e_fieldPt (b := b1) (o := 0) rfl tw0) ?_
                refine l_val (v := .slice p (cs.length) c) rfl rfl rfl (e_load1 tw1 (v := .slice p (cs.length) c) rfl (k_pt 0 (cs := #[Ix (id), .slice p (cs.length) c]) (vs := [.slice p (cs.length) c]) rfl rfl)) ?_
                refine l_val (v := Nx (i1)) rfl rfl rfl (e_move) ?_
                refine l_val (v := .int .i64 (1)) rfl rfl rfl (e_move) ?_
                refine l_val (v := .pointer (some ((ba p).add (i1 * 5)))) rfl rfl rfl (e_indexFlN 1 (F := CompF) (j := i1) (m := cs.length) (xs := (((cs.set i1 (setV0 c1 (min (max ((c1.v0) + (c2.v0)) (-1048576 : Int)) (1048576 : Int)))).set i2 (setV0 c2 0)).set i1 (setV1 (setV0 c1 (min (max ((c1.v0) + (c2.v0)) (-1048576 : Int)) (1048576 : Int))) (min (max ((c1.v1) + (c2.v1)) (-1048576 : Int)) (1048576 : Int))))) rfl (by simp only [List.length_set]) rfl tw3 (by omega) rfl) ?_
                refine l_val (v := .pointer (some ((ba p).add (i1 * 5 + 1)))) rfl rfl rfl (ev_eq (congrArg (fun z => Value.pointer (some z)) (show ((ba p).add (i1 * 5) : Addr).add 1 = (ba p).add (i1 * 5 + 1) by rw [Addr.add_add'])) (e_fieldAddr (a := (ba p).add (i1 * 5)) rfl tw11)) ?_
                refine l_val (v := .pointer (some ((ba p).add (i1 * 5 + 2)))) rfl rfl rfl (ev_eq (congrArg (fun z => Value.pointer (some z)) (show ((ba p).add (i1 * 5 + 1) : Addr).add (1 * 1) = (ba p).add (i1 * 5 + 2) by rw [Addr.add_add'] <;> rfl)) (e_indexArr (a := (ba p).add (i1 * 5 + 1)) (k := 1) rfl rfl tw16 (by decide))) ?_
                refine l_val (v := Ix (min (max ((c1.v1) + (c2.v1)) (-1048576 : Int)) (1048576 : Int))) rfl rfl rfl (e_load1 tw15 (v := Ix (min (max ((c1.v1) + (c2.v1)) (-1048576 : Int)) (1048576 : Int))) rfl (k_flPart 1 (F := CompF) (o := 2) (us := [Ix (min (max ((c1.v1) + (c2.v1)) (-1048576 : Int)) (1048576 : Int))]) rfl (get_set (setV1 (setV0 c1 (min (max ((c1.v0) + (c2.v0)) (-1048576 : Int)) (1048576 : Int))) (min (max ((c1.v1) + (c2.v1)) (-1048576 : Int)) (1048576 : Int))) (by first | omega | (simp only [List.length_set]; omega))) rfl)) ?_
                refine l_val (v := Ix ((c1.v1) + (c2.v1))) rfl rfl rfl (e_move) ?_
                refine l_val (v := .bool (decide ((min (max ((c1.v1) + (c2.v1)) (-1048576 : Int)) (1048576 : Int)) ≠ ((c1.v1) + (c2.v1))))) rfl rfl rfl (e_neq (a := (min (max ((c1.v1) + (c2.v1)) (-1048576 : Int)) (1048576 : Int))) (b := ((c1.v1) + (c2.v1))) rfl rfl) ?_
                refine l_nil ?_
                refine f_then ?_
                refine c_if ((min (max ((c1.v1) + (c2.v1)) (-1048576 : Int)) (1048576 : Int)) ≠ ((c1.v1) + (c2.v1))) rfl (fun hc8 => ?_) (fun hc8 => ?_)
                ·
                 refine c_region ?_
                 refine l_val (v := .pointer (some ⟨b1, 1, none⟩)) rfl rfl rfl (e_fieldPt (b := b1) (o := 0) rfl tw0) ?_
                 refine l_val (v := .slice p (cs.length) c) rfl rfl rfl (e_load1 tw1 (v := .slice p (cs.length) c) rfl (k_pt 0 (cs := #[Ix (id), .slice p (cs.length) c]) (vs := [.slice p (cs.length) c]) rfl rfl)) ?_
                 refine l_val (v := Nx (i2)) rfl rfl rfl (e_move) ?_
                 refine l_val (v := .int .i64 (1)) rfl rfl rfl (e_move) ?_
                 refine l_val (v := .pointer (some ((ba p).add (i2 * 5)))) rfl rfl rfl (e_indexFlN 1 (F := CompF) (j := i2) (m := cs.length) (xs := (((cs.set i1 (setV0 c1 (min (max ((c1.v0) + (c2.v0)) (-1048576 : Int)) (1048576 : Int)))).set i2 (setV0 c2 0)).set i1 (setV1 (setV0 c1 (min (max ((c1.v0) + (c2.v0)) (-1048576 : Int)) (1048576 : Int))) (min (max ((c1.v1) + (c2.v1)) (-1048576 : Int)) (1048576 : Int))))) rfl (by simp only [List.length_set]) rfl tw3 (by omega) rfl) ?_
                 refine l_val (v := .pointer (some ((ba p).add (i2 * 5 + 1)))) rfl rfl rfl (ev_eq (congrArg (fun z => Value.pointer (some z)) (show ((ba p).add (i2 * 5) : Addr).add 1 = (ba p).add (i2 * 5 + 1) by rw [Addr.add_add'])) (e_fieldAddr (a := (ba p).add (i2 * 5)) rfl tw11)) ?_
                 refine l_val (v := .pointer (some ((ba p).add (i2 * 5 + 2)))) rfl rfl rfl (ev_eq (congrArg (fun z => Value.pointer (some z)) (show ((ba p).add (i2 * 5 + 1) : Addr).add (1 * 1) = (ba p).add (i2 * 5 + 2) by rw [Addr.add_add'] <;> rfl)) (e_indexArr (a := (ba p).add (i2 * 5 + 1)) (k := 1) rfl rfl tw16 (by decide))) ?_
                 refine l_mu rfl rfl (m_storeFlPart 1 (F := CompF) (p := p) (k := i2) (o := 2) (xs := (((cs.set i1 (setV0 c1 (min (max ((c1.v0) + (c2.v0)) (-1048576 : Int)) (1048576 : Int)))).set i2 (setV0 c2 0)).set i1 (setV1 (setV0 c1 (min (max ((c1.v0) + (c2.v0)) (-1048576 : Int)) (1048576 : Int))) (min (max ((c1.v1) + (c2.v1)) (-1048576 : Int)) (1048576 : Int))))) (z0 := (setV0 c2 0)) (z := (setV1 (setV0 c2 0) 0)) tw15 rfl rfl rfl rfl rfl (set_ne (by first | assumption | (apply Ne.symm; assumption)) (get_set (setV0 c2 0) (by first | omega | (simp only [List.length_set]; omega)))) (by decide) rfl) ?_
                 refine l_nil ?_
                 refine f_block ?_
                 refine f_then ?_
                 refine c_region ?_
                 refine l_val (v := .int .i64 (1)) rfl rfl rfl (e_move) ?_
                 refine l_val (v := .int .i64 (2)) rfl rfl rfl (e_add (a := (1 : Int)) (b := (1 : Int)) rfl rfl (by decide)) ?_
                 refine l_val (v := .int .i64 (2)) rfl rfl rfl (e_assign) ?_
                 refine l_nil ?_
                 refine f_cut ?_
                 refine un_succ 0 ?_
                 refine c_seq ?_
                 refine c_seq ?_
                 refine c_region ?_
                 refine l_val (v := .int .i64 (2)) rfl rfl rfl (e_move) ?_
                 refine l_val (v := .bool false) rfl rfl rfl (e_lss (a := (2 : Int)) (b := (2 : Int)) rfl rfl) ?_
                 refine l_nil ?_
                 refine f_then ?_
                 refine c_no rfl ?_
                 refine c_exit ?_
                 refine f_then_exit ?_
                 refine f_then_exit ?_
                 refine f_exit ?_
                 refine end0 Tryz.results73 ?_
                 intro w hw
                 have e0 := free_fly (idxC_found hi1) hf1 (idxC_found hi2) hf2 (idxK_none hn3)
                 simp only [clamp_eq] at hc7
                 simp only [clamp_eq] at hc8
                 have e : freeC cs = ((((cs.set i1 (setV0 c1 (min (max ((c1.v0) + (c2.v0)) (-1048576 : Int)) (1048576 : Int)))).set i2 (setV0 c2 0)).set i1 (setV1 (setV0 c1 (min (max ((c1.v0) + (c2.v0)) (-1048576 : Int)) (1048576 : Int))) (min (max ((c1.v1) + (c2.v1)) (-1048576 : Int)) (1048576 : Int)))).set i2 (setV1 (setV0 c2 0) 0)) := by
                  rw [e0, fly_yes ⟨⟨by omega, by omega⟩, by omega, by omega⟩]
                  simp only [clamp_eq]
                  rw [if_neg hc7, if_neg hc8]
                  try simp only [set_swap hij, List.set_set]
                  try rfl
                 exact ⟨rfl, by rw [e]; exact st_mask [false, true] rfl hw⟩
                ·
                 refine c_skip ?_
                 refine f_block ?_
                 refine f_then ?_
                 refine c_region ?_
                 refine l_val (v := .int .i64 (1)) rfl rfl rfl (e_move) ?_
                 refine l_val (v := .int .i64 (2)) rfl rfl rfl (e_add (a := (1 : Int)) (b := (1 : Int)) rfl rfl (by decide)) ?_
                 refine l_val (v := .int .i64 (2)) rfl rfl rfl (e_assign) ?_
                 refine l_nil ?_
                 refine f_cut ?_
                 refine un_succ 0 ?_
                 refine c_seq ?_
                 refine c_seq ?_
                 refine c_region ?_
                 refine l_val (v := .int .i64 (2)) rfl rfl rfl (e_move) ?_
                 refine l_val (v := .bool false) rfl rfl rfl (e_lss (a := (2 : Int)) (b := (2 : Int)) rfl rfl) ?_
                 refine l_nil ?_
                 refine f_then ?_
                 refine c_no rfl ?_
                 refine c_exit ?_
                 refine f_then_exit ?_
                 refine f_then_exit ?_
                 refine f_exit ?_
                 refine end0 Tryz.results73 ?_
                 intro w hw
                 have e0 := free_fly (idxC_found hi1) hf1 (idxC_found hi2) hf2 (idxK_none hn3)
                 simp only [clamp_eq] at hc7
                 simp only [clamp_eq] at hc8
                 have e : freeC cs = (((cs.set i1 (setV0 c1 (min (max ((c1.v0) + (c2.v0)) (-1048576 : Int)) (1048576 : Int)))).set i2 (setV0 c2 0)).set i1 (setV1 (setV0 c1 (min (max ((c1.v0) + (c2.v0)) (-1048576 : Int)) (1048576 : Int))) (min (max ((c1.v1) + (c2.v1)) (-1048576 : Int)) (1048576 : Int)))) := by
                  rw [e0, fly_yes ⟨⟨by omega, by omega⟩, by omega, by omega⟩]
                  simp only [clamp_eq]
                  rw [if_neg hc7, if_pos (Decidable.not_not.1 hc8)]
                  try simp only [set_swap hij, List.set_set]
                  try rfl
                 exact ⟨rfl, by rw [e]; exact st_mask [false, true] rfl hw⟩
               ·
                refine c_skip ?_
                refine f_block ?_
                refine f_then ?_
                refine c_region ?_
                refine l_val (v := .int .i64 (0)) rfl rfl rfl (e_move) ?_
                refine l_val (v := .int .i64 (1)) rfl rfl rfl (e_add (a := (0 : Int)) (b := (1 : Int)) rfl rfl (by decide)) ?_
                refine l_val (v := .int .i64 (1)) rfl rfl rfl (e_assign) ?_
                refine l_nil ?_
                refine f_cut ?_
                refine un_succ 1 ?_
                refine c_seq ?_
                refine c_seq ?_
                refine c_region ?_
                refine l_val (v := .int .i64 (1)) rfl rfl rfl (e_move) ?_
                refine l_val (v := .bool true) rfl rfl rfl (e_lss (a := (1 : Int)) (b := (2 : Int)) rfl rfl) ?_
                refine l_nil ?_
                refine f_then ?_
                refine c_yes rfl ?_
                refine c_skip ?_
                refine f_then ?_
                refine c_seq ?_
                refine c_block ?_
                refine c_seq ?_
                refine c_quiet (by kernel_rfl) (by kernel_rfl) ?_
                refine q_val (v := .pointer (some ⟨b1, 1, none⟩)) rfl rfl rfl (e_fieldPt (b := b1) (o := 0) rfl tw0) ?_
                refine q_val (v := .slice p (cs.length) c) rfl rfl rfl (e_load1 tw1 (v := .slice p (cs.length) c) rfl (k_pt 0 (cs := #[Ix (id), .slice p (cs.length) c]) (vs := [.slice p (cs.length) c]) rfl rfl)) ?_
                refine q_val (v := Nx (i1)) rfl rfl rfl (e_move) ?_
                refine q_val (v := .int .i64 (1)) rfl rfl rfl (e_move) ?_
                refine q_val (v := .pointer (some ((ba p).add (i1 * 5)))) rfl rfl rfl (e_indexFlN 1 (F := CompF) (j := i1) (m := cs.length) (xs := (cs.set i1 (setV0 c1 (min (max ((c1.v0) + (c2.v0)) (-1048576 : Int)) (1048576 : Int))))) rfl (by simp only [List.length_set]) rfl tw3 (by omega) rfl) ?_
                refine q_val (v := .pointer (some ((ba p).add (i1 * 5 + 1)))) rfl rfl rfl (ev_eq (congrArg (fun z => Value.pointer (some z)) (show ((ba p).add (i1 * 5) : Addr).add 1 = (ba p).add (i1 * 5 + 1) by rw [Addr.add_add'])) (e_fieldAddr (a := (ba p).add (i1 * 5)) rfl tw11)) ?_
                refine q_val (v := .pointer (some ((ba p).add (i1 * 5 + 2)))) rfl rfl rfl (ev_eq (congrArg (fun z => Value.pointer (some z)) (show ((ba p).add (i1 * 5 + 1) : Addr).add (1 * 1) = (ba p).add (i1 * 5 + 2) by rw [Addr.add_add'] <;> rfl)) (e_indexArr (a := (ba p).add (i1 * 5 + 1)) (k := 1) rfl rfl tw16 (by decide))) ?_
                refine q_val (v := Ix (c1.v1)) rfl rfl rfl (e_load1 tw15 (v := Ix (c1.v1)) rfl (k_flPart 1 (F := CompF) (o := 2) (us := [Ix (c1.v1)]) rfl (get_set (setV0 c1 (min (max ((c1.v0) + (c2.v0)) (-1048576 : Int)) (1048576 : Int))) (by first | omega | (simp only [List.length_set]; omega))) rfl)) ?_
                refine q_val (v := .pointer (some ⟨b1, 1, none⟩)) rfl rfl rfl (e_fieldPt (b := b1) (o := 0) rfl tw0) ?_
                refine q_val (v := .slice p (cs.length) c) rfl rfl rfl (e_load1 tw1 (v := .slice p (cs.length) c) rfl (k_pt 0 (cs := #[Ix (id), .slice p (cs.length) c]) (vs := [.slice p (cs.length) c]) rfl rfl)) ?_
                refine q_val (v := Nx (i2)) rfl rfl rfl (e_move) ?_
                refine q_val (v := .int .i64 (1)) rfl rfl rfl (e_move) ?_
                refine q_val (v := .pointer (some ((ba p).add (i2 * 5)))) rfl rfl rfl (e_indexFlN 1 (F := CompF) (j := i2) (m := cs.length) (xs := (cs.set i1 (setV0 c1 (min (max ((c1.v0) + (c2.v0)) (-1048576 : Int)) (1048576 : Int))))) rfl (by simp only [List.length_set]) rfl tw3 (by omega) rfl) ?_
                refine q_val (v := .pointer (some ((ba p).add (i2 * 5 + 1)))) rfl rfl rfl (ev_eq (congrArg (fun z => Value.pointer (some z)) (show ((ba p).add (i2 * 5) : Addr).add 1 = (ba p).add (i2 * 5 + 1) by rw [Addr.add_add'])) (e_fieldAddr (a := (ba p).add (i2 * 5)) rfl tw11)) ?_
                refine q_val (v := .pointer (some ((ba p).add (i2 * 5 + 2)))) rfl rfl rfl (ev_eq (congrArg (fun z => Value.pointer (some z)) (show ((ba p).add (i2 * 5 + 1) : Addr).add (1 * 1) = (ba p).add (i2 * 5 + 2) by rw [Addr.add_add'] <;> rfl)) (e_indexArr (a := (ba p).add (i2 * 5 + 1)) (k := 1) rfl rfl tw16 (by decide))) ?_
                refine q_val (v := Ix (c2.v1)) rfl rfl rfl (e_load1 tw15 (v := Ix (c2.v1)) rfl (k_flPart 1 (F := CompF) (o := 2) (us := [Ix (c2.v1)]) rfl (set_ne (by first | assumption | (apply Ne.symm; assumption)) hx2) rfl)) ?_
                refine q_val (v := Ix ((c1.v1) + (c2.v1))) rfl rfl rfl (e_add (a := (c1.v1)) (b := (c2.v1)) rfl rfl (i64w (by omega))) ?_
                refine q_val (v := Ix ((c1.v1) + (c2.v1))) rfl rfl rfl (e_assign) ?_
                refine q_nil ?_
                refine f_then ?_
                refine c_seq ?_
                refine c_region ?_
                refine l_val (v := .pointer (some ⟨b1, 1, none⟩)) rfl rfl rfl (e_fieldPt (b := b1) (o := 0) rfl tw0) ?_
                refine l_val (v := .slice p (cs.length) c) rfl rfl rfl (e_load1 tw1 (v := .slice p (cs.length) c) rfl (k_pt 0 (cs := #[Ix (id), .slice p (cs.length) c]) (vs := [.slice p (cs.length) c]) rfl rfl)) ?_
                refine l_val (v := Nx (i1)) rfl rfl rfl (e_move) ?_
                refine l_val (v := .int .i64 (1)) rfl rfl rfl (e_move) ?_
                refine l_val (v := Ix ((c1.v1) + (c2.v1))) rfl rfl rfl (e_move) ?_
                refine l_val (v := Ix (max ((c1.v1) + (c2.v1)) (-1048576 : Int))) rfl rfl rfl (e_max (a := ((c1.v1) + (c2.v1))) (b := (-1048576 : Int)) rfl rfl) ?_
                refine l_val (v := Ix (min (max ((c1.v1) + (c2.v1)) (-1048576 : Int)) (1048576 : Int))) rfl rfl rfl (e_min (a := (max ((c1.v1) + (c2.v1)) (-1048576 : Int))) (b := (1048576 : Int)) rfl rfl) ?_
                refine l_val (v := .pointer (some ((ba p).add (i1 * 5)))) rfl rfl rfl (e_indexFlN 1 (F := CompF) (j := i1) (m := cs.length) (xs := (cs.set i1 (setV0 c1 (min (max ((c1.v0) + (c2.v0)) (-1048576 : Int)) (1048576 : Int))))) rfl (by simp only [List.length_set]) rfl tw3 (by omega) rfl) ?_
                refine l_val (v := .pointer (some ((ba p).add (i1 * 5 + 1)))) rfl rfl rfl (ev_eq (congrArg (fun z => Value.pointer (some z)) (show ((ba p).add (i1 * 5) : Addr).add 1 = (ba p).add (i1 * 5 + 1) by rw [Addr.add_add'])) (e_fieldAddr (a := (ba p).add (i1 * 5)) rfl tw11)) ?_
                refine l_val (v := .pointer (some ((ba p).add (i1 * 5 + 2)))) rfl rfl rfl (ev_eq (congrArg (fun z => Value.pointer (some z)) (show ((ba p).add (i1 * 5 + 1) : Addr).add (1 * 1) = (ba p).add (i1 * 5 + 2) by rw [Addr.add_add'] <;> rfl)) (e_indexArr (a := (ba p).add (i1 * 5 + 1)) (k := 1) rfl rfl tw16 (by decide))) ?_
                refine l_mu rfl rfl (m_storeFlPart 1 (F := CompF) (p := p) (k := i1) (o := 2) (xs := (cs.set i1 (setV0 c1 (min (max ((c1.v0) + (c2.v0)) (-1048576 : Int)) (1048576 : Int))))) (z0 := (setV0 c1 (min (max ((c1.v0) + (c2.v0)) (-1048576 : Int)) (1048576 : Int)))) (z := (setV1 (setV0 c1 (min (max ((c1.v0) + (c2.v0)) (-1048576 : Int)) (1048576 : Int))) (min (max ((c1.v1) + (c2.v1)) (-1048576 : Int)) (1048576 : Int)))) tw15 rfl rfl rfl rfl rfl (get_set (setV0 c1 (min (max ((c1.v0) + (c2.v0)) (-1048576 : Int)) (1048576 : Int))) (by first | omega | (simp only [List.length_set]; omega))) (by decide) rfl) ?_
                refine l_re (L' := [pt b1 (.cells #[Ix (id), .slice p (cs.length) c] 59), rowF CompF 120 p c (cs.set i1 (setV1 (setV0 c1 (min (max ((c1.v0) + (c2.v0)) (-1048576 : Int)) (1048576 : Int))) (min (max ((c1.v1) + (c2.v1)) (-1048576 : Int)) (1048576 : Int))))]) (by show (_ :: _ : List Res) = _; simp only [List.set_set, List.set_cons_zero, List.set_cons_succ] <;> rfl) ?_
                refine l_nil ?_
                refine f_then ?_
                refine c_seq ?_
                refine c_region ?_
                refine l_val (v := .pointer (some ⟨b1, 1, none⟩)) rfl rfl rfl (e_fieldPt (b := b1) (o := 0) rfl tw0) ?_
                refine l_val (v := .slice p (cs.length) c) rfl rfl rfl (e_load1 tw1 (v := .slice p (cs.length) c) rfl (k_pt 0 (cs := #[Ix (id), .slice p (cs.length) c]) (vs := [.slice p (cs.length) c]) rfl rfl)) ?_
                refine l_val (v := Nx (i1)) rfl rfl rfl (e_move) ?_
                refine l_val (v := .int .i64 (1)) rfl rfl rfl (e_move) ?_
                refine l_val (v := .pointer (some ((ba p).add (i1 * 5)))) rfl rfl rfl (e_indexFlN 1 (F := CompF) (j := i1) (m := cs.length) (xs := (cs.set i1 (setV1 (setV0 c1 (min (max ((c1.v0) + (c2.v0)) (-1048576 : Int)) (1048576 : Int))) (min (max ((c1.v1) + (c2.v1)) (-1048576 : Int)) (1048576 : Int))))) rfl (by simp only [List.length_set]) rfl tw3 (by omega) rfl) ?_
                refine l_val (v := .pointer (some ((ba p).add (i1 * 5 + 1)))) rfl rfl rfl (ev_eq (congrArg (fun z => Value.pointer (some z)) (show ((ba p).add (i1 * 5) : Addr).add 1 = (ba p).add (i1 * 5 + 1) by rw [Addr.add_add'])) (e_fieldAddr (a := (ba p).add (i1 * 5)) rfl tw11)) ?_
                refine l_val (v := .pointer (some ((ba p).add (i1 * 5 + 2)))) rfl rfl rfl (ev_eq (congrArg (fun z => Value.pointer (some z)) (show ((ba p).add (i1 * 5 + 1) : Addr).add (1 * 1) = (ba p).add (i1 * 5 + 2) by rw [Addr.add_add'] <;> rfl)) (e_indexArr (a := (ba p).add (i1 * 5 + 1)) (k := 1) rfl rfl tw16 (by decide))) ?_
                refine l_val (v := Ix (min (max ((c1.v1) + (c2.v1)) (-1048576 : Int)) (1048576 : Int))) rfl rfl rfl (e_load1 tw15 (v := Ix (min (max ((c1.v1) + (c2.v1)) (-1048576 : Int)) (1048576 : Int))) rfl (k_flPart 1 (F := CompF) (o := 2) (us := [Ix (min (max ((c1.v1) + (c2.v1)) (-1048576 : Int)) (1048576 : Int))]) rfl (get_set (setV1 (setV0 c1 (min (max ((c1.v0) + (c2.v0)) (-1048576 : Int)) (1048576 : Int))) (min (max ((c1.v1) + (c2.v1)) (-1048576 : Int)) (1048576 : Int))) (by first | omega | (simp only [List.length_set]; omega))) rfl)) ?_
                refine l_val (v := Ix ((c1.v1) + (c2.v1))) rfl rfl rfl (e_move) ?_
                refine l_val (v := .bool (decide ((min (max ((c1.v1) + (c2.v1)) (-1048576 : Int)) (1048576 : Int)) ≠ ((c1.v1) + (c2.v1))))) rfl rfl rfl (e_neq (a := (min (max ((c1.v1) + (c2.v1)) (-1048576 : Int)) (1048576 : Int))) (b := ((c1.v1) + (c2.v1))) rfl rfl) ?_
                refine l_nil ?_
                refine f_then ?_
                refine c_if ((min (max ((c1.v1) + (c2.v1)) (-1048576 : Int)) (1048576 : Int)) ≠ ((c1.v1) + (c2.v1))) rfl (fun hc9 => ?_) (fun hc9 => ?_)
                ·
                 refine c_region ?_
                 refine l_val (v := .pointer (some ⟨b1, 1, none⟩)) rfl rfl rfl (e_fieldPt (b := b1) (o := 0) rfl tw0) ?_
                 refine l_val (v := .slice p (cs.length) c) rfl rfl rfl (e_load1 tw1 (v := .slice p (cs.length) c) rfl (k_pt 0 (cs := #[Ix (id), .slice p (cs.length) c]) (vs := [.slice p (cs.length) c]) rfl rfl)) ?_
                 refine l_val (v := Nx (i2)) rfl rfl rfl (e_move) ?_
                 refine l_val (v := .int .i64 (1)) rfl rfl rfl (e_move) ?_
                 refine l_val (v := .pointer (some ((ba p).add (i2 * 5)))) rfl rfl rfl (e_indexFlN 1 (F := CompF) (j := i2) (m := cs.length) (xs := (cs.set i1 (setV1 (setV0 c1 (min (max ((c1.v0) + (c2.v0)) (-1048576 : Int)) (1048576 : Int))) (min (max ((c1.v1) + (c2.v1)) (-1048576 : Int)) (1048576 : Int))))) rfl (by simp only [List.length_set]) rfl tw3 (by omega) rfl) ?_
                 refine l_val (v := .pointer (some ((ba p).add (i2 * 5 + 1)))) rfl rfl rfl (ev_eq (congrArg (fun z => Value.pointer (some z)) (show ((ba p).add (i2 * 5) : Addr).add 1 = (ba p).add (i2 * 5 + 1) by rw [Addr.add_add'])) (e_fieldAddr (a := (ba p).add (i2 * 5)) rfl tw11)) ?_
                 refine l_val (v := .pointer (some ((ba p).add (i2 * 5 + 2)))) rfl rfl rfl (ev_eq (congrArg (fun z => Value.pointer (some z)) (show ((ba p).add (i2 * 5 + 1) : Addr).add (1 * 1) = (ba p).add (i2 * 5 + 2) by rw [Addr.add_add'] <;> rfl)) (e_indexArr (a := (ba p).add (i2 * 5 + 1)) (k := 1) rfl rfl tw16 (by decide))) ?_
                 refine l_mu rfl rfl (m_storeFlPart 1 (F := CompF) (p := p) (k := i2) (o := 2) (xs := (cs.set i1 (setV1 (setV0 c1 (min (max ((c1.v0) + (c2.v0)) (-1048576 : Int)) (1048576 : Int))) (min (max ((c1.v1) + (c2.v1)) (-1048576 : Int)) (1048576 : Int))))) (z0 := c2) (z := (setV1 c2 0)) tw15 rfl rfl rfl rfl rfl (set_ne (by first | assumption | (apply Ne.symm; assumption)) hx2) (by decide) rfl) ?_
                 refine l_nil ?_
                 refine f_block ?_
                 refine f_then ?_
                 refine c_region ?_
                 refine l_val (v := .int .i64 (1)) rfl rfl rfl (e_move) ?_
                 refine l_val (v := .int .i64 (2)) rfl rfl rfl (e_add (a := (1 : Int)) (b := (1 : Int)) rfl rfl (by decide)) ?_
                 refine l_val (v := .int .i64 (2)) rfl rfl rfl (e_assign) ?_
                 refine l_nil ?_
                 refine f_cut ?_
                 refine un_succ 0 ?_
                 refine c_seq ?_
                 refine c_seq ?_
                 refine c_region ?_
                 refine l_val (v := .int .i64 (2)) rfl rfl rfl (e_move) ?_
                 refine l_val (v := .bool false) rfl rfl rfl (e_lss (a := (2 : Int)) (b := (2 : Int)) rfl rfl) ?_
                 refine l_nil ?_
                 refine f_then ?_
                 refine c_no rfl ?_
                 refine c_exit ?_
                 refine f_then_exit ?_
                 refine f_then_exit ?_
                 refine f_exit ?_
                 refine end0 Tryz.results73 ?_
                 intro w hw
                 have e0 := free_fly (idxC_found hi1) hf1 (idxC_found hi2) hf2 (idxK_none hn3)
                 simp only [clamp_eq] at hc7
                 simp only [clamp_eq] at hc9
                 have e : freeC cs = ((cs.set i1 (setV1 (setV0 c1 (min (max ((c1.v0) + (c2.v0)) (-1048576 : Int)) (1048576 : Int))) (min (max ((c1.v1) + (c2.v1)) (-1048576 : Int)) (1048576 : Int)))).set i2 (setV1 c2 0)) := by
                  rw [e0, fly_yes ⟨⟨by omega, by omega⟩, by omega, by omega⟩]
                  simp only [clamp_eq]
                  rw [if_pos (Decidable.not_not.1 hc7), if_neg hc9]
                  try simp only [set_swap hij, List.set_set]
                  try rfl
                 exact ⟨rfl, by rw [e]; exact st_mask [false, true] rfl hw⟩
                ·
                 refine c_skip ?_
                 refine f_block ?_
                 refine f_then ?_
                 refine c_region ?_
                 refine l_val (v := .int .i64 (1)) rfl rfl rfl (e_move) ?_
                 refine l_val (v := .int .i64 (2)) rfl rfl rfl (e_add (a := (1 : Int)) (b := (1 : Int)) rfl rfl (by decide)) ?_
                 refine l_val (v := .int .i64 (2)) rfl rfl rfl (e_assign) ?_
                 refine l_nil ?_
                 refine f_cut ?_
                 refine un_succ 0 ?_
                 refine c_seq ?_
                 refine c_seq ?_
                 refine c_region ?_
                 refine l_val (v := .int .i64 (2)) rfl rfl rfl (e_move) ?_
                 refine l_val (v := .bool false) rfl rfl rfl (e_lss (a := (2 : Int)) (b := (2 : Int)) rfl rfl) ?_
                 refine l_nil ?_
                 refine f_then ?_
                 refine c_no rfl ?_
                 refine c_exit ?_
                 refine f_then_exit ?_
                 refine f_then_exit ?_
                 refine f_exit ?_
                 refine end0 Tryz.results73 ?_
                 intro w hw
                 have e0 := free_fly (idxC_found hi1) hf1 (idxC_found hi2) hf2 (idxK_none hn3)
                 simp only [clamp_eq] at hc7
                 simp only [clamp_eq] at hc9
                 have e : freeC cs = (cs.set i1 (setV1 (setV0 c1 (min (max ((c1.v0) + (c2.v0)) (-1048576 : Int)) (1048576 : Int))) (min (max ((c1.v1) + (c2.v1)) (-1048576 : Int)) (1048576 : Int)))) := by
                  rw [e0, fly_yes ⟨⟨by omega, by omega⟩, by omega, by omega⟩]
                  simp only [clamp_eq]
                  rw [if_pos (Decidable.not_not.1 hc7), if_pos (Decidable.not_not.1 hc9)]
                  exact set_self (set_ne (Ne.symm hij) hx2)
                 exact ⟨rfl, by rw [e]; exact st_mask [false, true] rfl hw⟩
   ·
    refine c_region ?_
    refine l_val (v := Nx (i1)) rfl rfl rfl (e_move) ?_
    refine l_val (v := .bool (decide (((i1 : Nat) : Int) < (0 : Int)))) rfl rfl rfl (e_lss (a := ((i1 : Nat) : Int)) (b := (0 : Int)) rfl rfl) ?_
    refine l_val (v := .bool (decide (((i1 : Nat) : Int) < (0 : Int)))) rfl rfl rfl (e_move) ?_
    refine l_split (s := 15) (p := ((i1 : Nat) : Int) < (0 : Int)) rfl (fun h => ?_) (fun h => ?_)
    exact absurd h (by omega)
    refine g_val (v := Nx (i2)) rfl rfl rfl rfl rfl (e_move) ?_
    refine g_val (v := .bool (decide (((i2 : Nat) : Int) < (0 : Int)))) rfl rfl rfl rfl rfl (e_lss (a := ((i2 : Nat) : Int)) (b := (0 : Int)) rfl rfl) ?_
    refine l_val (v := .bool (decide (((i2 : Nat) : Int) < (0 : Int)))) rfl rfl rfl (e_pick_f rfl) ?_
    refine l_val (v := .bool (decide (((i2 : Nat) : Int) < (0 : Int)))) rfl rfl rfl (e_move) ?_
    refine l_split (s := 19) (p := ((i2 : Nat) : Int) < (0 : Int)) rfl (fun h => ?_) (fun h => ?_)
    exact absurd h (by omega)
    refine g_val (v := .agg #[Ix (id), .slice p (cs.length) c]) rfl rfl rfl rfl rfl (e_load tw7 (cs := [Ix (id), .slice p (cs.length) c]) rfl (k_pt 0 (cs := #[Ix (id), .slice p (cs.length) c]) (vs := [Ix (id), .slice p (cs.length) c]) rfl rfl) rfl) ?_
    refine g_call rfl rfl rfl rfl rfl (cl_value (fst := []) (cap := []) (vs := [.agg #[Ix (id), .slice p (cs.length) c], .int .u8 (3)]) (all := [.agg #[Ix (id), .slice p (cs.length) c], .int .u8 (3)]) tw8 rfl rfl rfl) ?_
    intro w hw
    obtain ⟨β1, sb, kn, hw1, back⟩ := St.frame_all hw
    refine (rfirstN_ok β1 w hw1 (id) p c cs (m := cs.length) rfl (kn _ (k_flN 1 (F := CompF) (m := cs.length) (xs := cs) rfl rfl)) 3).mono ?_
    rintro e w' ⟨rfl, hw'⟩
    refine ⟨_, rfl, _, back _ _ hw', ?_⟩
    clear hw hw1 hw' back kn sb
    refine g_val (v := .bool (decide ((0 : Int) ≤ ((idxI (fun c : KComp => decide (c.kind = 3)) cs))))) rfl rfl rfl rfl rfl (e_geq (a := ((idxI (fun c : KComp => decide (c.kind = 3)) cs))) (b := (0 : Int)) rfl rfl) ?_
    refine l_val (v := .bool (decide ((0 : Int) ≤ ((idxI (fun c : KComp => decide (c.kind = 3)) cs))))) rfl rfl rfl (e_pick_f rfl) ?_
    refine l_nil ?_
    refine f_then ?_
    refine c_if ((0 : Int) ≤ ((idxI (fun c : KComp => decide (c.kind = 3)) cs))) rfl (fun hc10 => ?_) (fun hc10 => ?_)
    ·
     refine c_ret ?_
     refine f_then_ret ?_
     refine ret0 Tryz.results73 ?_
     intro w hw
     exact ⟨rfl, by rw [free_no (.inr (.inr ⟨i3, idxC_found hi3⟩))]; exact st_mask [false, true] rfl hw⟩
    ·
     exact absurd (by omega) hc10
theorem rfreeN_ok (β : Base) (w : World) (id : Int) (p : Option Addr) (c : Nat) (cs : List KComp) {m : Nat} (hm : m = cs.length) (hw : St β [rowF CompF 120 p c cs] w) : Calls Tryz.prog 73 #[.agg #[Ix id, .slice p m c]] w fun r w' => r = .returned (.tuple #[]) ∧ St β [rowF CompF 120 p c (freeC cs)] w' := by subst hm; exact rfree_ok β w id p c cs hw
set_option maxHeartbeats 4000000 in
theorem rback_ok (β : Base) (w : World) (hw : St β [] w) (tick : Int) (v bv rv : Value) (gx gy : Int) (es : List KEnt) (B : List KB) (hs : Sl EntR β.heap v es) (hb : Sl KBR β.heap bv B) (hn : es.length ≤ 65536) (hcl : ∀ e ∈ es, e.comps.length ≤ 65536) : Calls Tryz.prog 22 #[.agg #[Ix tick, v], .agg #[bv, rv, Ix gx, Ix gy]] w fun r w' => ∃ p c, r = .returned (.agg #[Ix tick, .slice p es.length c]) ∧ St β [entsR p c (es.map (backE B))] w' := by
 obtain ⟨va, vc, rfl, vl, vm, ve⟩ := hs.get
 obtain ⟨bva, bvc, rfl, bvl, bvm, bve⟩ := hb.get
 refine enter (n := 111) Tryz.func22 rfl Tryz.ntmps22 rfl ?_ hw
 refine c_seq ?_
 refine c_region ?_
 refine l_mv rfl rfl rfl (m_box (v := .agg #[Ix (tick), .slice va (es.length) (vc)]) rfl) ?_
 rintro _ _ ⟨b1, rfl, rfl⟩
 refine l_mv rfl rfl rfl (m_box (v := .agg #[.slice bva (B.length) (bvc), rv, Ix (gx), Ix (gy)]) rfl) ?_
 rintro _ _ ⟨b2, rfl, rfl⟩
 refine l_mv rfl rfl rfl (m_alloc tw45) ?_
 rintro _ _ ⟨b3, rfl, rfl⟩
 refine l_nil ?_
 refine f_then ?_
 refine c_seq ?_
 refine c_region ?_
 refine l_val (v := .pointer (some ⟨b1, 0, none⟩)) rfl rfl rfl (e_fieldPt (b := b1) (o := 0) rfl tw46) ?_
 refine l_val (v := Ix (tick)) rfl rfl rfl (e_load1 tw15 (v := Ix (tick)) rfl (k_pt 2 (cs := #[Ix (tick), .slice va (es.length) (vc)]) (vs := [Ix (tick)]) rfl rfl)) ?_
 refine l_val (v := .agg #[Ix (tick), .slice none 0 0]) rfl rfl rfl (e_build tw45 tw47 (vs := [(0, Ix (tick))]) (cells := #[Ix (tick), .slice none 0 0]) rfl rfl) ?_
 refine l_mv rfl rfl rfl (m_alloc tw45) ?_
 rintro _ _ ⟨b4, rfl, rfl⟩
 refine l_mu rfl rfl (m_store 0 tw48 (b := b4) (o := 0) (T := 24) (cs := #[.int .i64 (0), .slice none 0 0]) (cs' := #[Ix (tick), .slice none 0 0]) (v := .agg #[Ix (tick), .slice none 0 0]) rfl rfl rfl rfl rfl rfl rfl) ?_
 refine l_nil ?_
 refine f_then ?_
 refine c_seq ?_
 refine c_seq ?_
 refine c_emp (r := rowF HdF 59 none 0 []) (row_nil _ _ _) ?_
 refine c_emp (r := goodR [] []) good_nil ?_
 refine c_region ?_
 refine l_val (v := .int .i64 (0)) rfl rfl rfl (e_assign) ?_
 refine l_nil ?_
 refine f_then ?_
 refine c_block ?_
 refine c_mask [true, true, true, true, true, true] rfl ?_
 refine c_loop (fun (x_ : Nat × List KHd × Option Addr × Nat) (f : Fm) (L : List Res) => match x_ with | (k, hd, p, c) => (f 2 = .pointer (some ⟨b1, 0, none⟩) ∧ f 3 = .pointer (some ⟨b2, 0, none⟩) ∧ f 4 = .pointer (some ⟨b3, 0, none⟩) ∧ f 5 = .pointer (some ⟨b4, 0, none⟩) ∧ f 6 = Nx (k)) ∧ L = [goodR hd ((es.take k).map (backE B)), rowF HdF 59 p c hd, pt b4 (.cells #[Ix (tick), .slice p (hd.length) c] 24), pt b3 (.cells #[.int .i64 (0), .slice none 0 0] 24), pt b2 (.cells #[.slice bva (B.length) (bvc), rv, Ix (gx), Ix (gy)] 30), pt b1 (.cells #[Ix (tick), .slice va (es.length) (vc)] 24)] ∧ (k ≤ es.length ∧ hd.length = k)) (fun (x_ : Nat × List KHd × Option Addr × Nat) => match x_ with | (k, hd, p, c) => es.length - k) (0, [], none, 0) ?_ ?_
 ·exact ⟨⟨rfl, rfl, rfl, rfl, rfl⟩, rfl, ⟨by omega, rfl⟩⟩
 rintro ⟨k, hd, p, c⟩ f0 L0 ⟨⟨hs2, hs3, hs4, hs5, hs6⟩, hL, ⟨hk, hdl⟩⟩
 subst L0
 refine rebase (d := 2) hs2 ?_
 refine rebase (d := 3) hs3 ?_
 refine rebase (d := 4) hs4 ?_
 refine rebase (d := 5) hs5 ?_
 refine rebase (d := 6) hs6 ?_
 clear hs2 hs3 hs4 hs5 hs6
 refine c_seq ?_
 refine c_seq ?_
 refine c_region ?_
 refine l_val (v := Nx (k)) rfl rfl rfl (e_move) ?_
 refine l_val (v := .pointer (some ⟨b1, 1, none⟩)) rfl rfl rfl (e_fieldPt (b := b1) (o := 0) rfl tw26) ?_
 refine l_val (v := .slice va (es.length) (vc)) rfl rfl rfl (e_load1 tw27 (v := .slice va (es.length) (vc)) rfl (k_pt 5 (cs := #[Ix (tick), .slice va (es.length) (vc)]) (vs := [.slice va (es.length) (vc)]) rfl rfl)) ?_
 refine l_val (v := Nx (es.length)) rfl rfl rfl (e_len (a := va) (n := es.length) (c := vc) rfl tw28) ?_
 refine l_val (v := .bool (decide (((k : Nat) : Int) < ((es.length : Nat) : Int)))) rfl rfl rfl (e_lss (a := ((k : Nat) : Int)) (b := ((es.length : Nat) : Int)) rfl rfl) ?_
 refine l_nil ?_
 refine f_then ?_
 refine c_if (((k : Nat) : Int) < ((es.length : Nat) : Int)) rfl (fun hc5 => ?_) (fun hc5 => ?_)
 ·
  refine c_skip ?_
  refine f_then ?_
  refine c_seq ?_
  refine c_block ?_
  refine c_seq ?_
  obtain ⟨x6, hx7⟩ : ∃ x_, (es)[k]? = some x_ := ⟨_, List.getElem?_eq_getElem (by omega)⟩
  obtain ⟨ha8, cs9, hc10, hr11⟩ := ve _ _ hx7
  obtain ⟨v12, rfl, hv13⟩ := hr11
  obtain ⟨v12a, v12c, rfl, v12l, v12m, v12e⟩ := hv13.get
  have hcx := hcl x6 (List.mem_of_getElem? hx7)
  refine c_any [⟨[], [], [0], [24], fun f => f 24 = .pointer (some ⟨b1, 1, none⟩)⟩, ⟨[0], [0], [], [25], fun f => f 25 = .slice va (es.length) (vc)⟩, ⟨[], [], [1], [26], fun f => f 26 = Nx (k)⟩, ⟨[0, 1, 2], [1, 2], [], [27], fun f => f 27 = .pointer (some ((ba va).add (k * 2)))⟩, ⟨[0, 1, 2, 3], [3], [], [28], fun f => f 28 = .pointer (some (((ba va).add (k * 2) : Addr).add 0))⟩, ⟨[0, 1, 2, 3, 4], [4], [], [29], fun f => f 29 = Ix (x6.id)⟩, ⟨[], [], [], [30], fun f => f 30 = .slice (some ⟨(blk (f 30)), 0, none⟩) 0 0⟩, ⟨[], [], [0], [31], fun f => f 31 = .pointer (some ⟨b1, 1, none⟩)⟩, ⟨[7], [7], [], [32], fun f => f 32 = .slice va (es.length) (vc)⟩, ⟨[], [], [1], [33], fun f => f 33 = Nx (k)⟩, ⟨[7, 8, 9], [8, 9], [], [34], fun f => f 34 = .pointer (some ((ba va).add (k * 2)))⟩, ⟨[7, 8, 9, 10], [10], [], [35], fun f => f 35 = .pointer (some (((ba va).add (k * 2) : Addr).add 1))⟩, ⟨[7, 8, 9, 10, 11], [11], [], [36], fun f => f 36 = .slice v12a (x6.comps.length) (v12c)⟩, ⟨[6, 7, 8, 9, 10, 11, 12], [6, 12], [], [37], fun f => f 37 = .slice (sla (f 37)) (x6.comps.length) (slc (f 37))⟩, ⟨[0, 1, 2, 3, 4, 5, 6, 7, 8, 9, 10, 11, 12, 13], [5, 13], [], [37, 38], fun f => f 38 = .agg #[Ix (x6.id), .slice (sla (f 37)) (x6.comps.length) (slc (f 37))]⟩, ⟨[], [], [], [7], fun f => f 7 = .pointer (some ⟨(blk (f 7)), 0, none⟩)⟩, ⟨[0, 1, 2, 3, 4, 5, 6, 7, 8, 9, 10, 11, 12, 13, 14, 15], [15, 14], [], [], fun _ => True⟩] [⟨none, none, [], [], fun _ => goodR hd ((es.take k).map (backE B))⟩, ⟨none, none, [], [], fun _ => rowF HdF 59 p c hd⟩, ⟨none, none, [], [], fun _ => pt b4 (.cells #[Ix (tick), .slice p (hd.length) c] 24)⟩, ⟨none, none, [], [], fun _ => pt b3 (.cells #[.int .i64 (0), .slice none 0 0] 24)⟩, ⟨none, none, [], [], fun _ => pt b2 (.cells #[.slice bva (B.length) (bvc), rv, Ix (gx), Ix (gy)] 30)⟩, ⟨none, none, [1, 8], [], fun _ => pt b1 (.cells #[Ix (tick), .slice va (es.length) (vc)] 24)⟩, ⟨(some 6), (some 13), [13], [30], fun f => pt (blk (f 30)) (.cells #[] 120)⟩, ⟨(some 13), none, [], [37], fun f => rowF CompF 120 (sla (f 37)) (slc (f 37)) x6.comps⟩, ⟨(some 15), (some 16), [16], [7], fun f => pt (blk (f 7)) (.cells #[.int .i64 (0), .slice none 0 0] 59)⟩, ⟨(some 16), none, [], [7, 37], fun f => pt (blk (f 7)) (.cells #[Ix (x6.id), .slice (sla (f 37)) (x6.comps.length) (slc (f 37))] 59)⟩] [(2, .pointer (some ⟨b1, 0, none⟩)), (6, Nx (k)), (3, .pointer (some ⟨b2, 0, none⟩)), (4, .pointer (some ⟨b3, 0, none⟩)), (5, .pointer (some ⟨b4, 0, none⟩))] [0, 2, 3, 4, 1] [] (by kernel_rfl) (by kernel_rfl) (by kernel_rfl) (by kernel_rfl) rfl ⟨rfl, rfl, rfl, rfl, rfl, trivial⟩ ⟨?_, ?_, ?_, ?_, ?_, ?_, ?_, ?_, ?_, ?_, ?_, ?_, ?_, ?_, ?_, ?_, ?_, trivial⟩ ?_
  ·rintro f M - ⟨i0, -⟩
   have hs2 : f 2 = .pointer (some ⟨b1, 0, none⟩) := i0
   refine ob_start (L' := M) (by rfl) (up_cons rfl hs2) ?_
   refine l_val (v := .pointer (some ⟨b1, 1, none⟩)) rfl rfl rfl (e_fieldPt (b := b1) (o := 0) rfl tw26) ?_
   refine l_nil ?_
   exact f_owes_d (up_cons rfl hs2) rfl (List.Perm.refl _)
  ·rintro f M ⟨k0, -⟩ -
   have hs24 : f 24 = .pointer (some ⟨b1, 1, none⟩) := k0
   refine ob_start (L' := pt b1 (.cells #[Ix (tick), .slice va (es.length) (vc)] 24) :: M) (by rfl) (up_cons rfl hs24) ?_
   refine l_val (v := .slice va (es.length) (vc)) rfl rfl rfl (e_load1 tw27 (v := .slice va (es.length) (vc)) rfl (k_pt 0 (cs := #[Ix (tick), .slice va (es.length) (vc)]) (vs := [.slice va (es.length) (vc)]) rfl rfl)) ?_
   refine l_nil ?_
   exact f_owes_d (up_cons rfl hs24) rfl (perm_front 0 rfl)
  ·rintro f M - ⟨i0, -⟩
   have hs6 : f 6 = Nx (k) := i0
   refine ob_start (L' := M) (by rfl) (up_cons rfl hs6) ?_
   refine l_val (v := Nx (k)) rfl rfl rfl (e_move) ?_
   refine l_nil ?_
   exact f_owes_d (up_cons rfl hs6) rfl (List.Perm.refl _)
  ·rintro f M ⟨k0, k1, -⟩ -
   have hs25 : f 25 = .slice va (es.length) (vc) := k0
   have hs26 : f 26 = Nx (k) := k1
   refine ob_start (L' := M) (by rfl) (up_cons (up_cons rfl hs25) hs26) ?_
   refine l_val (v := .pointer (some ((ba va).add (k * 2)))) rfl rfl rfl (e_indexAddr (k := k) (len := es.length) (cap := vc) (a := va) rfl rfl tw29 (by omega) ha8) ?_
   refine l_nil ?_
   exact f_owes_d (up_cons (up_cons rfl hs25) hs26) rfl (List.Perm.refl _)
  ·rintro f M ⟨k0, -⟩ -
   have hs27 : f 27 = .pointer (some ((ba va).add (k * 2))) := k0
   refine ob_start (L' := M) (by rfl) (up_cons rfl hs27) ?_
   refine l_val (v := .pointer (some (((ba va).add (k * 2) : Addr).add 0))) rfl rfl rfl (e_fieldAddr (a := (ba va).add (k * 2)) rfl tw14) ?_
   refine l_nil ?_
   exact f_owes_d (up_cons rfl hs27) rfl (List.Perm.refl _)
  ·rintro f M ⟨k0, -⟩ -
   have hs28 : f 28 = .pointer (some (((ba va).add (k * 2) : Addr).add 0)) := k0
   refine ob_start (L' := M) (by rfl) (up_cons rfl hs28) ?_
   refine l_val (v := Ix (x6.id)) rfl rfl rfl (e_load1 tw15 (v := Ix (x6.id)) rfl (Knows.imp (Knows.of_base (Cs.mono _ _) hc10) (fun _ h => Cs.sub (vs := [Ix (x6.id)]) 0 h rfl))) ?_
   refine l_nil ?_
   exact f_owes_d (up_cons rfl hs28) rfl (List.Perm.refl _)
  ·rintro f M - -
   refine ob_start (L' := M) (by rfl) rfl ?_
   refine l_mv rfl rfl rfl (m_slice0 tw3) ?_
   rintro _ _ ⟨b15, rfl, rfl⟩
   refine l_nil ?_
   exact f_owes_d rfl rfl (perm_front 0 rfl)
  ·rintro f M - ⟨i0, -⟩
   have hs2 : f 2 = .pointer (some ⟨b1, 0, none⟩) := i0
   refine ob_start (L' := M) (by rfl) (up_cons rfl hs2) ?_
   refine l_val (v := .pointer (some ⟨b1, 1, none⟩)) rfl rfl rfl (e_fieldPt (b := b1) (o := 0) rfl tw26) ?_
   refine l_nil ?_
   exact f_owes_d (up_cons rfl hs2) rfl (List.Perm.refl _)
  ·rintro f M ⟨k0, -⟩ -
   have hs31 : f 31 = .pointer (some ⟨b1, 1, none⟩) := k0
   refine ob_start (L' := pt b1 (.cells #[Ix (tick), .slice va (es.length) (vc)] 24) :: M) (by rfl) (up_cons rfl hs31) ?_
   refine l_val (v := .slice va (es.length) (vc)) rfl rfl rfl (e_load1 tw27 (v := .slice va (es.length) (vc)) rfl (k_pt 0 (cs := #[Ix (tick), .slice va (es.length) (vc)]) (vs := [.slice va (es.length) (vc)]) rfl rfl)) ?_
   refine l_nil ?_
   exact f_owes_d (up_cons rfl hs31) rfl (perm_front 0 rfl)
  ·rintro f M - ⟨i0, -⟩
   have hs6 : f 6 = Nx (k) := i0
   refine ob_start (L' := M) (by rfl) (up_cons rfl hs6) ?_
   refine l_val (v := Nx (k)) rfl rfl rfl (e_move) ?_
   refine l_nil ?_
   exact f_owes_d (up_cons rfl hs6) rfl (List.Perm.refl _)
  ·rintro f M ⟨k0, k1, -⟩ -
   have hs32 : f 32 = .slice va (es.length) (vc) := k0
   have hs33 : f 33 = Nx (k) := k1
   refine ob_start (L' := M) (by rfl) (up_cons (up_cons rfl hs32) hs33) ?_
   refine l_val (v := .pointer (some ((ba va).add (k * 2)))) rfl rfl rfl (e_indexAddr (k := k) (len := es.length) (cap := vc) (a := va) rfl rfl tw29 (by omega) ha8) ?_
   refine l_nil ?_
   exact f_owes_d (up_cons (up_cons rfl hs32) hs33) rfl (List.Perm.refl _)
  ·rintro f M ⟨k0, -⟩ -
   have hs34 : f 34 = .pointer (some ((ba va).add (k * 2))) := k0
   refine ob_start (L' := M) (by rfl) (up_cons rfl hs34) ?_
   refine l_val (v := .pointer (some (((ba va).add (k * 2) : Addr).add 1))) rfl rfl rfl (e_fieldAddr (a := (ba va).add (k * 2)) rfl tw0) ?_
   refine l_nil ?_
   exact f_owes_d (up_cons rfl hs34) rfl (List.Perm.refl _)
  ·rintro f M ⟨k0, -⟩ -
   have hs35 : f 35 = .pointer (some (((ba va).add (k * 2) : Addr).add 1)) := k0
   refine ob_start (L' := M) (by rfl) (up_cons rfl hs35) ?_
   refine l_val (v := .slice v12a (x6.comps.length) (v12c)) rfl rfl rfl (e_load1 tw1 (v := .slice v12a (x6.comps.length) (v12c)) rfl (Knows.imp (Knows.of_base (Cs.mono _ _) hc10) (fun _ h => Cs.sub (vs := [.slice v12a (x6.comps.length) (v12c)]) 1 h rfl))) ?_
   refine l_nil ?_
   exact f_owes_d (up_cons rfl hs35) rfl (List.Perm.refl _)
  ·rintro f M ⟨k0, k1, -⟩ -
   have hs30 : f 30 = .slice (some ⟨(blk (f 30)), 0, none⟩) 0 0 := k0
   have hs36 : f 36 = .slice v12a (x6.comps.length) (v12c) := k1
   refine ob_start (L' := pt (blk (f 30)) (.cells #[] 120) :: M) (by rfl) (up_cons (up_cons rfl hs30) hs36) ?_
   refine l_conseq 0 (r' := rowF CompF 120 (some ⟨(blk (f 30)), 0, none⟩) 0 []) rfl (fun a h => pt_row (m := 0) (by decide) rfl a h) ?_
   refine l_mv rfl rfl rfl (m_appendFlN (F := CompF) 0 tw3 tw49 (p := (some ⟨(blk (f 30)), 0, none⟩)) (m := 0) (xs := []) (ys := x6.comps) (ao := v12a) (k := x6.comps.length) (c := v12c) rfl rfl rfl rfl rfl (Knows.of_base (Elems.mono _ _ _) v12e) (by first | omega | simp only [List.length_nil, List.length_cons, List.length_append, List.length_set]; omega) (by first | omega | simp only [List.length_nil, List.length_cons, List.length_append, List.length_set]; omega)) ?_
   rintro _ _ ⟨rp18, rc19, rfl, rfl⟩
   refine l_nil ?_
   exact f_owes_d (up_cons (up_cons rfl hs30) hs36) rfl (perm_front 0 rfl)
  ·rintro f M ⟨k0, k1, -⟩ -
   have hs29 : f 29 = Ix (x6.id) := k0
   have hs37 : f 37 = .slice (sla (f 37)) (x6.comps.length) (slc (f 37)) := k1
   refine ob_start (L' := M) (by rfl) (up_cons (up_cons rfl hs29) hs37) ?_
   refine l_val (v := .agg #[Ix (x6.id), .slice (sla (f 37)) (x6.comps.length) (slc (f 37))]) rfl rfl rfl (e_build tw51 tw50 (vs := [(0, Ix (x6.id)), (1, .slice (sla (f 37)) (x6.comps.length) (slc (f 37)))]) (cells := #[Ix (x6.id), .slice (sla (f 37)) (x6.comps.length) (slc (f 37))]) rfl rfl) ?_
   refine l_nil ?_
   exact f_owes_d (up_cons (up_cons rfl hs29) hs37) rfl (List.Perm.refl _)
  ·rintro f M - -
   refine ob_start (L' := M) (by rfl) rfl ?_
   refine l_mv rfl rfl rfl (m_alloc tw51) ?_
   rintro _ _ ⟨b21, rfl, rfl⟩
   refine l_nil ?_
   exact f_owes_d rfl rfl (perm_front 0 rfl)
  ·rintro f M ⟨k0, k1, -⟩ -
   have hs7 : f 7 = .pointer (some ⟨(blk (f 7)), 0, none⟩) := k0
   have hs38 : f 38 = .agg #[Ix (x6.id), .slice (sla (f 37)) (x6.comps.length) (slc (f 37))] := k1
   refine ob_start (L' := pt (blk (f 7)) (.cells #[.int .i64 (0), .slice none 0 0] 59) :: M) (by rfl) (up_cons (up_cons rfl hs7) hs38) ?_
   refine l_mu rfl rfl (m_store 0 tw7 (b := (blk (f 7))) (o := 0) (T := 59) (cs := #[.int .i64 (0), .slice none 0 0]) (cs' := #[Ix (x6.id), .slice (sla (f 37)) (x6.comps.length) (slc (f 37))]) (v := .agg #[Ix (x6.id), .slice (sla (f 37)) (x6.comps.length) (slc (f 37))]) rfl rfl rfl rfl rfl rfl rfl) ?_
   refine l_nil ?_
   exact f_owes_n (up_cons (up_cons rfl hs7) hs38) trivial (perm_front 0 rfl)
  rintro fa22 ⟨-, -, -, -, -, -, -, -, -, -, -, -, -, -, -, k15, -, -⟩ ⟨j0, j1, j2, j3, j4, -⟩
  refine f_re (L' := [goodR hd ((es.take k).map (backE B)), rowF HdF 59 p c hd, pt b4 (.cells #[Ix (tick), .slice p (hd.length) c] 24), pt b3 (.cells #[.int .i64 (0), .slice none 0 0] 24), pt b2 (.cells #[.slice bva (B.length) (bvc), rv, Ix (gx), Ix (gy)] 30), pt b1 (.cells #[Ix (tick), .slice va (es.length) (vc)] 24), rowF CompF 120 (sla (fa22 37)) (slc (fa22 37)) x6.comps, pt (blk (fa22 7)) (.cells #[Ix (x6.id), .slice (sla (fa22 37)) (x6.comps.length) (slc (fa22 37))] 59)]) (by rfl) ?_
  refine f_rebase (d := 2) (v := .pointer (some ⟨b1, 0, none⟩)) j0 ?_
  refine f_rebase (d := 3) (v := .pointer (some ⟨b2, 0, none⟩)) j1 ?_
  refine f_rebase (d := 4) (v := .pointer (some ⟨b3, 0, none⟩)) j2 ?_
  refine f_rebase (d := 5) (v := .pointer (some ⟨b4, 0, none⟩)) j3 ?_
  refine f_rebase (d := 6) (v := Nx (k)) j4 ?_
  refine f_rebase (d := 7) (v := .pointer (some ⟨(blk (fa22 7)), 0, none⟩)) k15 ?_
  refine f_then ?_
  refine c_seq ?_
  refine c_region ?_
  refine l_val (v := .agg #[Ix (x6.id), .slice (sla (fa22 37)) (x6.comps.length) (slc (fa22 37))]) rfl rfl rfl (e_load tw7 (cs := [Ix (x6.id), .slice (sla (fa22 37)) (x6.comps.length) (slc (fa22 37))]) rfl (k_pt 7 (cs := #[Ix (x6.id), .slice (sla (fa22 37)) (x6.comps.length) (slc (fa22 37))]) (vs := [Ix (x6.id), .slice (sla (fa22 37)) (x6.comps.length) (slc (fa22 37))]) rfl rfl) rfl) ?_
  refine l_call rfl rfl rfl (cl_value (fst := []) (cap := []) (vs := [.agg #[Ix (x6.id), .slice (sla (fa22 37)) (x6.comps.length) (slc (fa22 37))]]) (all := [.agg #[Ix (x6.id), .slice (sla (fa22 37)) (x6.comps.length) (slc (fa22 37))]]) tw30 rfl rfl rfl) ?_
  intro w hw
  obtain ⟨β1, sb, kn, hw1, back⟩ := St.frame_all hw
  refine (rbody_ok β1 w hw1 (x6.id) (sla (fa22 37)) (slc (fa22 37)) x6.comps (kn _ (k_flN 6 (F := CompF) (m := x6.comps.length) (xs := x6.comps) rfl rfl))).mono ?_
  rintro e w' ⟨rfl, hw'⟩
  refine ⟨_, rfl, _, back _ _ hw', ?_⟩
  clear hw hw1 hw' back kn sb
  refine l_val (v := .tuple #[.agg (bC (bodyD (x6.id) x6.comps)), .bool ((bodyOf (x6.id) x6.comps).isSome)]) rfl rfl rfl (e_move) ?_
  refine l_val (v := .agg (bC (bodyD (x6.id) x6.comps))) rfl rfl rfl (e_extract (vs := #[.agg (bC (bodyD (x6.id) x6.comps)), .bool ((bodyOf (x6.id) x6.comps).isSome)]) rfl rfl) ?_
  refine l_val (v := .bool ((bodyOf (x6.id) x6.comps).isSome)) rfl rfl rfl (e_extract (vs := #[.agg (bC (bodyD (x6.id) x6.comps)), .bool ((bodyOf (x6.id) x6.comps).isSome)]) rfl rfl) ?_
  refine l_mv rfl rfl rfl (m_alloc tw6) ?_
  rintro _ _ ⟨b23, rfl, rfl⟩
  refine l_mu rfl rfl (m_store 0 tw10 (b := b23) (o := 0) (T := 52) (cs := #[.int .i64 (0), .int .i64 (0), .int .i64 (0), .int .i64 (0), .int .i64 (0), .int .i64 (0), .int .i64 (0), .bool false, .bool false]) (cs' := (bC (bodyD (x6.id) x6.comps))) (v := .agg (bC (bodyD (x6.id) x6.comps))) rfl rfl rfl rfl rfl rfl rfl) ?_
  refine l_val (v := .bool ((bodyOf (x6.id) x6.comps).isSome)) rfl rfl rfl (e_assign) ?_
  refine l_nil ?_
  refine f_then ?_
  refine c_seq ?_
  refine c_region ?_
  refine l_val (v := .pointer (some ⟨b2, 0, none⟩)) rfl rfl rfl (e_fieldPt (b := b2) (o := 0) rfl tw31) ?_
  refine l_val (v := .slice bva (B.length) (bvc)) rfl rfl rfl (e_load1 tw32 (v := .slice bva (B.length) (bvc)) rfl (k_pt 5 (cs := #[.slice bva (B.length) (bvc), rv, Ix (gx), Ix (gy)]) (vs := [.slice bva (B.length) (bvc)]) rfl rfl)) ?_
  refine l_val (v := .pointer (some ⟨(blk (fa22 7)), 0, none⟩)) rfl rfl rfl (e_fieldPt (b := (blk (fa22 7))) (o := 0) rfl tw14) ?_
  refine l_val (v := Ix (x6.id)) rfl rfl rfl (e_load1 tw15 (v := Ix (x6.id)) rfl (k_pt 8 (cs := #[Ix (x6.id), .slice (sla (fa22 37)) (x6.comps.length) (slc (fa22 37))]) (vs := [Ix (x6.id)]) rfl rfl)) ?_
  refine l_call rfl rfl rfl (cl_value (fst := []) (cap := []) (vs := [.slice bva (B.length) (bvc), Ix (x6.id)]) (all := [.slice bva (B.length) (bvc), Ix (x6.id)]) tw38 rfl rfl rfl) ?_
  intro w hw
  obtain ⟨β1, sb, kn, hw1, back⟩ := St.frame_all hw
  refine (find7_ok β1 w hw1 _ B (Sl.mono _ _ _ _ _ sb hb) (x6.id)).mono ?_
  rintro e w' ⟨rfl, hw'⟩
  refine ⟨_, rfl, _, back _ _ hw', ?_⟩
  clear hw hw1 hw' back kn sb
  refine l_val (v := Ix ((idxI (fun y : KB => decide (y.id = (x6.id))) B))) rfl rfl rfl (e_assign) ?_
  refine l_nil ?_
  refine f_then ?_
  refine c_seq ?_
  refine c_seq ?_
  cases h0 : (bodyOf x6.id x6.comps).isSome
  ·
   refine c_region ?_
   refine l_val (v := .bool false) rfl rfl rfl (e_move) ?_
   refine l_val (v := .bool false) rfl rfl rfl (e_move) ?_
   refine l_skip rfl rfl rfl rfl rfl rfl ?_
   refine l_skip rfl rfl rfl rfl rfl rfl ?_
   refine l_val (v := .bool false) rfl rfl rfl (e_pick_f rfl) ?_
   refine l_nil ?_
   refine f_then ?_
   refine c_no rfl ?_
   refine c_skip ?_
   refine f_then ?_
   refine c_seq ?_
   refine c_region ?_
   refine l_val (v := .agg #[Ix (x6.id), .slice (sla (fa22 37)) (x6.comps.length) (slc (fa22 37))]) rfl rfl rfl (e_load tw7 (cs := [Ix (x6.id), .slice (sla (fa22 37)) (x6.comps.length) (slc (fa22 37))]) rfl (k_pt 8 (cs := #[Ix (x6.id), .slice (sla (fa22 37)) (x6.comps.length) (slc (fa22 37))]) (vs := [Ix (x6.id), .slice (sla (fa22 37)) (x6.comps.length) (slc (fa22 37))]) rfl rfl) rfl) ?_
   refine l_call rfl rfl rfl (cl_value (fst := []) (cap := []) (vs := [.agg #[Ix (x6.id), .slice (sla (fa22 37)) (x6.comps.length) (slc (fa22 37))]]) (all := [.agg #[Ix (x6.id), .slice (sla (fa22 37)) (x6.comps.length) (slc (fa22 37))]]) tw52 rfl rfl rfl) ?_
   intro w hw
   replace hw := hw.perm (L' := _ :: _ :: _ :: _ :: _ :: _ :: _ :: _ :: _ :: []) (by exact (((((((((perm_front 8 rfl).trans (perm_front 7 rfl)).trans (perm_front 7 rfl)).trans (perm_front 7 rfl)).trans (perm_front 7 rfl)).trans (perm_front 7 rfl)).trans (perm_front 7 rfl)).trans (perm_front 7 rfl)).trans (perm_front 8 rfl)))
   obtain ⟨β1, sb, kn, hw1, back⟩ := St.frame (L := [_]) (M := _ :: _ :: _ :: _ :: _ :: _ :: _ :: _ :: []) hw
   refine (rfreeN_ok β1 w (x6.id) _ _ x6.comps (m := x6.comps.length) rfl hw1).mono ?_
   rintro e w' ⟨rfl, hw'⟩
   refine ⟨_, rfl, _, back _ _ hw', ?_⟩
   clear hw hw1 hw' back kn sb
   refine l_nil ?_
   refine f_then ?_
   refine c_region ?_
   refine l_val (v := .pointer (some ⟨b4, 1, none⟩)) rfl rfl rfl (e_fieldPt (b := b4) (o := 0) rfl tw26) ?_
   refine l_val (v := .slice p (hd.length) c) rfl rfl rfl (e_load1 tw27 (v := .slice p (hd.length) c) rfl (k_pt 4 (cs := #[Ix (tick), .slice p (hd.length) c]) (vs := [.slice p (hd.length) c]) rfl rfl)) ?_
   refine l_val (v := .agg #[Ix (x6.id), .slice (sla (fa22 37)) (x6.comps.length) (slc (fa22 37))]) rfl rfl rfl (e_load tw7 (cs := [Ix (x6.id), .slice (sla (fa22 37)) (x6.comps.length) (slc (fa22 37))]) rfl (k_pt 8 (cs := #[Ix (x6.id), .slice (sla (fa22 37)) (x6.comps.length) (slc (fa22 37))]) (vs := [Ix (x6.id), .slice (sla (fa22 37)) (x6.comps.length) (slc (fa22 37))]) rfl rfl) rfl) ?_
   refine l_mv rfl rfl rfl (m_slices tw29 tw51 (vs := [(0, .agg #[Ix (x6.id), .slice (sla (fa22 37)) (x6.comps.length) (slc (fa22 37))])]) (cells := #[Ix (x6.id), .slice (sla (fa22 37)) (x6.comps.length) (slc (fa22 37))]) rfl rfl rfl rfl) ?_
   rintro _ _ ⟨b24, rfl, rfl⟩
   refine l_mv rfl rfl rfl (m_appendFlN (F := HdF) 4 tw29 tw53 (p := p) (m := hd.length) (xs := hd) (ys := [(⟨(x6.id), (sla (fa22 37)), x6.comps.length, (slc (fa22 37))⟩ : KHd)]) (ao := (some ⟨b24, 0, none⟩)) (k := 1) (c := 1) rfl rfl rfl rfl rfl (k_ptFl (z := (⟨(x6.id), (sla (fa22 37)), x6.comps.length, (slc (fa22 37))⟩ : KHd)) 0 rfl rfl) (by first | omega | simp only [List.length_nil, List.length_cons, List.length_append, List.length_set]; omega) (by first | omega | simp only [List.length_nil, List.length_cons, List.length_append, List.length_set]; omega)) ?_
   rintro _ _ ⟨rp25, rc26, rfl, rfl⟩
   refine l_val (v := .pointer (some ⟨b4, 1, none⟩)) rfl rfl rfl (e_fieldPt (b := b4) (o := 0) rfl tw26) ?_
   refine l_mu rfl rfl (m_store 5 tw27 (b := b4) (o := 1) (T := 24) (cs := #[Ix (tick), .slice p (hd.length) c]) (cs' := #[Ix (tick), .slice rp25 ((hd ++ [(⟨(x6.id), (sla (fa22 37)), x6.comps.length, (slc (fa22 37))⟩ : KHd)]).length) rc26]) (v := .slice rp25 ((hd ++ [(⟨(x6.id), (sla (fa22 37)), x6.comps.length, (slc (fa22 37))⟩ : KHd)]).length) rc26) rfl rfl rfl rfl rfl rfl rfl) ?_
   refine l_nil ?_
   refine f_block ?_
   refine f_then ?_
   refine c_region ?_
   refine l_val (v := Nx (k)) rfl rfl rfl (e_move) ?_
   refine l_val (v := Nx (k + 1)) rfl rfl rfl (e_add (a := ((k : Nat) : Int)) (b := (1 : Int)) rfl rfl (i64n (by omega) (by omega))) ?_
   refine l_val (v := Nx (k + 1)) rfl rfl rfl (e_assign) ?_
   refine l_nil ?_
   have hY : (freeC x6.comps) = backC B x6.id x6.comps := free_none h0
   refine f_perm (L' := [rowF CompF 120 (sla (fa22 37)) (slc (fa22 37)) (freeC x6.comps), goodR hd ((es.take k).map (backE B)), pt b24 (.cells #[Ix (x6.id), .slice (sla (fa22 37)) (x6.comps.length) (slc (fa22 37))] 59), pt b23 (.cells (bC (bodyD (x6.id) x6.comps)) 52), rowF HdF 59 rp25 rc26 (hd ++ [(⟨(x6.id), (sla (fa22 37)), x6.comps.length, (slc (fa22 37))⟩ : KHd)]), pt b4 (.cells #[Ix (tick), .slice rp25 ((hd ++ [(⟨(x6.id), (sla (fa22 37)), x6.comps.length, (slc (fa22 37))⟩ : KHd)]).length) rc26] 24), pt b3 (.cells #[.int .i64 (0), .slice none 0 0] 24), pt b2 (.cells #[.slice bva (B.length) (bvc), rv, Ix (gx), Ix (gy)] 30), pt b1 (.cells #[Ix (tick), .slice va (es.length) (vc)] 24), pt (blk (fa22 7)) (.cells #[Ix (x6.id), .slice (sla (fa22 37)) (x6.comps.length) (slc (fa22 37))] 59)]) (by exact (perm_ix [1, 3, 0, 2, 4, 5, 6, 7, 8, 9] 10 rfl (by kernel_rfl) (by kernel_rfl))) ?_
   refine f_merge (L := [rowF CompF 120 (sla (fa22 37)) (slc (fa22 37)) (freeC x6.comps), goodR hd ((es.take k).map (backE B))]) (M := [pt b24 (.cells #[Ix (x6.id), .slice (sla (fa22 37)) (x6.comps.length) (slc (fa22 37))] 59), pt b23 (.cells (bC (bodyD (x6.id) x6.comps)) 52), rowF HdF 59 rp25 rc26 (hd ++ [(⟨(x6.id), (sla (fa22 37)), x6.comps.length, (slc (fa22 37))⟩ : KHd)]), pt b4 (.cells #[Ix (tick), .slice rp25 ((hd ++ [(⟨(x6.id), (sla (fa22 37)), x6.comps.length, (slc (fa22 37))⟩ : KHd)]).length) rc26] 24), pt b3 (.cells #[.int .i64 (0), .slice none 0 0] 24), pt b2 (.cells #[.slice bva (B.length) (bvc), rv, Ix (gx), Ix (gy)] 30), pt b1 (.cells #[Ix (tick), .slice va (es.length) (vc)] 24), pt (blk (fa22 7)) (.cells #[Ix (x6.id), .slice (sla (fa22 37)) (x6.comps.length) (slc (fa22 37))] 59)]) (r := goodR (hd ++ [(⟨(x6.id), (sla (fa22 37)), x6.comps.length, (slc (fa22 37))⟩ : KHd)]) ((es.take (k + 1)).map (backE B))) (by rw [← back_next hx7 hY]; exact good_merge (by rw [hY, back_len])) ?_
   refine f_mask (L' := [goodR (hd ++ [(⟨(x6.id), (sla (fa22 37)), x6.comps.length, (slc (fa22 37))⟩ : KHd)]) ((es.take (k + 1)).map (backE B)), rowF HdF 59 rp25 rc26 (hd ++ [(⟨(x6.id), (sla (fa22 37)), x6.comps.length, (slc (fa22 37))⟩ : KHd)]), pt b4 (.cells #[Ix (tick), .slice rp25 ((hd ++ [(⟨(x6.id), (sla (fa22 37)), x6.comps.length, (slc (fa22 37))⟩ : KHd)]).length) rc26] 24), pt b3 (.cells #[.int .i64 (0), .slice none 0 0] 24), pt b2 (.cells #[.slice bva (B.length) (bvc), rv, Ix (gx), Ix (gy)] 30), pt b1 (.cells #[Ix (tick), .slice va (es.length) (vc)] 24)]) [true, false, false, true, true, true, true, true, false] rfl ?_
   exact f_cut ⟨(k + 1, (hd ++ [(⟨(x6.id), (sla (fa22 37)), x6.comps.length, (slc (fa22 37))⟩ : KHd)]), rp25, rc26), ⟨⟨rfl, rfl, rfl, rfl, rfl⟩, rfl, ⟨by omega, by rw [List.length_append]; simp only [List.length_cons, List.length_nil]; omega⟩⟩, (show es.length - (k + 1) < es.length - k from by omega)⟩
  ·
   rcases idxB_cases B x6.id with ⟨hn, hfn⟩ | ⟨ib, hib, hlb, hfo⟩
   ·
    refine c_region ?_
    refine l_val (v := .bool true) rfl rfl rfl (e_move) ?_
    refine l_val (v := .bool true) rfl rfl rfl (e_move) ?_
    refine g_val (v := Ix ((idxI (fun y : KB => decide (y.id = (x6.id))) B))) rfl rfl rfl rfl rfl (e_move) ?_
    refine g_val (v := .bool (decide ((0 : Int) ≤ ((idxI (fun y : KB => decide (y.id = (x6.id))) B))))) rfl rfl rfl rfl rfl (e_geq (a := ((idxI (fun y : KB => decide (y.id = (x6.id))) B))) (b := (0 : Int)) rfl rfl) ?_
    refine l_val (v := .bool (decide ((0 : Int) ≤ ((idxI (fun y : KB => decide (y.id = (x6.id))) B))))) rfl rfl rfl (e_pick_t rfl) ?_
    refine l_nil ?_
    refine f_then ?_
    refine c_if ((0 : Int) ≤ ((idxI (fun y : KB => decide (y.id = (x6.id))) B))) rfl (fun hc27 => ?_) (fun hc27 => ?_)
    ·
     exact absurd hc27 (by omega)
    ·
     refine c_skip ?_
     refine f_then ?_
     refine c_seq ?_
     refine c_region ?_
     refine l_val (v := .agg #[Ix (x6.id), .slice (sla (fa22 37)) (x6.comps.length) (slc (fa22 37))]) rfl rfl rfl (e_load tw7 (cs := [Ix (x6.id), .slice (sla (fa22 37)) (x6.comps.length) (slc (fa22 37))]) rfl (k_pt 8 (cs := #[Ix (x6.id), .slice (sla (fa22 37)) (x6.comps.length) (slc (fa22 37))]) (vs := [Ix (x6.id), .slice (sla (fa22 37)) (x6.comps.length) (slc (fa22 37))]) rfl rfl) rfl) ?_
     refine l_call rfl rfl rfl (cl_value (fst := []) (cap := []) (vs := [.agg #[Ix (x6.id), .slice (sla (fa22 37)) (x6.comps.length) (slc (fa22 37))]]) (all := [.agg #[Ix (x6.id), .slice (sla (fa22 37)) (x6.comps.length) (slc (fa22 37))]]) tw52 rfl rfl rfl) ?_
     intro w hw
     replace hw := hw.perm (L' := _ :: _ :: _ :: _ :: _ :: _ :: _ :: _ :: _ :: []) (by exact (((((((((perm_front 8 rfl).trans (perm_front 7 rfl)).trans (perm_front 7 rfl)).trans (perm_front 7 rfl)).trans (perm_front 7 rfl)).trans (perm_front 7 rfl)).trans (perm_front 7 rfl)).trans (perm_front 7 rfl)).trans (perm_front 8 rfl)))
     obtain ⟨β1, sb, kn, hw1, back⟩ := St.frame (L := [_]) (M := _ :: _ :: _ :: _ :: _ :: _ :: _ :: _ :: []) hw
     refine (rfreeN_ok β1 w (x6.id) _ _ x6.comps (m := x6.comps.length) rfl hw1).mono ?_
     rintro e w' ⟨rfl, hw'⟩
     refine ⟨_, rfl, _, back _ _ hw', ?_⟩
     clear hw hw1 hw' back kn sb
     refine l_nil ?_
     refine f_then ?_
     refine c_region ?_
     refine l_val (v := .pointer (some ⟨b4, 1, none⟩)) rfl rfl rfl (e_fieldPt (b := b4) (o := 0) rfl tw26) ?_
     refine l_val (v := .slice p (hd.length) c) rfl rfl rfl (e_load1 tw27 (v := .slice p (hd.length) c) rfl (k_pt 4 (cs := #[Ix (tick), .slice p (hd.length) c]) (vs := [.slice p (hd.length) c]) rfl rfl)) ?_
     refine l_val (v := .agg #[Ix (x6.id), .slice (sla (fa22 37)) (x6.comps.length) (slc (fa22 37))]) rfl rfl rfl (e_load tw7 (cs := [Ix (x6.id), .slice (sla (fa22 37)) (x6.comps.length) (slc (fa22 37))]) rfl (k_pt 8 (cs := #[Ix (x6.id), .slice (sla (fa22 37)) (x6.comps.length) (slc (fa22 37))]) (vs := [Ix (x6.id), .slice (sla (fa22 37)) (x6.comps.length) (slc (fa22 37))]) rfl rfl) rfl) ?_
     refine l_mv rfl rfl rfl (m_slices tw29 tw51 (vs := [(0, .agg #[Ix (x6.id), .slice (sla (fa22 37)) (x6.comps.length) (slc (fa22 37))])]) (cells := #[Ix (x6.id), .slice (sla (fa22 37)) (x6.comps.length) (slc (fa22 37))]) rfl rfl rfl rfl) ?_
     rintro _ _ ⟨b28, rfl, rfl⟩
     refine l_mv rfl rfl rfl (m_appendFlN (F := HdF) 4 tw29 tw53 (p := p) (m := hd.length) (xs := hd) (ys := [(⟨(x6.id), (sla (fa22 37)), x6.comps.length, (slc (fa22 37))⟩ : KHd)]) (ao := (some ⟨b28, 0, none⟩)) (k := 1) (c := 1) rfl rfl rfl rfl rfl (k_ptFl (z := (⟨(x6.id), (sla (fa22 37)), x6.comps.length, (slc (fa22 37))⟩ : KHd)) 0 rfl rfl) (by first | omega | simp only [List.length_nil, List.length_cons, List.length_append, List.length_set]; omega) (by first | omega | simp only [List.length_nil, List.length_cons, List.length_append, List.length_set]; omega)) ?_
     rintro _ _ ⟨rp29, rc30, rfl, rfl⟩
     refine l_val (v := .pointer (some ⟨b4, 1, none⟩)) rfl rfl rfl (e_fieldPt (b := b4) (o := 0) rfl tw26) ?_
     refine l_mu rfl rfl (m_store 5 tw27 (b := b4) (o := 1) (T := 24) (cs := #[Ix (tick), .slice p (hd.length) c]) (cs' := #[Ix (tick), .slice rp29 ((hd ++ [(⟨(x6.id), (sla (fa22 37)), x6.comps.length, (slc (fa22 37))⟩ : KHd)]).length) rc30]) (v := .slice rp29 ((hd ++ [(⟨(x6.id), (sla (fa22 37)), x6.comps.length, (slc (fa22 37))⟩ : KHd)]).length) rc30) rfl rfl rfl rfl rfl rfl rfl) ?_
     refine l_nil ?_
     refine f_block ?_
     refine f_then ?_
     refine c_region ?_
     refine l_val (v := Nx (k)) rfl rfl rfl (e_move) ?_
     refine l_val (v := Nx (k + 1)) rfl rfl rfl (e_add (a := ((k : Nat) : Int)) (b := (1 : Int)) rfl rfl (i64n (by omega) (by omega))) ?_
     refine l_val (v := Nx (k + 1)) rfl rfl rfl (e_assign) ?_
     refine l_nil ?_
     have hY : (freeC x6.comps) = backC B x6.id x6.comps := (free_body h0 rfl).trans (back_lost h0 hfn)
     refine f_perm (L' := [rowF CompF 120 (sla (fa22 37)) (slc (fa22 37)) (freeC x6.comps), goodR hd ((es.take k).map (backE B)), pt b28 (.cells #[Ix (x6.id), .slice (sla (fa22 37)) (x6.comps.length) (slc (fa22 37))] 59), pt b23 (.cells (bC (bodyD (x6.id) x6.comps)) 52), rowF HdF 59 rp29 rc30 (hd ++ [(⟨(x6.id), (sla (fa22 37)), x6.comps.length, (slc (fa22 37))⟩ : KHd)]), pt b4 (.cells #[Ix (tick), .slice rp29 ((hd ++ [(⟨(x6.id), (sla (fa22 37)), x6.comps.length, (slc (fa22 37))⟩ : KHd)]).length) rc30] 24), pt b3 (.cells #[.int .i64 (0), .slice none 0 0] 24), pt b2 (.cells #[.slice bva (B.length) (bvc), rv, Ix (gx), Ix (gy)] 30), pt b1 (.cells #[Ix (tick), .slice va (es.length) (vc)] 24), pt (blk (fa22 7)) (.cells #[Ix (x6.id), .slice (sla (fa22 37)) (x6.comps.length) (slc (fa22 37))] 59)]) (by exact (perm_ix [1, 3, 0, 2, 4, 5, 6, 7, 8, 9] 10 rfl (by kernel_rfl) (by kernel_rfl))) ?_
     refine f_merge (L := [rowF CompF 120 (sla (fa22 37)) (slc (fa22 37)) (freeC x6.comps), goodR hd ((es.take k).map (backE B))]) (M := [pt b28 (.cells #[Ix (x6.id), .slice (sla (fa22 37)) (x6.comps.length) (slc (fa22 37))] 59), pt b23 (.cells (bC (bodyD (x6.id) x6.comps)) 52), rowF HdF 59 rp29 rc30 (hd ++ [(⟨(x6.id), (sla (fa22 37)), x6.comps.length, (slc (fa22 37))⟩ : KHd)]), pt b4 (.cells #[Ix (tick), .slice rp29 ((hd ++ [(⟨(x6.id), (sla (fa22 37)), x6.comps.length, (slc (fa22 37))⟩ : KHd)]).length) rc30] 24), pt b3 (.cells #[.int .i64 (0), .slice none 0 0] 24), pt b2 (.cells #[.slice bva (B.length) (bvc), rv, Ix (gx), Ix (gy)] 30), pt b1 (.cells #[Ix (tick), .slice va (es.length) (vc)] 24), pt (blk (fa22 7)) (.cells #[Ix (x6.id), .slice (sla (fa22 37)) (x6.comps.length) (slc (fa22 37))] 59)]) (r := goodR (hd ++ [(⟨(x6.id), (sla (fa22 37)), x6.comps.length, (slc (fa22 37))⟩ : KHd)]) ((es.take (k + 1)).map (backE B))) (by rw [← back_next hx7 hY]; exact good_merge (by rw [hY, back_len])) ?_
     refine f_mask (L' := [goodR (hd ++ [(⟨(x6.id), (sla (fa22 37)), x6.comps.length, (slc (fa22 37))⟩ : KHd)]) ((es.take (k + 1)).map (backE B)), rowF HdF 59 rp29 rc30 (hd ++ [(⟨(x6.id), (sla (fa22 37)), x6.comps.length, (slc (fa22 37))⟩ : KHd)]), pt b4 (.cells #[Ix (tick), .slice rp29 ((hd ++ [(⟨(x6.id), (sla (fa22 37)), x6.comps.length, (slc (fa22 37))⟩ : KHd)]).length) rc30] 24), pt b3 (.cells #[.int .i64 (0), .slice none 0 0] 24), pt b2 (.cells #[.slice bva (B.length) (bvc), rv, Ix (gx), Ix (gy)] 30), pt b1 (.cells #[Ix (tick), .slice va (es.length) (vc)] 24)]) [true, false, false, true, true, true, true, true, false] rfl ?_
     exact f_cut ⟨(k + 1, (hd ++ [(⟨(x6.id), (sla (fa22 37)), x6.comps.length, (slc (fa22 37))⟩ : KHd)]), rp29, rc30), ⟨⟨rfl, rfl, rfl, rfl, rfl⟩, rfl, ⟨by omega, by rw [List.length_append]; simp only [List.length_cons, List.length_nil]; omega⟩⟩, (show es.length - (k + 1) < es.length - k from by omega)⟩
   ·
    rw [hib]
    obtain ⟨i1, c1, hx1, hk1, hc1, hf1⟩ := body_at1 h0
    have hl1 := (List.getElem?_eq_some_iff.1 hx1).1
    refine c_region ?_
    refine l_val (v := .bool true) rfl rfl rfl (e_move) ?_
    refine l_val (v := .bool true) rfl rfl rfl (e_move) ?_
    refine g_val (v := Nx (ib)) rfl rfl rfl rfl rfl (e_move) ?_
    refine g_val (v := .bool (decide ((0 : Int) ≤ ((ib : Nat) : Int)))) rfl rfl rfl rfl rfl (e_geq (a := ((ib : Nat) : Int)) (b := (0 : Int)) rfl rfl) ?_
    refine l_val (v := .bool (decide ((0 : Int) ≤ ((ib : Nat) : Int)))) rfl rfl rfl (e_pick_t rfl) ?_
    refine l_nil ?_
    refine f_then ?_
    refine c_if ((0 : Int) ≤ ((ib : Nat) : Int)) rfl (fun hc31 => ?_) (fun hc31 => ?_)
    ·
     refine c_seq ?_
     obtain ⟨ob, hob⟩ : ∃ x_, B[ib]? = some x_ := ⟨_, List.getElem?_eq_getElem (by omega)⟩
     obtain ⟨hao, co, hco, rfl⟩ := bve _ _ hob
     refine c_region ?_
     refine l_val (v := .pointer (some ⟨b2, 0, none⟩)) rfl rfl rfl (e_fieldPt (b := b2) (o := 0) rfl tw31) ?_
     refine l_val (v := .slice bva (B.length) (bvc)) rfl rfl rfl (e_load1 tw32 (v := .slice bva (B.length) (bvc)) rfl (k_pt 5 (cs := #[.slice bva (B.length) (bvc), rv, Ix (gx), Ix (gy)]) (vs := [.slice bva (B.length) (bvc)]) rfl rfl)) ?_
     refine l_val (v := Nx (ib)) rfl rfl rfl (e_move) ?_
     refine l_val (v := .pointer (some ((ba bva).add (ib * 9)))) rfl rfl rfl (e_indexAddr (k := ib) (len := B.length) (cap := bvc) (a := bva) rfl rfl tw33 (by omega) hao) ?_
     refine l_val (v := .agg (bC ob)) rfl rfl rfl (e_load tw10 (cs := (bodyE ob)) rfl (Knows.of_base (Cs.mono _ _) hco) rfl) ?_
     refine l_mv rfl rfl rfl (m_alloc tw6) ?_
     rintro _ _ ⟨b32, rfl, rfl⟩
     refine l_mu rfl rfl (m_store 0 tw10 (b := b32) (o := 0) (T := 52) (cs := #[.int .i64 (0), .int .i64 (0), .int .i64 (0), .int .i64 (0), .int .i64 (0), .int .i64 (0), .int .i64 (0), .bool false, .bool false]) (cs' := (bC ob)) (v := .agg (bC ob)) rfl rfl rfl rfl rfl rfl rfl) ?_
     refine l_nil ?_
     refine f_then ?_
     refine c_seq ?_
     refine c_region ?_
     refine l_val (v := .agg #[Ix (x6.id), .slice (sla (fa22 37)) (x6.comps.length) (slc (fa22 37))]) rfl rfl rfl (e_load tw7 (cs := [Ix (x6.id), .slice (sla (fa22 37)) (x6.comps.length) (slc (fa22 37))]) rfl (k_pt 9 (cs := #[Ix (x6.id), .slice (sla (fa22 37)) (x6.comps.length) (slc (fa22 37))]) (vs := [Ix (x6.id), .slice (sla (fa22 37)) (x6.comps.length) (slc (fa22 37))]) rfl rfl) rfl) ?_
     refine l_call rfl rfl rfl (cl_value (fst := []) (cap := []) (vs := [.agg #[Ix (x6.id), .slice (sla (fa22 37)) (x6.comps.length) (slc (fa22 37))], .int .u8 (1)]) (all := [.agg #[Ix (x6.id), .slice (sla (fa22 37)) (x6.comps.length) (slc (fa22 37))], .int .u8 (1)]) tw8 rfl rfl rfl) ?_
     intro w hw
     obtain ⟨β1, sb, kn, hw1, back⟩ := St.frame_all hw
     refine (rfirstN_ok β1 w hw1 (x6.id) (sla (fa22 37)) (slc (fa22 37)) x6.comps (m := x6.comps.length) rfl (kn _ (k_flN 8 (F := CompF) (m := x6.comps.length) (xs := x6.comps) rfl rfl)) 1).mono ?_
     rintro e w' ⟨rfl, hw'⟩
     refine ⟨_, rfl, _, back _ _ hw', ?_⟩
     clear hw hw1 hw' back kn sb
     refine l_val (v := Ix ((idxI (fun c : KComp => decide (c.kind = 1)) x6.comps))) rfl rfl rfl (e_assign) ?_
     refine l_nil ?_
     refine f_then ?_
     refine c_seq ?_
     rw [idxK_some hc1]
     refine c_rowsome 8 (F := CompF) rfl hx1 (fun hps33 => ?_)
     refine c_any [⟨[], [], [0], [61], fun f => f 61 = .pointer (some ⟨(blk (fa22 7)), 1, none⟩)⟩, ⟨[0], [0], [], [62], fun f => f 62 = .slice (sla (fa22 37)) (x6.comps.length) (slc (fa22 37))⟩, ⟨[], [], [1], [63], fun f => f 63 = Nx (i1)⟩, ⟨[], [], [0], [64], fun f => f 64 = .pointer (some ⟨(blk (fa22 7)), 1, none⟩)⟩, ⟨[3], [3], [], [65], fun f => f 65 = .slice (sla (fa22 37)) (x6.comps.length) (slc (fa22 37))⟩, ⟨[], [], [1], [66], fun f => f 66 = Nx (i1)⟩, ⟨[], [], [2], [67], fun f => f 67 = .pointer (some ⟨b32, 1, none⟩)⟩, ⟨[6], [6], [], [68], fun f => f 68 = .pointer (some ⟨b32, 1, none⟩)⟩, ⟨[6, 7], [7], [], [69], fun f => f 69 = Ix (ob.x)⟩, ⟨[], [], [2], [70], fun f => f 70 = .pointer (some ⟨b32, 1, none⟩)⟩, ⟨[9], [9], [], [71], fun f => f 71 = .pointer (some ⟨b32, 2, none⟩)⟩, ⟨[9, 10], [10], [], [72], fun f => f 72 = Ix (ob.y)⟩, ⟨[0, 1, 2], [1, 2], [], [73], fun f => f 73 = .pointer (some ((ba (sla (fa22 37))).add (i1 * 5)))⟩, ⟨[0, 1, 2, 12], [12], [], [74], fun f => f 74 = .pointer (some ((ba (sla (fa22 37))).add (i1 * 5 + 1)))⟩, ⟨[0, 1, 2, 6, 7, 8, 12, 13], [13], [], [75], fun f => f 75 = .pointer (some ((ba (sla (fa22 37))).add (i1 * 5 + 1)))⟩, ⟨[0, 1, 2, 6, 7, 8, 12, 13, 14], [14, 8], [], [], fun _ => True⟩, ⟨[3, 4, 5], [4, 5], [], [76], fun f => f 76 = .pointer (some ((ba (sla (fa22 37))).add (i1 * 5)))⟩, ⟨[3, 4, 5, 16], [16], [], [77], fun f => f 77 = .pointer (some ((ba (sla (fa22 37))).add (i1 * 5 + 1)))⟩, ⟨[0, 1, 2, 3, 4, 5, 6, 7, 8, 9, 10, 11, 12, 13, 14, 15, 16, 17], [17], [], [78], fun f => f 78 = .pointer (some ((ba (sla (fa22 37))).add (i1 * 5 + 2)))⟩, ⟨[0, 1, 2, 3, 4, 5, 6, 7, 8, 9, 10, 11, 12, 13, 14, 15, 16, 17, 18], [18, 11], [], [], fun _ => True⟩] [⟨none, none, [8, 11], [], fun _ => pt b32 (.cells (bC ob) 52)⟩, ⟨none, none, [], [], fun _ => pt b23 (.cells (bC (bodyD (x6.id) x6.comps)) 52)⟩, ⟨none, none, [], [], fun _ => goodR hd ((es.take k).map (backE B))⟩, ⟨none, none, [], [], fun _ => rowF HdF 59 p c hd⟩, ⟨none, none, [], [], fun _ => pt b4 (.cells #[Ix (tick), .slice p (hd.length) c] 24)⟩, ⟨none, none, [], [], fun _ => pt b3 (.cells #[.int .i64 (0), .slice none 0 0] 24)⟩, ⟨none, none, [], [], fun _ => pt b2 (.cells #[.slice bva (B.length) (bvc), rv, Ix (gx), Ix (gy)] 30)⟩, ⟨none, none, [], [], fun _ => pt b1 (.cells #[Ix (tick), .slice va (es.length) (vc)] 24)⟩, ⟨none, (some 15), [15], [], fun _ => rowF CompF 120 (sla (fa22 37)) (slc (fa22 37)) x6.comps⟩, ⟨none, none, [1, 4], [], fun _ => pt (blk (fa22 7)) (.cells #[Ix (x6.id), .slice (sla (fa22 37)) (x6.comps.length) (slc (fa22 37))] 59)⟩, ⟨(some 15), (some 19), [19], [], fun _ => rowF CompF 120 (sla (fa22 37)) (slc (fa22 37)) (x6.comps.set i1 (setV0 c1 ob.x))⟩, ⟨(some 19), none, [], [], fun _ => rowF CompF 120 (sla (fa22 37)) (slc (fa22 37)) ((x6.comps.set i1 (setV0 c1 ob.x)).set i1 (setV1 (setV0 c1 ob.x) ob.y))⟩] [(7, .pointer (some ⟨(blk (fa22 7)), 0, none⟩)), (12, Nx (i1)), (11, .pointer (some ⟨b32, 0, none⟩)), (2, .pointer (some ⟨b1, 0, none⟩)), (3, .pointer (some ⟨b2, 0, none⟩)), (4, .pointer (some ⟨b3, 0, none⟩)), (5, .pointer (some ⟨b4, 0, none⟩)), (6, Nx (k)), (8, .pointer (some ⟨b23, 0, none⟩))] [3, 4, 5, 6, 7, 0, 8, 2] [] (by kernel_rfl) (by kernel_rfl) (by kernel_rfl) (by kernel_rfl) rfl ⟨rfl, rfl, rfl, rfl, rfl, rfl, rfl, rfl, rfl, trivial⟩ ⟨?_, ?_, ?_, ?_, ?_, ?_, ?_, ?_, ?_, ?_, ?_, ?_, ?_, ?_, ?_, ?_, ?_, ?_, ?_, ?_, trivial⟩ ?_
     ·rintro f M - ⟨i0, -⟩
      have hs7 : f 7 = .pointer (some ⟨(blk (fa22 7)), 0, none⟩) := i0
      refine ob_start (L' := M) (by rfl) (up_cons rfl hs7) ?_
      refine l_val (v := .pointer (some ⟨(blk (fa22 7)), 1, none⟩)) rfl rfl rfl (e_fieldPt (b := (blk (fa22 7))) (o := 0) rfl tw0) ?_
      refine l_nil ?_
      exact f_owes_d (up_cons rfl hs7) rfl (List.Perm.refl _)
     ·rintro f M ⟨k0, -⟩ -
      have hs61 : f 61 = .pointer (some ⟨(blk (fa22 7)), 1, none⟩) := k0
      refine ob_start (L' := pt (blk (fa22 7)) (.cells #[Ix (x6.id), .slice (sla (fa22 37)) (x6.comps.length) (slc (fa22 37))] 59) :: M) (by rfl) (up_cons rfl hs61) ?_
      refine l_val (v := .slice (sla (fa22 37)) (x6.comps.length) (slc (fa22 37))) rfl rfl rfl (e_load1 tw1 (v := .slice (sla (fa22 37)) (x6.comps.length) (slc (fa22 37))) rfl (k_pt 0 (cs := #[Ix (x6.id), .slice (sla (fa22 37)) (x6.comps.length) (slc (fa22 37))]) (vs := [.slice (sla (fa22 37)) (x6.comps.length) (slc (fa22 37))]) rfl rfl)) ?_
      refine l_nil ?_
      exact f_owes_d (up_cons rfl hs61) rfl (perm_front 0 rfl)
     ·rintro f M - ⟨i0, -⟩
      have hs12 : f 12 = Nx (i1) := i0
      refine ob_start (L' := M) (by rfl) (up_cons rfl hs12) ?_
      refine l_val (v := Nx (i1)) rfl rfl rfl (e_move) ?_
      refine l_nil ?_
      exact f_owes_d (up_cons rfl hs12) rfl (List.Perm.refl _)
     ·rintro f M - ⟨i0, -⟩
      have hs7 : f 7 = .pointer (some ⟨(blk (fa22 7)), 0, none⟩) := i0
      refine ob_start (L' := M) (by rfl) (up_cons rfl hs7) ?_
      refine l_val (v := .pointer (some ⟨(blk (fa22 7)), 1, none⟩)) rfl rfl rfl (e_fieldPt (b := (blk (fa22 7))) (o := 0) rfl tw0) ?_
      refine l_nil ?_
      exact f_owes_d (up_cons rfl hs7) rfl (List.Perm.refl _)
     ·rintro f M ⟨k0, -⟩ -
      have hs64 : f 64 = .pointer (some ⟨(blk (fa22 7)), 1, none⟩) := k0
      refine ob_start (L' := pt (blk (fa22 7)) (.cells #[Ix (x6.id), .slice (sla (fa22 37)) (x6.comps.length) (slc (fa22 37))] 59) :: M) (by rfl) (up_cons rfl hs64) ?_
      refine l_val (v := .slice (sla (fa22 37)) (x6.comps.length) (slc (fa22 37))) rfl rfl rfl (e_load1 tw1 (v := .slice (sla (fa22 37)) (x6.comps.length) (slc (fa22 37))) rfl (k_pt 0 (cs := #[Ix (x6.id), .slice (sla (fa22 37)) (x6.comps.length) (slc (fa22 37))]) (vs := [.slice (sla (fa22 37)) (x6.comps.length) (slc (fa22 37))]) rfl rfl)) ?_
      refine l_nil ?_
      exact f_owes_d (up_cons rfl hs64) rfl (perm_front 0 rfl)
     ·rintro f M - ⟨i0, -⟩
      have hs12 : f 12 = Nx (i1) := i0
      refine ob_start (L' := M) (by rfl) (up_cons rfl hs12) ?_
      refine l_val (v := Nx (i1)) rfl rfl rfl (e_move) ?_
      refine l_nil ?_
      exact f_owes_d (up_cons rfl hs12) rfl (List.Perm.refl _)
     ·rintro f M - ⟨i0, -⟩
      have hs11 : f 11 = .pointer (some ⟨b32, 0, none⟩) := i0
      refine ob_start (L' := M) (by rfl) (up_cons rfl hs11) ?_
      refine l_val (v := .pointer (some ⟨b32, 1, none⟩)) rfl rfl rfl (e_fieldPt (b := b32) (o := 0) rfl tw54) ?_
      refine l_nil ?_
      exact f_owes_d (up_cons rfl hs11) rfl (List.Perm.refl _)
     ·rintro f M ⟨k0, -⟩ -
      have hs67 : f 67 = .pointer (some ⟨b32, 1, none⟩) := k0
      refine ob_start (L' := M) (by rfl) (up_cons rfl hs67) ?_
      refine l_val (v := .pointer (some ⟨b32, 1, none⟩)) rfl rfl rfl (e_fieldPt (b := b32) (o := 1) rfl tw55) ?_
      refine l_nil ?_
      exact f_owes_d (up_cons rfl hs67) rfl (List.Perm.refl _)
     ·rintro f M ⟨k0, -⟩ -
      have hs68 : f 68 = .pointer (some ⟨b32, 1, none⟩) := k0
      refine ob_start (L' := pt b32 (.cells (bC ob) 52) :: M) (by rfl) (up_cons rfl hs68) ?_
      refine l_val (v := Ix (ob.x)) rfl rfl rfl (e_load1 tw15 (v := Ix (ob.x)) rfl (k_pt 0 (cs := (bC ob)) (vs := [Ix (ob.x)]) rfl rfl)) ?_
      refine l_nil ?_
      exact f_owes_d (up_cons rfl hs68) rfl (perm_front 0 rfl)
     ·rintro f M - ⟨i0, -⟩
      have hs11 : f 11 = .pointer (some ⟨b32, 0, none⟩) := i0
      refine ob_start (L' := M) (by rfl) (up_cons rfl hs11) ?_
      refine l_val (v := .pointer (some ⟨b32, 1, none⟩)) rfl rfl rfl (e_fieldPt (b := b32) (o := 0) rfl tw54) ?_
      refine l_nil ?_
      exact f_owes_d (up_cons rfl hs11) rfl (List.Perm.refl _)
     ·rintro f M ⟨k0, -⟩ -
      have hs70 : f 70 = .pointer (some ⟨b32, 1, none⟩) := k0
      refine ob_start (L' := M) (by rfl) (up_cons rfl hs70) ?_
      refine l_val (v := .pointer (some ⟨b32, 2, none⟩)) rfl rfl rfl (e_fieldPt (b := b32) (o := 1) rfl tw56) ?_
      refine l_nil ?_
      exact f_owes_d (up_cons rfl hs70) rfl (List.Perm.refl _)
     ·rintro f M ⟨k0, -⟩ -
      have hs71 : f 71 = .pointer (some ⟨b32, 2, none⟩) := k0
      refine ob_start (L' := pt b32 (.cells (bC ob) 52) :: M) (by rfl) (up_cons rfl hs71) ?_
      refine l_val (v := Ix (ob.y)) rfl rfl rfl (e_load1 tw15 (v := Ix (ob.y)) rfl (k_pt 0 (cs := (bC ob)) (vs := [Ix (ob.y)]) rfl rfl)) ?_
      refine l_nil ?_
      exact f_owes_d (up_cons rfl hs71) rfl (perm_front 0 rfl)
     ·rintro f M ⟨k0, k1, -⟩ -
      have hs62 : f 62 = .slice (sla (fa22 37)) (x6.comps.length) (slc (fa22 37)) := k0
      have hs63 : f 63 = Nx (i1) := k1
      refine ob_start (L' := M) (by rfl) (up_cons (up_cons rfl hs62) hs63) ?_
      refine l_val (v := .pointer (some ((ba (sla (fa22 37))).add (i1 * 5)))) rfl rfl rfl (e_indexAddr (k := i1) (len := x6.comps.length) (cap := (slc (fa22 37))) (a := (sla (fa22 37))) rfl rfl tw3 (by omega) hps33) ?_
      refine l_nil ?_
      exact f_owes_d (up_cons (up_cons rfl hs62) hs63) rfl (List.Perm.refl _)
     ·rintro f M ⟨k0, -⟩ -
      have hs73 : f 73 = .pointer (some ((ba (sla (fa22 37))).add (i1 * 5))) := k0
      refine ob_start (L' := M) (by rfl) (up_cons rfl hs73) ?_
      refine l_val (v := .pointer (some ((ba (sla (fa22 37))).add (i1 * 5 + 1)))) rfl rfl rfl (ev_eq (congrArg (fun z => Value.pointer (some z)) (show ((ba (sla (fa22 37))).add (i1 * 5) : Addr).add 1 = (ba (sla (fa22 37))).add (i1 * 5 + 1) by rw [Addr.add_add'])) (e_fieldAddr (a := (ba (sla (fa22 37))).add (i1 * 5)) rfl tw11)) ?_
      refine l_nil ?_
      exact f_owes_d (up_cons rfl hs73) rfl (List.Perm.refl _)
     ·rintro f M ⟨k0, -⟩ -
      have hs74 : f 74 = .pointer (some ((ba (sla (fa22 37))).add (i1 * 5 + 1))) := k0
      refine ob_start (L' := M) (by rfl) (up_cons rfl hs74) ?_
      refine l_val (v := .pointer (some ((ba (sla (fa22 37))).add (i1 * 5 + 1)))) rfl rfl rfl (ev_eq (congrArg (fun z => Value.pointer (some z)) (show ((ba (sla (fa22 37))).add (i1 * 5 + 1) : Addr).add (0 * 1) = (ba (sla (fa22 37))).add (i1 * 5 + 1) by rw [Addr.add_add'] <;> rfl)) (e_indexArr (a := (ba (sla (fa22 37))).add (i1 * 5 + 1)) (k := 0) rfl rfl tw16 (by decide))) ?_
      refine l_nil ?_
      exact f_owes_d (up_cons rfl hs74) rfl (List.Perm.refl _)
     ·rintro f M ⟨k0, k1, -⟩ -
      have hs75 : f 75 = .pointer (some ((ba (sla (fa22 37))).add (i1 * 5 + 1))) := k0
      have hs69 : f 69 = Ix (ob.x) := k1
      refine ob_start (L' := rowF CompF 120 (sla (fa22 37)) (slc (fa22 37)) x6.comps :: M) (by rfl) (up_cons (up_cons rfl hs75) hs69) ?_
      refine l_mu rfl rfl (m_storeFlPart 0 (F := CompF) (p := (sla (fa22 37))) (k := i1) (o := 1) (xs := x6.comps) (z0 := c1) (z := (setV0 c1 ob.x)) tw15 rfl rfl rfl rfl rfl hx1 (by decide) rfl) ?_
      refine l_nil ?_
      exact f_owes_n (up_cons (up_cons rfl hs75) hs69) trivial (perm_front 0 rfl)
     ·rintro f M ⟨k0, k1, -⟩ -
      have hs65 : f 65 = .slice (sla (fa22 37)) (x6.comps.length) (slc (fa22 37)) := k0
      have hs66 : f 66 = Nx (i1) := k1
      refine ob_start (L' := M) (by rfl) (up_cons (up_cons rfl hs65) hs66) ?_
      refine l_val (v := .pointer (some ((ba (sla (fa22 37))).add (i1 * 5)))) rfl rfl rfl (e_indexAddr (k := i1) (len := x6.comps.length) (cap := (slc (fa22 37))) (a := (sla (fa22 37))) rfl rfl tw3 (by omega) hps33) ?_
      refine l_nil ?_
      exact f_owes_d (up_cons (up_cons rfl hs65) hs66) rfl (List.Perm.refl _)
     ·rintro f M ⟨k0, -⟩ -
      have hs76 : f 76 = .pointer (some ((ba (sla (fa22 37))).add (i1 * 5))) := k0
      refine ob_start (L' := M) (by rfl) (up_cons rfl hs76) ?_
      refine l_val (v := .pointer (some ((ba (sla (fa22 37))).add (i1 * 5 + 1)))) rfl rfl rfl (ev_eq (congrArg (fun z => Value.pointer (some z)) (show ((ba (sla (fa22 37))).add (i1 * 5) : Addr).add 1 = (ba (sla (fa22 37))).add (i1 * 5 + 1) by rw [Addr.add_add'])) (e_fieldAddr (a := (ba (sla (fa22 37))).add (i1 * 5)) rfl tw11)) ?_
      refine l_nil ?_
      exact f_owes_d (up_cons rfl hs76) rfl (List.Perm.refl _)
     ·rintro f M ⟨k0, -⟩ -
      have hs77 : f 77 = .pointer (some ((ba (sla (fa22 37))).add (i1 * 5 + 1))) := k0
      refine ob_start (L' := M) (by rfl) (up_cons rfl hs77) ?_
      refine l_val (v := .pointer (some ((ba (sla (fa22 37))).add (i1 * 5 + 2)))) rfl rfl rfl (ev_eq (congrArg (fun z => Value.pointer (some z)) (show ((ba (sla (fa22 37))).add (i1 * 5 + 1) : Addr).add (1 * 1) = (ba (sla (fa22 37))).add (i1 * 5 + 2) by rw [Addr.add_add'] <;> rfl)) (e_indexArr (a := (ba (sla (fa22 37))).add (i1 * 5 + 1)) (k := 1) rfl rfl tw16 (by decide))) ?_
      refine l_nil ?_
      exact f_owes_d (up_cons rfl hs77) rfl (List.Perm.refl _)
     ·rintro f M ⟨k0, k1, -⟩ -
      have hs78 : f 78 = .pointer (some ((ba (sla (fa22 37))).add (i1 * 5 + 2))) := k0
      have hs72 : f 72 = Ix (ob.y) := k1
      refine ob_start (L' := rowF CompF 120 (sla (fa22 37)) (slc (fa22 37)) (x6.comps.set i1 (setV0 c1 ob.x)) :: M) (by rfl) (up_cons (up_cons rfl hs78) hs72) ?_
      refine l_mu rfl rfl (m_storeFlPart 0 (F := CompF) (p := (sla (fa22 37))) (k := i1) (o := 2) (xs := (x6.comps.set i1 (setV0 c1 ob.x))) (z0 := (setV0 c1 ob.x)) (z := (setV1 (setV0 c1 ob.x) ob.y)) tw15 rfl rfl rfl rfl rfl (get_set (setV0 c1 ob.x) (by first | omega | (simp only [List.length_set]; omega))) (by decide) rfl) ?_
      refine l_nil ?_
      exact f_owes_n (up_cons (up_cons rfl hs78) hs72) trivial (perm_front 0 rfl)
     rintro fa34 ⟨-, -, -, -, -, -, -, -, -, -, -, -, -, -, -, -, -, -, -, -, -⟩ ⟨j0, j1, j2, j3, j4, j5, j6, j7, -⟩
     refine f_re (L' := [pt b32 (.cells (bC ob) 52), pt b23 (.cells (bC (bodyD (x6.id) x6.comps)) 52), goodR hd ((es.take k).map (backE B)), rowF HdF 59 p c hd, pt b4 (.cells #[Ix (tick), .slice p (hd.length) c] 24), pt b3 (.cells #[.int .i64 (0), .slice none 0 0] 24), pt b2 (.cells #[.slice bva (B.length) (bvc), rv, Ix (gx), Ix (gy)] 30), pt b1 (.cells #[Ix (tick), .slice va (es.length) (vc)] 24), pt (blk (fa22 7)) (.cells #[Ix (x6.id), .slice (sla (fa22 37)) (x6.comps.length) (slc (fa22 37))] 59), rowF CompF 120 (sla (fa22 37)) (slc (fa22 37)) ((x6.comps.set i1 (setV0 c1 ob.x)).set i1 (setV1 (setV0 c1 ob.x) ob.y))]) (by rfl) ?_
     refine f_rebase (d := 2) (v := .pointer (some ⟨b1, 0, none⟩)) j0 ?_
     refine f_rebase (d := 3) (v := .pointer (some ⟨b2, 0, none⟩)) j1 ?_
     refine f_rebase (d := 4) (v := .pointer (some ⟨b3, 0, none⟩)) j2 ?_
     refine f_rebase (d := 5) (v := .pointer (some ⟨b4, 0, none⟩)) j3 ?_
     refine f_rebase (d := 6) (v := Nx (k)) j4 ?_
     refine f_rebase (d := 7) (v := .pointer (some ⟨(blk (fa22 7)), 0, none⟩)) j5 ?_
     refine f_rebase (d := 8) (v := .pointer (some ⟨b23, 0, none⟩)) j6 ?_
     refine f_rebase (d := 11) (v := .pointer (some ⟨b32, 0, none⟩)) j7 ?_
     refine f_then ?_
     refine c_seq ?_
     refine c_region ?_
     refine l_val (v := .pointer (some ⟨b23, 8, none⟩)) rfl rfl rfl (e_fieldPt (b := b23) (o := 0) rfl tw19) ?_
     refine l_val (v := .bool ((bodyD (x6.id) x6.comps).fixed)) rfl rfl rfl (e_load1 tw20 (v := .bool ((bodyD (x6.id) x6.comps).fixed)) rfl (k_pt 1 (cs := (bC (bodyD (x6.id) x6.comps))) (vs := [.bool ((bodyD (x6.id) x6.comps).fixed)]) rfl rfl)) ?_
     refine l_val (v := .bool (!((bodyD (x6.id) x6.comps).fixed))) rfl rfl rfl (e_not rfl) ?_
     refine l_nil ?_
     refine f_then ?_
     refine c_ifb (!((bodyD (x6.id) x6.comps).fixed)) rfl (fun hc35 => ?_) (fun hc35 => ?_)
     ·
      have hfx : (bodyD x6.id x6.comps).fixed = false := by simpa using hc35
      obtain ⟨i2, c2, hx2, hk2, hc2, hf2⟩ := body_at2 h0 hfx
      have hl2 := (List.getElem?_eq_some_iff.1 hx2).1
      have hij : i1 ≠ i2 := idx_ne hx1 hx2 hk1 hk2
      refine c_seq ?_
      refine c_region ?_
      refine l_val (v := .agg #[Ix (x6.id), .slice (sla (fa22 37)) (x6.comps.length) (slc (fa22 37))]) rfl rfl rfl (e_load tw7 (cs := [Ix (x6.id), .slice (sla (fa22 37)) (x6.comps.length) (slc (fa22 37))]) rfl (k_pt 8 (cs := #[Ix (x6.id), .slice (sla (fa22 37)) (x6.comps.length) (slc (fa22 37))]) (vs := [Ix (x6.id), .slice (sla (fa22 37)) (x6.comps.length) (slc (fa22 37))]) rfl rfl) rfl) ?_
      refine l_call rfl rfl rfl (cl_value (fst := []) (cap := []) (vs := [.agg #[Ix (x6.id), .slice (sla (fa22 37)) (x6.comps.length) (slc (fa22 37))], .int .u8 (2)]) (all := [.agg #[Ix (x6.id), .slice (sla (fa22 37)) (x6.comps.length) (slc (fa22 37))], .int .u8 (2)]) tw8 rfl rfl rfl) ?_
      intro w hw
      obtain ⟨β1, sb, kn, hw1, back⟩ := St.frame_all hw
      refine (rfirstN_ok β1 w hw1 (x6.id) (sla (fa22 37)) (slc (fa22 37)) ((x6.comps.set i1 (setV0 c1 ob.x)).set i1 (setV1 (setV0 c1 ob.x) ob.y)) (m := x6.comps.length) (by simp only [List.length_set]) (kn _ (k_flN 9 (F := CompF) (m := x6.comps.length) (xs := ((x6.comps.set i1 (setV0 c1 ob.x)).set i1 (setV1 (setV0 c1 ob.x) ob.y))) rfl (by simp only [List.length_set]))) 2).mono ?_
      rintro e w' ⟨rfl, hw'⟩
      refine ⟨_, rfl, _, back _ _ hw', ?_⟩
      clear hw hw1 hw' back kn sb
      refine l_val (v := Ix ((idxI (fun c : KComp => decide (c.kind = 2)) ((x6.comps.set i1 (setV0 c1 ob.x)).set i1 (setV1 (setV0 c1 ob.x) ob.y))))) rfl rfl rfl (e_assign) ?_
      refine l_nil ?_
      refine f_then ?_
      have hK1 : ((x6.comps.set i1 (setV0 c1 ob.x)).set i1 (setV1 (setV0 c1 ob.x) ob.y)).map (·.kind) = x6.comps.map (·.kind) := by simp only [List.set_set]; exact kinds_set hx1 rfl
      rw [idxI_kinds hK1, idxK_some hc2]
      refine c_any [⟨[], [], [0], [84], fun f => f 84 = .pointer (some ⟨(blk (fa22 7)), 1, none⟩)⟩, ⟨[0], [0], [], [85], fun f => f 85 = .slice (sla (fa22 37)) (x6.comps.length) (slc (fa22 37))⟩, ⟨[], [], [1], [86], fun f => f 86 = Nx (i2)⟩, ⟨[], [], [0], [87], fun f => f 87 = .pointer (some ⟨(blk (fa22 7)), 1, none⟩)⟩, ⟨[3], [3], [], [88], fun f => f 88 = .slice (sla (fa22 37)) (x6.comps.length) (slc (fa22 37))⟩, ⟨[], [], [1], [89], fun f => f 89 = Nx (i2)⟩, ⟨[], [], [2], [90], fun f => f 90 = .pointer (some ⟨b32, 3, none⟩)⟩, ⟨[6], [6], [], [91], fun f => f 91 = .pointer (some ⟨b32, 3, none⟩)⟩, ⟨[6, 7], [7], [], [92], fun f => f 92 = Ix (ob.vx)⟩, ⟨[], [], [2], [93], fun f => f 93 = .pointer (some ⟨b32, 3, none⟩)⟩, ⟨[9], [9], [], [94], fun f => f 94 = .pointer (some ⟨b32, 4, none⟩)⟩, ⟨[9, 10], [10], [], [95], fun f => f 95 = Ix (ob.vy)⟩, ⟨[0, 1, 2], [1, 2], [], [96], fun f => f 96 = .pointer (some ((ba (sla (fa22 37))).add (i2 * 5)))⟩, ⟨[0, 1, 2, 12], [12], [], [97], fun f => f 97 = .pointer (some ((ba (sla (fa22 37))).add (i2 * 5 + 1)))⟩, ⟨[0, 1, 2, 6, 7, 8, 12, 13], [13], [], [98], fun f => f 98 = .pointer (some ((ba (sla (fa22 37))).add (i2 * 5 + 1)))⟩, ⟨[0, 1, 2, 6, 7, 8, 12, 13, 14], [14, 8], [], [], fun _ => True⟩, ⟨[3, 4, 5], [4, 5], [], [99], fun f => f 99 = .pointer (some ((ba (sla (fa22 37))).add (i2 * 5)))⟩, ⟨[3, 4, 5, 16], [16], [], [100], fun f => f 100 = .pointer (some ((ba (sla (fa22 37))).add (i2 * 5 + 1)))⟩, ⟨[0, 1, 2, 3, 4, 5, 6, 7, 8, 9, 10, 11, 12, 13, 14, 15, 16, 17], [17], [], [101], fun f => f 101 = .pointer (some ((ba (sla (fa22 37))).add (i2 * 5 + 2)))⟩, ⟨[0, 1, 2, 3, 4, 5, 6, 7, 8, 9, 10, 11, 12, 13, 14, 15, 16, 17, 18], [18, 11], [], [], fun _ => True⟩] [⟨none, none, [8, 11], [], fun _ => pt b32 (.cells (bC ob) 52)⟩, ⟨none, none, [], [], fun _ => pt b23 (.cells (bC (bodyD (x6.id) x6.comps)) 52)⟩, ⟨none, none, [], [], fun _ => goodR hd ((es.take k).map (backE B))⟩, ⟨none, none, [], [], fun _ => rowF HdF 59 p c hd⟩, ⟨none, none, [], [], fun _ => pt b4 (.cells #[Ix (tick), .slice p (hd.length) c] 24)⟩, ⟨none, none, [], [], fun _ => pt b3 (.cells #[.int .i64 (0), .slice none 0 0] 24)⟩, ⟨none, none, [], [], fun _ => pt b2 (.cells #[.slice bva (B.length) (bvc), rv, Ix (gx), Ix (gy)] 30)⟩, ⟨none, none, [], [], fun _ => pt b1 (.cells #[Ix (tick), .slice va (es.length) (vc)] 24)⟩, ⟨none, none, [1, 4], [], fun _ => pt (blk (fa22 7)) (.cells #[Ix (x6.id), .slice (sla (fa22 37)) (x6.comps.length) (slc (fa22 37))] 59)⟩, ⟨none, (some 15), [15], [], fun _ => rowF CompF 120 (sla (fa22 37)) (slc (fa22 37)) ((x6.comps.set i1 (setV0 c1 ob.x)).set i1 (setV1 (setV0 c1 ob.x) ob.y))⟩, ⟨(some 15), (some 19), [19], [], fun _ => rowF CompF 120 (sla (fa22 37)) (slc (fa22 37)) (((x6.comps.set i1 (setV0 c1 ob.x)).set i1 (setV1 (setV0 c1 ob.x) ob.y)).set i2 (setV0 c2 ob.vx))⟩, ⟨(some 19), none, [], [], fun _ => rowF CompF 120 (sla (fa22 37)) (slc (fa22 37)) ((((x6.comps.set i1 (setV0 c1 ob.x)).set i1 (setV1 (setV0 c1 ob.x) ob.y)).set i2 (setV0 c2 ob.vx)).set i2 (setV1 (setV0 c2 ob.vx) ob.vy))⟩] [(7, .pointer (some ⟨(blk (fa22 7)), 0, none⟩)), (13, Nx (i2)), (11, .pointer (some ⟨b32, 0, none⟩)), (2, .pointer (some ⟨b1, 0, none⟩)), (3, .pointer (some ⟨b2, 0, none⟩)), (4, .pointer (some ⟨b3, 0, none⟩)), (5, .pointer (some ⟨b4, 0, none⟩)), (6, Nx (k))] [3, 4, 5, 6, 7, 0] [] (by kernel_rfl) (by kernel_rfl) (by kernel_rfl) (by kernel_rfl) rfl ⟨rfl, rfl, rfl, rfl, rfl, rfl, rfl, rfl, trivial⟩ ⟨?_, ?_, ?_, ?_, ?_, ?_, ?_, ?_, ?_, ?_, ?_, ?_, ?_, ?_, ?_, ?_, ?_, ?_, ?_, ?_, trivial⟩ ?_
      ·rintro f M - ⟨i0, -⟩
       have hs7 : f 7 = .pointer (some ⟨(blk (fa22 7)), 0, none⟩) := i0
       refine ob_start (L' := M) (by rfl) (up_cons rfl hs7) ?_
       refine l_val (v := .pointer (some ⟨(blk (fa22 7)), 1, none⟩)) rfl rfl rfl (e_fieldPt (b := (blk (fa22 7))) (o := 0) rfl tw0) ?_
       refine l_nil ?_
       exact f_owes_d (up_cons rfl hs7) rfl (List.Perm.refl _)
      ·rintro f M ⟨k0, -⟩ -
       have hs84 : f 84 = .pointer (some ⟨(blk (fa22 7)), 1, none⟩) := k0
       refine ob_start (L' := pt (blk (fa22 7)) (.cells #[Ix (x6.id), .slice (sla (fa22 37)) (x6.comps.length) (slc (fa22 37))] 59) :: M) (by rfl) (up_cons rfl hs84) ?_
       refine l_val (v := .slice (sla (fa22 37)) (x6.comps.length) (slc (fa22 37))) rfl rfl rfl (e_load1 tw1 (v := .slice (sla (fa22 37)) (x6.comps.length) (slc (fa22 37))) rfl (k_pt 0 (cs := #[Ix (x6.id), .slice (sla (fa22 37)) (x6.comps.length) (slc (fa22 37))]) (vs := [.slice (sla (fa22 37)) (x6.comps.length) (slc (fa22 37))]) rfl rfl)) ?_
       refine l_nil ?_
       exact f_owes_d (up_cons rfl hs84) rfl (perm_front 0 rfl)
      ·rintro f M - ⟨i0, -⟩
       have hs13 : f 13 = Nx (i2) := i0
       refine ob_start (L' := M) (by rfl) (up_cons rfl hs13) ?_
       refine l_val (v := Nx (i2)) rfl rfl rfl (e_move) ?_
       refine l_nil ?_
       exact f_owes_d (up_cons rfl hs13) rfl (List.Perm.refl _)
      ·rintro f M - ⟨i0, -⟩
       have hs7 : f 7 = .pointer (some ⟨(blk (fa22 7)), 0, none⟩) := i0
       refine ob_start (L' := M) (by rfl) (up_cons rfl hs7) ?_
       refine l_val (v := .pointer (some ⟨(blk (fa22 7)), 1, none⟩)) rfl rfl rfl (e_fieldPt (b := (blk (fa22 7))) (o := 0) rfl tw0) ?_
       refine l_nil ?_
       exact f_owes_d (up_cons rfl hs7) rfl (List.Perm.refl _)
      ·rintro f M ⟨k0, -⟩ -
       have hs87 : f 87 = .pointer (some ⟨(blk (fa22 7)), 1, none⟩) := k0
       refine ob_start (L' := pt (blk (fa22 7)) (.cells #[Ix (x6.id), .slice (sla (fa22 37)) (x6.comps.length) (slc (fa22 37))] 59) :: M) (by rfl) (up_cons rfl hs87) ?_
       refine l_val (v := .slice (sla (fa22 37)) (x6.comps.length) (slc (fa22 37))) rfl rfl rfl (e_load1 tw1 (v := .slice (sla (fa22 37)) (x6.comps.length) (slc (fa22 37))) rfl (k_pt 0 (cs := #[Ix (x6.id), .slice (sla (fa22 37)) (x6.comps.length) (slc (fa22 37))]) (vs := [.slice (sla (fa22 37)) (x6.comps.length) (slc (fa22 37))]) rfl rfl)) ?_
       refine l_nil ?_
       exact f_owes_d (up_cons rfl hs87) rfl (perm_front 0 rfl)
      ·rintro f M - ⟨i0, -⟩
       have hs13 : f 13 = Nx (i2) := i0
       refine ob_start (L' := M) (by rfl) (up_cons rfl hs13) ?_
       refine l_val (v := Nx (i2)) rfl rfl rfl (e_move) ?_
       refine l_nil ?_
       exact f_owes_d (up_cons rfl hs13) rfl (List.Perm.refl _)
      ·rintro f M - ⟨i0, -⟩
       have hs11 : f 11 = .pointer (some ⟨b32, 0, none⟩) := i0
       refine ob_start (L' := M) (by rfl) (up_cons rfl hs11) ?_
       refine l_val (v := .pointer (some ⟨b32, 3, none⟩)) rfl rfl rfl (e_fieldPt (b := b32) (o := 0) rfl tw21) ?_
       refine l_nil ?_
       exact f_owes_d (up_cons rfl hs11) rfl (List.Perm.refl _)
      ·rintro f M ⟨k0, -⟩ -
       have hs90 : f 90 = .pointer (some ⟨b32, 3, none⟩) := k0
       refine ob_start (L' := M) (by rfl) (up_cons rfl hs90) ?_
       refine l_val (v := .pointer (some ⟨b32, 3, none⟩)) rfl rfl rfl (e_fieldPt (b := b32) (o := 3) rfl tw55) ?_
       refine l_nil ?_
       exact f_owes_d (up_cons rfl hs90) rfl (List.Perm.refl _)
      ·rintro f M ⟨k0, -⟩ -
       have hs91 : f 91 = .pointer (some ⟨b32, 3, none⟩) := k0
       refine ob_start (L' := pt b32 (.cells (bC ob) 52) :: M) (by rfl) (up_cons rfl hs91) ?_
       refine l_val (v := Ix (ob.vx)) rfl rfl rfl (e_load1 tw15 (v := Ix (ob.vx)) rfl (k_pt 0 (cs := (bC ob)) (vs := [Ix (ob.vx)]) rfl rfl)) ?_
       refine l_nil ?_
       exact f_owes_d (up_cons rfl hs91) rfl (perm_front 0 rfl)
      ·rintro f M - ⟨i0, -⟩
       have hs11 : f 11 = .pointer (some ⟨b32, 0, none⟩) := i0
       refine ob_start (L' := M) (by rfl) (up_cons rfl hs11) ?_
       refine l_val (v := .pointer (some ⟨b32, 3, none⟩)) rfl rfl rfl (e_fieldPt (b := b32) (o := 0) rfl tw21) ?_
       refine l_nil ?_
       exact f_owes_d (up_cons rfl hs11) rfl (List.Perm.refl _)
      ·rintro f M ⟨k0, -⟩ -
       have hs93 : f 93 = .pointer (some ⟨b32, 3, none⟩) := k0
       refine ob_start (L' := M) (by rfl) (up_cons rfl hs93) ?_
       refine l_val (v := .pointer (some ⟨b32, 4, none⟩)) rfl rfl rfl (e_fieldPt (b := b32) (o := 3) rfl tw56) ?_
       refine l_nil ?_
       exact f_owes_d (up_cons rfl hs93) rfl (List.Perm.refl _)
      ·rintro f M ⟨k0, -⟩ -
       have hs94 : f 94 = .pointer (some ⟨b32, 4, none⟩) := k0
       refine ob_start (L' := pt b32 (.cells (bC ob) 52) :: M) (by rfl) (up_cons rfl hs94) ?_
       refine l_val (v := Ix (ob.vy)) rfl rfl rfl (e_load1 tw15 (v := Ix (ob.vy)) rfl (k_pt 0 (cs := (bC ob)) (vs := [Ix (ob.vy)]) rfl rfl)) ?_
       refine l_nil ?_
       exact f_owes_d (up_cons rfl hs94) rfl (perm_front 0 rfl)
      ·rintro f M ⟨k0, k1, -⟩ -
       have hs85 : f 85 = .slice (sla (fa22 37)) (x6.comps.length) (slc (fa22 37)) := k0
       have hs86 : f 86 = Nx (i2) := k1
       refine ob_start (L' := M) (by rfl) (up_cons (up_cons rfl hs85) hs86) ?_
       refine l_val (v := .pointer (some ((ba (sla (fa22 37))).add (i2 * 5)))) rfl rfl rfl (e_indexAddr (k := i2) (len := x6.comps.length) (cap := (slc (fa22 37))) (a := (sla (fa22 37))) rfl rfl tw3 (by omega) hps33) ?_
       refine l_nil ?_
       exact f_owes_d (up_cons (up_cons rfl hs85) hs86) rfl (List.Perm.refl _)
      ·rintro f M ⟨k0, -⟩ -
       have hs96 : f 96 = .pointer (some ((ba (sla (fa22 37))).add (i2 * 5))) := k0
       refine ob_start (L' := M) (by rfl) (up_cons rfl hs96) ?_
       refine l_val (v := .pointer (some ((ba (sla (fa22 37))).add (i2 * 5 + 1)))) rfl rfl rfl (ev_eq (congrArg (fun z => Value.pointer (some z)) (show ((ba (sla (fa22 37))).add (i2 * 5) : Addr).add 1 = (ba (sla (fa22 37))).add (i2 * 5 + 1) by rw [Addr.add_add'])) (e_fieldAddr (a := (ba (sla (fa22 37))).add (i2 * 5)) rfl tw11)) ?_
       refine l_nil ?_
       exact f_owes_d (up_cons rfl hs96) rfl (List.Perm.refl _)
      ·rintro f M ⟨k0, -⟩ -
       have hs97 : f 97 = .pointer (some ((ba (sla (fa22 37))).add (i2 * 5 + 1))) := k0
       refine ob_start (L' := M) (by rfl) (up_cons rfl hs97) ?_
       refine l_val (v := .pointer (some ((ba (sla (fa22 37))).add (i2 * 5 + 1)))) rfl rfl rfl (ev_eq (congrArg (fun z => Value.pointer (some z)) (show ((ba (sla (fa22 37))).add (i2 * 5 + 1) : Addr).add (0 * 1) = (ba (sla (fa22 37))).add (i2 * 5 + 1) by rw [Addr.add_add'] <;> rfl)) (e_indexArr (a := (ba (sla (fa22 37))).add (i2 * 5 + 1)) (k := 0) rfl rfl tw16 (by decide))) ?_
       refine l_nil ?_
       exact f_owes_d (up_cons rfl hs97) rfl (List.Perm.refl _)
      ·rintro f M ⟨k0, k1, -⟩ -
       have hs98 : f 98 = .pointer (some ((ba (sla (fa22 37))).add (i2 * 5 + 1))) := k0
       have hs92 : f 92 = Ix (ob.vx) := k1
       refine ob_start (L' := rowF CompF 120 (sla (fa22 37)) (slc (fa22 37)) ((x6.comps.set i1 (setV0 c1 ob.x)).set i1 (setV1 (setV0 c1 ob.x) ob.y)) :: M) (by rfl) (up_cons (up_cons rfl hs98) hs92) ?_
       refine l_mu rfl rfl (m_storeFlPart 0 (F := CompF) (p := (sla (fa22 37))) (k := i2) (o := 1) (xs := ((x6.comps.set i1 (setV0 c1 ob.x)).set i1 (setV1 (setV0 c1 ob.x) ob.y))) (z0 := c2) (z := (setV0 c2 ob.vx)) tw15 rfl rfl rfl rfl rfl (set_ne (by first | assumption | (apply Ne.symm; assumption)) (set_ne (by first | assumption | (apply Ne.symm; assumption)) hx2)) (by decide) rfl) ?_
       refine l_nil ?_
       exact f_owes_n (up_cons (up_cons rfl hs98) hs92) trivial (perm_front 0 rfl)
      ·rintro f M ⟨k0, k1, -⟩ -
       have hs88 : f 88 = .slice (sla (fa22 37)) (x6.comps.length) (slc (fa22 37)) := k0
       have hs89 : f 89 = Nx (i2) := k1
       refine ob_start (L' := M) (by rfl) (up_cons (up_cons rfl hs88) hs89) ?_
       refine l_val (v := .pointer (some ((ba (sla (fa22 37))).add (i2 * 5)))) rfl rfl rfl (e_indexAddr (k := i2) (len := x6.comps.length) (cap := (slc (fa22 37))) (a := (sla (fa22 37))) rfl rfl tw3 (by omega) hps33) ?_
       refine l_nil ?_
       exact f_owes_d (up_cons (up_cons rfl hs88) hs89) rfl (List.Perm.refl _)
      ·rintro f M ⟨k0, -⟩ -
       have hs99 : f 99 = .pointer (some ((ba (sla (fa22 37))).add (i2 * 5))) := k0
       refine ob_start (L' := M) (by rfl) (up_cons rfl hs99) ?_
       refine l_val (v := .pointer (some ((ba (sla (fa22 37))).add (i2 * 5 + 1)))) rfl rfl rfl (ev_eq (congrArg (fun z => Value.pointer (some z)) (show ((ba (sla (fa22 37))).add (i2 * 5) : Addr).add 1 = (ba (sla (fa22 37))).add (i2 * 5 + 1) by rw [Addr.add_add'])) (e_fieldAddr (a := (ba (sla (fa22 37))).add (i2 * 5)) rfl tw11)) ?_
       refine l_nil ?_
       exact f_owes_d (up_cons rfl hs99) rfl (List.Perm.refl _)
      ·rintro f M ⟨k0, -⟩ -
       have hs100 : f 100 = .pointer (some ((ba (sla (fa22 37))).add (i2 * 5 + 1))) := k0
       refine ob_start (L' := M) (by rfl) (up_cons rfl hs100) ?_
       refine l_val (v := .pointer (some ((ba (sla (fa22 37))).add (i2 * 5 + 2)))) rfl rfl rfl (ev_eq (congrArg (fun z => Value.pointer (some z)) (show ((ba (sla (fa22 37))).add (i2 * 5 + 1) : Addr).add (1 * 1) = (ba (sla (fa22 37))).add (i2 * 5 + 2) by rw [Addr.add_add'] <;> rfl)) (e_indexArr (a := (ba (sla (fa22 37))).add (i2 * 5 + 1)) (k := 1) rfl rfl tw16 (by decide))) ?_
       refine l_nil ?_
       exact f_owes_d (up_cons rfl hs100) rfl (List.Perm.refl _)
      ·rintro f M ⟨k0, k1, -⟩ -
       have hs101 : f 101 = .pointer (some ((ba (sla (fa22 37))).add (i2 * 5 + 2))) := k0
       have hs95 : f 95 = Ix (ob.vy) := k1
       refine ob_start (L' := rowF CompF 120 (sla (fa22 37)) (slc (fa22 37)) (((x6.comps.set i1 (setV0 c1 ob.x)).set i1 (setV1 (setV0 c1 ob.x) ob.y)).set i2 (setV0 c2 ob.vx)) :: M) (by rfl) (up_cons (up_cons rfl hs101) hs95) ?_
       refine l_mu rfl rfl (m_storeFlPart 0 (F := CompF) (p := (sla (fa22 37))) (k := i2) (o := 2) (xs := (((x6.comps.set i1 (setV0 c1 ob.x)).set i1 (setV1 (setV0 c1 ob.x) ob.y)).set i2 (setV0 c2 ob.vx))) (z0 := (setV0 c2 ob.vx)) (z := (setV1 (setV0 c2 ob.vx) ob.vy)) tw15 rfl rfl rfl rfl rfl (get_set (setV0 c2 ob.vx) (by first | omega | (simp only [List.length_set]; omega))) (by decide) rfl) ?_
       refine l_nil ?_
       exact f_owes_n (up_cons (up_cons rfl hs101) hs95) trivial (perm_front 0 rfl)
      rintro fa36 ⟨-, -, -, -, -, -, -, -, -, -, -, -, -, -, -, -, -, -, -, -, -⟩ ⟨j0, j1, j2, j3, j4, j5, -⟩
      refine f_re (L' := [pt b32 (.cells (bC ob) 52), pt b23 (.cells (bC (bodyD (x6.id) x6.comps)) 52), goodR hd ((es.take k).map (backE B)), rowF HdF 59 p c hd, pt b4 (.cells #[Ix (tick), .slice p (hd.length) c] 24), pt b3 (.cells #[.int .i64 (0), .slice none 0 0] 24), pt b2 (.cells #[.slice bva (B.length) (bvc), rv, Ix (gx), Ix (gy)] 30), pt b1 (.cells #[Ix (tick), .slice va (es.length) (vc)] 24), pt (blk (fa22 7)) (.cells #[Ix (x6.id), .slice (sla (fa22 37)) (x6.comps.length) (slc (fa22 37))] 59), rowF CompF 120 (sla (fa22 37)) (slc (fa22 37)) ((((x6.comps.set i1 (setV0 c1 ob.x)).set i1 (setV1 (setV0 c1 ob.x) ob.y)).set i2 (setV0 c2 ob.vx)).set i2 (setV1 (setV0 c2 ob.vx) ob.vy))]) (by rfl) ?_
      refine f_rebase (d := 2) (v := .pointer (some ⟨b1, 0, none⟩)) j0 ?_
      refine f_rebase (d := 3) (v := .pointer (some ⟨b2, 0, none⟩)) j1 ?_
      refine f_rebase (d := 4) (v := .pointer (some ⟨b3, 0, none⟩)) j2 ?_
      refine f_rebase (d := 5) (v := .pointer (some ⟨b4, 0, none⟩)) j3 ?_
      refine f_rebase (d := 6) (v := Nx (k)) j4 ?_
      refine f_rebase (d := 7) (v := .pointer (some ⟨(blk (fa22 7)), 0, none⟩)) j5 ?_
      refine f_then ?_
      refine c_seq ?_
      refine c_region ?_
      refine l_val (v := .agg #[Ix (x6.id), .slice (sla (fa22 37)) (x6.comps.length) (slc (fa22 37))]) rfl rfl rfl (e_load tw7 (cs := [Ix (x6.id), .slice (sla (fa22 37)) (x6.comps.length) (slc (fa22 37))]) rfl (k_pt 8 (cs := #[Ix (x6.id), .slice (sla (fa22 37)) (x6.comps.length) (slc (fa22 37))]) (vs := [Ix (x6.id), .slice (sla (fa22 37)) (x6.comps.length) (slc (fa22 37))]) rfl rfl) rfl) ?_
      refine l_call rfl rfl rfl (cl_value (fst := []) (cap := []) (vs := [.agg #[Ix (x6.id), .slice (sla (fa22 37)) (x6.comps.length) (slc (fa22 37))]]) (all := [.agg #[Ix (x6.id), .slice (sla (fa22 37)) (x6.comps.length) (slc (fa22 37))]]) tw52 rfl rfl rfl) ?_
      intro w hw
      replace hw := hw.perm (L' := _ :: _ :: _ :: _ :: _ :: _ :: _ :: _ :: _ :: _ :: []) (by exact ((((((((((perm_front 8 rfl).trans (perm_front 8 rfl)).trans (perm_front 8 rfl)).trans (perm_front 8 rfl)).trans (perm_front 8 rfl)).trans (perm_front 8 rfl)).trans (perm_front 8 rfl)).trans (perm_front 8 rfl)).trans (perm_front 8 rfl)).trans (perm_front 9 rfl)))
      obtain ⟨β1, sb, kn, hw1, back⟩ := St.frame (L := [_]) (M := _ :: _ :: _ :: _ :: _ :: _ :: _ :: _ :: _ :: []) hw
      refine (rfreeN_ok β1 w (x6.id) _ _ ((((x6.comps.set i1 (setV0 c1 ob.x)).set i1 (setV1 (setV0 c1 ob.x) ob.y)).set i2 (setV0 c2 ob.vx)).set i2 (setV1 (setV0 c2 ob.vx) ob.vy)) (m := x6.comps.length) (by simp only [List.length_set]) hw1).mono ?_
      rintro e w' ⟨rfl, hw'⟩
      refine ⟨_, rfl, _, back _ _ hw', ?_⟩
      clear hw hw1 hw' back kn sb
      refine l_nil ?_
      refine f_then ?_
      refine c_region ?_
      refine l_val (v := .pointer (some ⟨b4, 1, none⟩)) rfl rfl rfl (e_fieldPt (b := b4) (o := 0) rfl tw26) ?_
      refine l_val (v := .slice p (hd.length) c) rfl rfl rfl (e_load1 tw27 (v := .slice p (hd.length) c) rfl (k_pt 5 (cs := #[Ix (tick), .slice p (hd.length) c]) (vs := [.slice p (hd.length) c]) rfl rfl)) ?_
      refine l_val (v := .agg #[Ix (x6.id), .slice (sla (fa22 37)) (x6.comps.length) (slc (fa22 37))]) rfl rfl rfl (e_load tw7 (cs := [Ix (x6.id), .slice (sla (fa22 37)) (x6.comps.length) (slc (fa22 37))]) rfl (k_pt 9 (cs := #[Ix (x6.id), .slice (sla (fa22 37)) (x6.comps.length) (slc (fa22 37))]) (vs := [Ix (x6.id), .slice (sla (fa22 37)) (x6.comps.length) (slc (fa22 37))]) rfl rfl) rfl) ?_
      refine l_mv rfl rfl rfl (m_slices tw29 tw51 (vs := [(0, .agg #[Ix (x6.id), .slice (sla (fa22 37)) (x6.comps.length) (slc (fa22 37))])]) (cells := #[Ix (x6.id), .slice (sla (fa22 37)) (x6.comps.length) (slc (fa22 37))]) rfl rfl rfl rfl) ?_
      rintro _ _ ⟨b37, rfl, rfl⟩
      refine l_mv rfl rfl rfl (m_appendFlN (F := HdF) 5 tw29 tw53 (p := p) (m := hd.length) (xs := hd) (ys := [(⟨(x6.id), (sla (fa22 37)), x6.comps.length, (slc (fa22 37))⟩ : KHd)]) (ao := (some ⟨b37, 0, none⟩)) (k := 1) (c := 1) rfl rfl rfl rfl rfl (k_ptFl (z := (⟨(x6.id), (sla (fa22 37)), x6.comps.length, (slc (fa22 37))⟩ : KHd)) 0 rfl rfl) (by first | omega | simp only [List.length_nil, List.length_cons, List.length_append, List.length_set]; omega) (by first | omega | simp only [List.length_nil, List.length_cons, List.length_append, List.length_set]; omega)) ?_
      rintro _ _ ⟨rp38, rc39, rfl, rfl⟩
      refine l_val (v := .pointer (some ⟨b4, 1, none⟩)) rfl rfl rfl (e_fieldPt (b := b4) (o := 0) rfl tw26) ?_
      refine l_mu rfl rfl (m_store 6 tw27 (b := b4) (o := 1) (T := 24) (cs := #[Ix (tick), .slice p (hd.length) c]) (cs' := #[Ix (tick), .slice rp38 ((hd ++ [(⟨(x6.id), (sla (fa22 37)), x6.comps.length, (slc (fa22 37))⟩ : KHd)]).length) rc39]) (v := .slice rp38 ((hd ++ [(⟨(x6.id), (sla (fa22 37)), x6.comps.length, (slc (fa22 37))⟩ : KHd)]).length) rc39) rfl rfl rfl rfl rfl rfl rfl) ?_
      refine l_nil ?_
      refine f_block ?_
      refine f_then ?_
      refine c_region ?_
      refine l_val (v := Nx (k)) rfl rfl rfl (e_move) ?_
      refine l_val (v := Nx (k + 1)) rfl rfl rfl (e_add (a := ((k : Nat) : Int)) (b := (1 : Int)) rfl rfl (i64n (by omega) (by omega))) ?_
      refine l_val (v := Nx (k + 1)) rfl rfl rfl (e_assign) ?_
      refine l_nil ?_
      have hK : ((((x6.comps.set i1 (setV0 c1 ob.x)).set i1 (setV1 (setV0 c1 ob.x) ob.y)).set i2 (setV0 c2 ob.vx)).set i2 (setV1 (setV0 c2 ob.vx) ob.vy)).map (·.kind) = x6.comps.map (·.kind) := by simp only [List.set_set]; exact kinds_set2 hij hx1 hx2 rfl rfl
      have hY : (freeC ((((x6.comps.set i1 (setV0 c1 ob.x)).set i1 (setV1 (setV0 c1 ob.x) ob.y)).set i2 (setV0 c2 ob.vx)).set i2 (setV1 (setV0 c2 ob.vx) ob.vy))) = backC B x6.id x6.comps := (free_body h0 hK).trans (by simp only [List.set_set]; exact back_mov h0 (hfo _ hob) hfx hc1 hf1 hc2 hf2)
      refine f_perm (L' := [rowF CompF 120 (sla (fa22 37)) (slc (fa22 37)) (freeC ((((x6.comps.set i1 (setV0 c1 ob.x)).set i1 (setV1 (setV0 c1 ob.x) ob.y)).set i2 (setV0 c2 ob.vx)).set i2 (setV1 (setV0 c2 ob.vx) ob.vy))), goodR hd ((es.take k).map (backE B)), pt b37 (.cells #[Ix (x6.id), .slice (sla (fa22 37)) (x6.comps.length) (slc (fa22 37))] 59), pt b32 (.cells (bC ob) 52), pt b23 (.cells (bC (bodyD (x6.id) x6.comps)) 52), rowF HdF 59 rp38 rc39 (hd ++ [(⟨(x6.id), (sla (fa22 37)), x6.comps.length, (slc (fa22 37))⟩ : KHd)]), pt b4 (.cells #[Ix (tick), .slice rp38 ((hd ++ [(⟨(x6.id), (sla (fa22 37)), x6.comps.length, (slc (fa22 37))⟩ : KHd)]).length) rc39] 24), pt b3 (.cells #[.int .i64 (0), .slice none 0 0] 24), pt b2 (.cells #[.slice bva (B.length) (bvc), rv, Ix (gx), Ix (gy)] 30), pt b1 (.cells #[Ix (tick), .slice va (es.length) (vc)] 24), pt (blk (fa22 7)) (.cells #[Ix (x6.id), .slice (sla (fa22 37)) (x6.comps.length) (slc (fa22 37))] 59)]) (by exact (perm_ix [1, 4, 0, 2, 3, 5, 6, 7, 8, 9, 10] 11 rfl (by kernel_rfl) (by kernel_rfl))) ?_
      refine f_merge (L := [rowF CompF 120 (sla (fa22 37)) (slc (fa22 37)) (freeC ((((x6.comps.set i1 (setV0 c1 ob.x)).set i1 (setV1 (setV0 c1 ob.x) ob.y)).set i2 (setV0 c2 ob.vx)).set i2 (setV1 (setV0 c2 ob.vx) ob.vy))), goodR hd ((es.take k).map (backE B))]) (M := [pt b37 (.cells #[Ix (x6.id), .slice (sla (fa22 37)) (x6.comps.length) (slc (fa22 37))] 59), pt b32 (.cells (bC ob) 52), pt b23 (.cells (bC (bodyD (x6.id) x6.comps)) 52), rowF HdF 59 rp38 rc39 (hd ++ [(⟨(x6.id), (sla (fa22 37)), x6.comps.length, (slc (fa22 37))⟩ : KHd)]), pt b4 (.cells #[Ix (tick), .slice rp38 ((hd ++ [(⟨(x6.id), (sla (fa22 37)), x6.comps.length, (slc (fa22 37))⟩ : KHd)]).length) rc39] 24), pt b3 (.cells #[.int .i64 (0), .slice none 0 0] 24), pt b2 (.cells #[.slice bva (B.length) (bvc), rv, Ix (gx), Ix (gy)] 30), pt b1 (.cells #[Ix (tick), .slice va (es.length) (vc)] 24), pt (blk (fa22 7)) (.cells #[Ix (x6.id), .slice (sla (fa22 37)) (x6.comps.length) (slc (fa22 37))] 59)]) (r := goodR (hd ++ [(⟨(x6.id), (sla (fa22 37)), x6.comps.length, (slc (fa22 37))⟩ : KHd)]) ((es.take (k + 1)).map (backE B))) (by rw [← back_next hx7 hY]; exact good_merge (by rw [hY, back_len])) ?_
      refine f_mask (L' := [goodR (hd ++ [(⟨(x6.id), (sla (fa22 37)), x6.comps.length, (slc (fa22 37))⟩ : KHd)]) ((es.take (k + 1)).map (backE B)), rowF HdF 59 rp38 rc39 (hd ++ [(⟨(x6.id), (sla (fa22 37)), x6.comps.length, (slc (fa22 37))⟩ : KHd)]), pt b4 (.cells #[Ix (tick), .slice rp38 ((hd ++ [(⟨(x6.id), (sla (fa22 37)), x6.comps.length, (slc (fa22 37))⟩ : KHd)]).length) rc39] 24), pt b3 (.cells #[.int .i64 (0), .slice none 0 0] 24), pt b2 (.cells #[.slice bva (B.length) (bvc), rv, Ix (gx), Ix (gy)] 30), pt b1 (.cells #[Ix (tick), .slice va (es.length) (vc)] 24)]) [true, false, false, false, true, true, true, true, true, false] rfl ?_
      exact f_cut ⟨(k + 1, (hd ++ [(⟨(x6.id), (sla (fa22 37)), x6.comps.length, (slc (fa22 37))⟩ : KHd)]), rp38, rc39), ⟨⟨rfl, rfl, rfl, rfl, rfl⟩, rfl, ⟨by omega, by rw [List.length_append]; simp only [List.length_cons, List.length_nil]; omega⟩⟩, (show es.length - (k + 1) < es.length - k from by omega)⟩
     ·
      have hfx : (bodyD x6.id x6.comps).fixed = true := by simpa using hc35
      refine c_skip ?_
      refine f_then ?_
      refine c_seq ?_
      refine c_region ?_
      refine l_val (v := .agg #[Ix (x6.id), .slice (sla (fa22 37)) (x6.comps.length) (slc (fa22 37))]) rfl rfl rfl (e_load tw7 (cs := [Ix (x6.id), .slice (sla (fa22 37)) (x6.comps.length) (slc (fa22 37))]) rfl (k_pt 8 (cs := #[Ix (x6.id), .slice (sla (fa22 37)) (x6.comps.length) (slc (fa22 37))]) (vs := [Ix (x6.id), .slice (sla (fa22 37)) (x6.comps.length) (slc (fa22 37))]) rfl rfl) rfl) ?_
      refine l_call rfl rfl rfl (cl_value (fst := []) (cap := []) (vs := [.agg #[Ix (x6.id), .slice (sla (fa22 37)) (x6.comps.length) (slc (fa22 37))]]) (all := [.agg #[Ix (x6.id), .slice (sla (fa22 37)) (x6.comps.length) (slc (fa22 37))]]) tw52 rfl rfl rfl) ?_
      intro w hw
      replace hw := hw.perm (L' := _ :: _ :: _ :: _ :: _ :: _ :: _ :: _ :: _ :: _ :: []) (by exact ((((((((((perm_front 8 rfl).trans (perm_front 8 rfl)).trans (perm_front 8 rfl)).trans (perm_front 8 rfl)).trans (perm_front 8 rfl)).trans (perm_front 8 rfl)).trans (perm_front 8 rfl)).trans (perm_front 8 rfl)).trans (perm_front 8 rfl)).trans (perm_front 9 rfl)))
      obtain ⟨β1, sb, kn, hw1, back⟩ := St.frame (L := [_]) (M := _ :: _ :: _ :: _ :: _ :: _ :: _ :: _ :: _ :: []) hw
      refine (rfreeN_ok β1 w (x6.id) _ _ ((x6.comps.set i1 (setV0 c1 ob.x)).set i1 (setV1 (setV0 c1 ob.x) ob.y)) (m := x6.comps.length) (by simp only [List.length_set]) hw1).mono ?_
      rintro e w' ⟨rfl, hw'⟩
      refine ⟨_, rfl, _, back _ _ hw', ?_⟩
      clear hw hw1 hw' back kn sb
      refine l_nil ?_
      refine f_then ?_
      refine c_region ?_
      refine l_val (v := .pointer (some ⟨b4, 1, none⟩)) rfl rfl rfl (e_fieldPt (b := b4) (o := 0) rfl tw26) ?_
      refine l_val (v := .slice p (hd.length) c) rfl rfl rfl (e_load1 tw27 (v := .slice p (hd.length) c) rfl (k_pt 5 (cs := #[Ix (tick), .slice p (hd.length) c]) (vs := [.slice p (hd.length) c]) rfl rfl)) ?_
      refine l_val (v := .agg #[Ix (x6.id), .slice (sla (fa22 37)) (x6.comps.length) (slc (fa22 37))]) rfl rfl rfl (e_load tw7 (cs := [Ix (x6.id), .slice (sla (fa22 37)) (x6.comps.length) (slc (fa22 37))]) rfl (k_pt 9 (cs := #[Ix (x6.id), .slice (sla (fa22 37)) (x6.comps.length) (slc (fa22 37))]) (vs := [Ix (x6.id), .slice (sla (fa22 37)) (x6.comps.length) (slc (fa22 37))]) rfl rfl) rfl) ?_
      refine l_mv rfl rfl rfl (m_slices tw29 tw51 (vs := [(0, .agg #[Ix (x6.id), .slice (sla (fa22 37)) (x6.comps.length) (slc (fa22 37))])]) (cells := #[Ix (x6.id), .slice (sla (fa22 37)) (x6.comps.length) (slc (fa22 37))]) rfl rfl rfl rfl) ?_
      rintro _ _ ⟨b40, rfl, rfl⟩
      refine l_mv rfl rfl rfl (m_appendFlN (F := HdF) 5 tw29 tw53 (p := p) (m := hd.length) (xs := hd) (ys := [(⟨(x6.id), (sla (fa22 37)), x6.comps.length, (slc (fa22 37))⟩ : KHd)]) (ao := (some ⟨b40, 0, none⟩)) (k := 1) (c := 1) rfl rfl rfl rfl rfl (k_ptFl (z := (⟨(x6.id), (sla (fa22 37)), x6.comps.length, (slc (fa22 37))⟩ : KHd)) 0 rfl rfl) (by first | omega | simp only [List.length_nil, List.length_cons, List.length_append, List.length_set]; omega) (by first | omega | simp only [List.length_nil, List.length_cons, List.length_append, List.length_set]; omega)) ?_
      rintro _ _ ⟨rp41, rc42, rfl, rfl⟩
      refine l_val (v := .pointer (some ⟨b4, 1, none⟩)) rfl rfl rfl (e_fieldPt (b := b4) (o := 0) rfl tw26) ?_
      refine l_mu rfl rfl (m_store 6 tw27 (b := b4) (o := 1) (T := 24) (cs := #[Ix (tick), .slice p (hd.length) c]) (cs' := #[Ix (tick), .slice rp41 ((hd ++ [(⟨(x6.id), (sla (fa22 37)), x6.comps.length, (slc (fa22 37))⟩ : KHd)]).length) rc42]) (v := .slice rp41 ((hd ++ [(⟨(x6.id), (sla (fa22 37)), x6.comps.length, (slc (fa22 37))⟩ : KHd)]).length) rc42) rfl rfl rfl rfl rfl rfl rfl) ?_
      refine l_nil ?_
      refine f_block ?_
      refine f_then ?_
      refine c_region ?_
      refine l_val (v := Nx (k)) rfl rfl rfl (e_move) ?_
      refine l_val (v := Nx (k + 1)) rfl rfl rfl (e_add (a := ((k : Nat) : Int)) (b := (1 : Int)) rfl rfl (i64n (by omega) (by omega))) ?_
      refine l_val (v := Nx (k + 1)) rfl rfl rfl (e_assign) ?_
      refine l_nil ?_
      have hK : ((x6.comps.set i1 (setV0 c1 ob.x)).set i1 (setV1 (setV0 c1 ob.x) ob.y)).map (·.kind) = x6.comps.map (·.kind) := by simp only [List.set_set]; exact kinds_set hx1 rfl
      have hY : (freeC ((x6.comps.set i1 (setV0 c1 ob.x)).set i1 (setV1 (setV0 c1 ob.x) ob.y))) = backC B x6.id x6.comps := (free_body h0 hK).trans (by simp only [List.set_set]; exact back_fix h0 (hfo _ hob) hfx hc1 hf1)
      refine f_perm (L' := [rowF CompF 120 (sla (fa22 37)) (slc (fa22 37)) (freeC ((x6.comps.set i1 (setV0 c1 ob.x)).set i1 (setV1 (setV0 c1 ob.x) ob.y))), goodR hd ((es.take k).map (backE B)), pt b40 (.cells #[Ix (x6.id), .slice (sla (fa22 37)) (x6.comps.length) (slc (fa22 37))] 59), pt b32 (.cells (bC ob) 52), pt b23 (.cells (bC (bodyD (x6.id) x6.comps)) 52), rowF HdF 59 rp41 rc42 (hd ++ [(⟨(x6.id), (sla (fa22 37)), x6.comps.length, (slc (fa22 37))⟩ : KHd)]), pt b4 (.cells #[Ix (tick), .slice rp41 ((hd ++ [(⟨(x6.id), (sla (fa22 37)), x6.comps.length, (slc (fa22 37))⟩ : KHd)]).length) rc42] 24), pt b3 (.cells #[.int .i64 (0), .slice none 0 0] 24), pt b2 (.cells #[.slice bva (B.length) (bvc), rv, Ix (gx), Ix (gy)] 30), pt b1 (.cells #[Ix (tick), .slice va (es.length) (vc)] 24), pt (blk (fa22 7)) (.cells #[Ix (x6.id), .slice (sla (fa22 37)) (x6.comps.length) (slc (fa22 37))] 59)]) (by exact (perm_ix [1, 4, 0, 2, 3, 5, 6, 7, 8, 9, 10] 11 rfl (by kernel_rfl) (by kernel_rfl))) ?_
      refine f_merge (L := [rowF CompF 120 (sla (fa22 37)) (slc (fa22 37)) (freeC ((x6.comps.set i1 (setV0 c1 ob.x)).set i1 (setV1 (setV0 c1 ob.x) ob.y))), goodR hd ((es.take k).map (backE B))]) (M := [pt b40 (.cells #[Ix (x6.id), .slice (sla (fa22 37)) (x6.comps.length) (slc (fa22 37))] 59), pt b32 (.cells (bC ob) 52), pt b23 (.cells (bC (bodyD (x6.id) x6.comps)) 52), rowF HdF 59 rp41 rc42 (hd ++ [(⟨(x6.id), (sla (fa22 37)), x6.comps.length, (slc (fa22 37))⟩ : KHd)]), pt b4 (.cells #[Ix (tick), .slice rp41 ((hd ++ [(⟨(x6.id), (sla (fa22 37)), x6.comps.length, (slc (fa22 37))⟩ : KHd)]).length) rc42] 24), pt b3 (.cells #[.int .i64 (0), .slice none 0 0] 24), pt b2 (.cells #[.slice bva (B.length) (bvc), rv, Ix (gx), Ix (gy)] 30), pt b1 (.cells #[Ix (tick), .slice va (es.length) (vc)] 24), pt (blk (fa22 7)) (.cells #[Ix (x6.id), .slice (sla (fa22 37)) (x6.comps.length) (slc (fa22 37))] 59)]) (r := goodR (hd ++ [(⟨(x6.id), (sla (fa22 37)), x6.comps.length, (slc (fa22 37))⟩ : KHd)]) ((es.take (k + 1)).map (backE B))) (by rw [← back_next hx7 hY]; exact good_merge (by rw [hY, back_len])) ?_
      refine f_mask (L' := [goodR (hd ++ [(⟨(x6.id), (sla (fa22 37)), x6.comps.length, (slc (fa22 37))⟩ : KHd)]) ((es.take (k + 1)).map (backE B)), rowF HdF 59 rp41 rc42 (hd ++ [(⟨(x6.id), (sla (fa22 37)), x6.comps.length, (slc (fa22 37))⟩ : KHd)]), pt b4 (.cells #[Ix (tick), .slice rp41 ((hd ++ [(⟨(x6.id), (sla (fa22 37)), x6.comps.length, (slc (fa22 37))⟩ : KHd)]).length) rc42] 24), pt b3 (.cells #[.int .i64 (0), .slice none 0 0] 24), pt b2 (.cells #[.slice bva (B.length) (bvc), rv, Ix (gx), Ix (gy)] 30), pt b1 (.cells #[Ix (tick), .slice va (es.length) (vc)] 24)]) [true, false, false, false, true, true, true, true, true, false] rfl ?_
      exact f_cut ⟨(k + 1, (hd ++ [(⟨(x6.id), (sla (fa22 37)), x6.comps.length, (slc (fa22 37))⟩ : KHd)]), rp41, rc42), ⟨⟨rfl, rfl, rfl, rfl, rfl⟩, rfl, ⟨by omega, by rw [List.length_append]; simp only [List.length_cons, List.length_nil]; omega⟩⟩, (show es.length - (k + 1) < es.length - k from by omega)⟩
    ·
     exact absurd (by omega) hc31
 ·
  refine c_exit ?_
  refine f_then_exit ?_
  refine f_then_exit ?_
  refine f_exit ?_
  refine f_then ?_
  refine c_seq ?_
  refine c_region ?_
  refine l_val (v := .agg #[Ix (tick), .slice p (hd.length) c]) rfl rfl rfl (e_load tw48 (cs := [Ix (tick), .slice p (hd.length) c]) rfl (k_pt 2 (cs := #[Ix (tick), .slice p (hd.length) c]) (vs := [Ix (tick), .slice p (hd.length) c]) rfl rfl) rfl) ?_
  refine l_mu rfl rfl (m_store 3 tw48 (b := b3) (o := 0) (T := 24) (cs := #[.int .i64 (0), .slice none 0 0]) (cs' := #[Ix (tick), .slice p (hd.length) c]) (v := .agg #[Ix (tick), .slice p (hd.length) c]) rfl rfl rfl rfl rfl rfl rfl) ?_
  refine l_nil ?_
  refine f_then ?_
  refine c_ret ?_
  refine retG (l := [.cell 4 24]) (m := [.agg #[Ix (tick), .slice p (hd.length) c]]) (v := .agg #[Ix (tick), .slice p (hd.length) c]) Tryz.results22 ⟨rd_cell tw48 (cs := [Ix (tick), .slice p (hd.length) c]) rfl (k_pt 3 (cs := #[Ix (tick), .slice p (hd.length) c]) (vs := [Ix (tick), .slice p (hd.length) c]) rfl rfl) rfl, trivial⟩ rfl ?_
  intro w hw
  have hw2 := st_mask (L' := [goodR hd ((es.take k).map (backE B)), rowF HdF 59 p c hd]) [true, true, false, false, false, false] rfl hw
  replace hw2 := hw2.perm (List.Perm.swap _ _ _)
  have hw3 := St.merge (M := []) hw2 ents_merge
  rw [List.take_of_length_le (by omega)] at hw3
  exact ⟨p, c, congrArg (fun n => Ending.returned (.agg #[Ix tick, .slice p n c])) (show hd.length = es.length by omega), hw3⟩
theorem rworldY_ok (β : Base) (w : World) (hw : St β [] w) (tick : Int) (v rv : Value) (gx gy : Int) (es : List KEnt) (rs : List KR) (hs : Sl EntR β.heap v es) (hr : Sl KRR β.heap rv rs) (hn : es.length ≤ 65536) (hrn : rs.length ≤ 65536) (hcl : ∀ e ∈ es, e.comps.length ≤ 65536) (hokS : okS (bodiesOf es) (ropesOf (bodiesOf es) rs) gx gy) (T : List KB) (S : List KS) (hTS : stepsTo (ropesOf (bodiesOf es) rs) gx gy (bodiesOf es) (bodiesOf es).length = (T, S)) : Calls Tryz.prog 25 #[.agg #[Ix tick, v], rv, .agg #[Ix gx, Ix gy]] w fun r w' => ∃ p c sp sc, r = .returned (.tuple #[.agg #[Ix tick, .slice p es.length c], .slice sp S.length sc, .int .i64 (0)]) ∧ St β [entsR p c (es.map (backE T)), rowF StopF 55 sp sc S] w' := by
 have hTl : T.length = (bodiesOf es).length := by have h := (step_keeps (rs := ropesOf (bodiesOf es) rs) (gx := gx) (gy := gy) hokS.2.2.2.1 (bodiesOf es).length).1.len; rw [hTS] at h; exact h
 refine enter (n := 29) Tryz.func25 rfl Tryz.ntmps25 rfl ?_ hw
 refine c_seq ?_
 refine c_region ?_
 refine l_mv rfl rfl rfl (m_box (v := .agg #[Ix (tick), v]) rfl) ?_
 rintro _ _ ⟨b1, rfl, rfl⟩
 refine l_mv rfl rfl rfl (m_box (v := .agg #[Ix (gx), Ix (gy)]) rfl) ?_
 rintro _ _ ⟨b2, rfl, rfl⟩
 refine l_mv rfl rfl rfl (m_alloc tw45) ?_
 rintro _ _ ⟨b3, rfl, rfl⟩
 refine l_val (v := .slice none 0 0) rfl rfl rfl (e_assign) ?_
 refine l_val (v := .int .i64 (0)) rfl rfl rfl (e_assign) ?_
 refine l_nil ?_
 refine f_then ?_
 refine c_seq ?_
 refine c_region ?_
 refine l_val (v := .agg #[Ix (tick), v]) rfl rfl rfl (e_load tw48 (cs := [Ix (tick), v]) rfl (k_pt 2 (cs := #[Ix (tick), v]) (vs := [Ix (tick), v]) rfl rfl) rfl) ?_
 refine l_val (v := rv) rfl rfl rfl (e_move) ?_
 refine l_val (v := .agg #[Ix (gx), Ix (gy)]) rfl rfl rfl (e_load tw22 (cs := [Ix (gx), Ix (gy)]) rfl (k_pt 1 (cs := #[Ix (gx), Ix (gy)]) (vs := [Ix (gx), Ix (gy)]) rfl rfl) rfl) ?_
 refine l_call rfl rfl rfl (cl_value (fst := []) (cap := []) (vs := [.agg #[Ix (tick), v], rv, .agg #[Ix (gx), Ix (gy)]]) (all := [.agg #[Ix (tick), v], rv, .agg #[Ix (gx), Ix (gy)]]) tw57 rfl rfl rfl) ?_
 intro w hw
 obtain ⟨β1, sb, kn, hw1, back⟩ := St.frame_all hw
 refine (rbodies_ok β1 w hw1 _ _ _ (gx) (gy) es rs (Sl.mono _ _ _ _ _ sb hs) (Sl.mono _ _ _ _ _ sb hr) hn hrn).mono ?_
 rintro e w' ⟨p4, c5, p6, c7, rfl, hw'⟩
 refine ⟨_, rfl, _, back _ _ hw', ?_⟩
 clear hw hw1 hw' back kn sb
 refine l_call rfl rfl rfl (cl_value (fst := []) (cap := []) (vs := [.agg #[.slice p4 ((bodiesOf es).length) c5, .slice p6 ((ropesOf (bodiesOf es) rs).length) c7, Ix (gx), Ix (gy)]]) (all := [.agg #[.slice p4 ((bodiesOf es).length) c5, .slice p6 ((ropesOf (bodiesOf es) rs).length) c7, Ix (gx), Ix (gy)]]) tw58 rfl rfl rfl) ?_
 intro w hw
 obtain ⟨β1, sb, kn, hw1, back⟩ := St.frame_all hw
 refine (stepRY_ok β1 w hw1 _ _ gx gy (bodiesOf es) (ropesOf (bodiesOf es) rs) (kn _ (k_flN 0 (F := BodyF) (m := (bodiesOf es).length) (xs := (bodiesOf es)) rfl rfl)) (kn _ (k_flN 1 (F := RopeF) (m := (ropesOf (bodiesOf es) rs).length) (xs := (ropesOf (bodiesOf es) rs)) rfl rfl)) hokS T S hTS).mono ?_
 rintro e w' ⟨p8, c9, p10, c11, p12, c13, rfl, hw'⟩
 refine ⟨_, rfl, _, back _ _ hw', ?_⟩
 clear hw hw1 hw' back kn sb
 refine l_val (v := .tuple #[.agg #[.slice p8 ((bodiesOf es).length) c9, .slice p10 ((ropesOf (bodiesOf es) rs).length) c11, Ix (gx), Ix (gy)], .slice p12 (S.length) c13, .int .i64 (0)]) rfl rfl rfl (e_move) ?_
 refine l_val (v := .agg #[.slice p8 ((bodiesOf es).length) c9, .slice p10 ((ropesOf (bodiesOf es) rs).length) c11, Ix (gx), Ix (gy)]) rfl rfl rfl (e_extract (vs := #[.agg #[.slice p8 ((bodiesOf es).length) c9, .slice p10 ((ropesOf (bodiesOf es) rs).length) c11, Ix (gx), Ix (gy)], .slice p12 (S.length) c13, .int .i64 (0)]) rfl rfl) ?_
 refine l_val (v := .slice p12 (S.length) c13) rfl rfl rfl (e_extract (vs := #[.agg #[.slice p8 ((bodiesOf es).length) c9, .slice p10 ((ropesOf (bodiesOf es) rs).length) c11, Ix (gx), Ix (gy)], .slice p12 (S.length) c13, .int .i64 (0)]) rfl rfl) ?_
 refine l_val (v := .int .i64 (0)) rfl rfl rfl (e_extract (vs := #[.agg #[.slice p8 ((bodiesOf es).length) c9, .slice p10 ((ropesOf (bodiesOf es) rs).length) c11, Ix (gx), Ix (gy)], .slice p12 (S.length) c13, .int .i64 (0)]) rfl rfl) ?_
 refine l_mv rfl rfl rfl (m_alloc tw23) ?_
 rintro _ _ ⟨b14, rfl, rfl⟩
 refine l_mu rfl rfl (m_store 0 tw25 (b := b14) (o := 0) (T := 30) (cs := #[.slice none 0 0, .slice none 0 0, .int .i64 (0), .int .i64 (0)]) (cs' := #[.slice p8 ((bodiesOf es).length) c9, .slice p10 ((ropesOf (bodiesOf es) rs).length) c11, Ix (gx), Ix (gy)]) (v := .agg #[.slice p8 ((bodiesOf es).length) c9, .slice p10 ((ropesOf (bodiesOf es) rs).length) c11, Ix (gx), Ix (gy)]) rfl rfl rfl rfl rfl rfl rfl) ?_
 refine l_val (v := .slice p12 (S.length) c13) rfl rfl rfl (e_assign) ?_
 refine l_val (v := .int .i64 (0)) rfl rfl rfl (e_assign) ?_
 refine l_nil ?_
 refine f_then ?_
 refine c_seq ?_
 refine c_seq ?_
 refine c_region ?_
 refine l_val (v := .int .i64 (0)) rfl rfl rfl (e_move) ?_
 refine l_val (v := .bool false) rfl rfl rfl (e_neq (a := (0 : Int)) (b := (0 : Int)) rfl rfl) ?_
 refine l_nil ?_
 refine f_then ?_
 refine c_no rfl ?_
 refine c_skip ?_
 refine f_then ?_
 refine c_seq ?_
 refine c_region ?_
 refine l_val (v := .agg #[Ix (tick), v]) rfl rfl rfl (e_load tw48 (cs := [Ix (tick), v]) rfl (k_pt 8 (cs := #[Ix (tick), v]) (vs := [Ix (tick), v]) rfl rfl) rfl) ?_
 refine l_val (v := .agg #[.slice p8 ((bodiesOf es).length) c9, .slice p10 ((ropesOf (bodiesOf es) rs).length) c11, Ix (gx), Ix (gy)]) rfl rfl rfl (e_load tw25 (cs := [.slice p8 ((bodiesOf es).length) c9, .slice p10 ((ropesOf (bodiesOf es) rs).length) c11, Ix (gx), Ix (gy)]) rfl (k_pt 0 (cs := #[.slice p8 ((bodiesOf es).length) c9, .slice p10 ((ropesOf (bodiesOf es) rs).length) c11, Ix (gx), Ix (gy)]) (vs := [.slice p8 ((bodiesOf es).length) c9, .slice p10 ((ropesOf (bodiesOf es) rs).length) c11, Ix (gx), Ix (gy)]) rfl rfl) rfl) ?_
 refine l_call rfl rfl rfl (cl_value (fst := []) (cap := []) (vs := [.agg #[Ix (tick), v], .agg #[.slice p8 ((bodiesOf es).length) c9, .slice p10 ((ropesOf (bodiesOf es) rs).length) c11, Ix (gx), Ix (gy)]]) (all := [.agg #[Ix (tick), v], .agg #[.slice p8 ((bodiesOf es).length) c9, .slice p10 ((ropesOf (bodiesOf es) rs).length) c11, Ix (gx), Ix (gy)]]) tw59 rfl rfl rfl) ?_
 intro w hw
 obtain ⟨β1, sb, kn, hw1, back⟩ := St.frame_all hw
 refine (rback_ok β1 w hw1 _ _ _ _ _ _ es T (Sl.mono _ _ _ _ _ sb hs) (kn _ (k_flN 1 (F := BodyF) (m := (bodiesOf es).length) (xs := T) rfl hTl.symm)) hn hcl).mono ?_
 rintro e w' ⟨p15, c16, rfl, hw'⟩
 refine ⟨_, rfl, _, back _ _ hw', ?_⟩
 clear hw hw1 hw' back kn sb
 refine l_val (v := .slice p12 (S.length) c13) rfl rfl rfl (e_move) ?_
 refine l_mu rfl rfl (m_store 7 tw48 (b := b3) (o := 0) (T := 24) (cs := #[.int .i64 (0), .slice none 0 0]) (cs' := #[Ix (tick), .slice p15 (es.length) c16]) (v := .agg #[Ix (tick), .slice p15 (es.length) c16]) rfl rfl rfl rfl rfl rfl rfl) ?_
 refine l_val (v := .slice p12 (S.length) c13) rfl rfl rfl (e_assign) ?_
 refine l_val (v := .int .i64 (0)) rfl rfl rfl (e_assign) ?_
 refine l_nil ?_
 refine f_then ?_
 refine c_ret ?_
 refine retG (l := [.cell 6 24, .tmp 7, .tmp 8]) (m := [.agg #[Ix (tick), .slice p15 (es.length) c16], .slice p12 (S.length) c13, .int .i64 (0)]) (v := .tuple #[.agg #[Ix (tick), .slice p15 (es.length) c16], .slice p12 (S.length) c13, .int .i64 (0)]) Tryz.results25 ⟨rd_cell tw48 (cs := [Ix (tick), .slice p15 (es.length) c16]) rfl (k_pt 7 (cs := #[Ix (tick), .slice p15 (es.length) c16]) (vs := [Ix (tick), .slice p15 (es.length) c16]) rfl rfl) rfl, rd_tmp (v := .slice p12 (S.length) c13) rfl, rd_tmp (v := .int .i64 (0)) rfl, trivial⟩ rfl ?_
 intro w hw
 have hw2 := st_mask (L' := [entsR p15 c16 (es.map (backE T)), rowF StopF 55 p12 c13 S]) [true, false, false, false, true, false, false, false, false, false] rfl hw
 exact ⟨p15, c16, p12, c13, rfl, hw2⟩
theorem rworldN_ok (β : Base) (w : World) (hw : St β [] w) (tick : Int) (v rv : Value) (gx gy : Int) (es : List KEnt) (rs : List KR) (hs : Sl EntR β.heap v es) (hr : Sl KRR β.heap rv rs) (hn : es.length ≤ 65536) (hrn : rs.length ≤ 65536) (hcl : ∀ e ∈ es, e.comps.length ≤ 65536) (hno : ¬ okS (bodiesOf es) (ropesOf (bodiesOf es) rs) gx gy) : Calls Tryz.prog 25 #[.agg #[Ix tick, v], rv, .agg #[Ix gx, Ix gy]] w fun r w' => r = .returned (.tuple #[.agg #[.int .i64 (0), .slice none 0 0], .slice none 0 0, .int .i64 (2)]) ∧ St β [] w' := by
 refine enter (n := 29) Tryz.func25 rfl Tryz.ntmps25 rfl ?_ hw
 refine c_seq ?_
 refine c_region ?_
 refine l_mv rfl rfl rfl (m_box (v := .agg #[Ix (tick), v]) rfl) ?_
 rintro _ _ ⟨b1, rfl, rfl⟩
 refine l_mv rfl rfl rfl (m_box (v := .agg #[Ix (gx), Ix (gy)]) rfl) ?_
 rintro _ _ ⟨b2, rfl, rfl⟩
 refine l_mv rfl rfl rfl (m_alloc tw45) ?_
 rintro _ _ ⟨b3, rfl, rfl⟩
 refine l_val (v := .slice none 0 0) rfl rfl rfl (e_assign) ?_
 refine l_val (v := .int .i64 (0)) rfl rfl rfl (e_assign) ?_
 refine l_nil ?_
 refine f_then ?_
 refine c_seq ?_
 refine c_region ?_
 refine l_val (v := .agg #[Ix (tick), v]) rfl rfl rfl (e_load tw48 (cs := [Ix (tick), v]) rfl (k_pt 2 (cs := #[Ix (tick), v]) (vs := [Ix (tick), v]) rfl rfl) rfl) ?_
 refine l_val (v := rv) rfl rfl rfl (e_move) ?_
 refine l_val (v := .agg #[Ix (gx), Ix (gy)]) rfl rfl rfl (e_load tw22 (cs := [Ix (gx), Ix (gy)]) rfl (k_pt 1 (cs := #[Ix (gx), Ix (gy)]) (vs := [Ix (gx), Ix (gy)]) rfl rfl) rfl) ?_
 refine l_call rfl rfl rfl (cl_value (fst := []) (cap := []) (vs := [.agg #[Ix (tick), v], rv, .agg #[Ix (gx), Ix (gy)]]) (all := [.agg #[Ix (tick), v], rv, .agg #[Ix (gx), Ix (gy)]]) tw57 rfl rfl rfl) ?_
 intro w hw
 obtain ⟨β1, sb, kn, hw1, back⟩ := St.frame_all hw
 refine (rbodies_ok β1 w hw1 _ _ _ (gx) (gy) es rs (Sl.mono _ _ _ _ _ sb hs) (Sl.mono _ _ _ _ _ sb hr) hn hrn).mono ?_
 rintro e w' ⟨p4, c5, p6, c7, rfl, hw'⟩
 refine ⟨_, rfl, _, back _ _ hw', ?_⟩
 clear hw hw1 hw' back kn sb
 refine l_call rfl rfl rfl (cl_value (fst := []) (cap := []) (vs := [.agg #[.slice p4 ((bodiesOf es).length) c5, .slice p6 ((ropesOf (bodiesOf es) rs).length) c7, Ix (gx), Ix (gy)]]) (all := [.agg #[.slice p4 ((bodiesOf es).length) c5, .slice p6 ((ropesOf (bodiesOf es) rs).length) c7, Ix (gx), Ix (gy)]]) tw58 rfl rfl rfl) ?_
 intro w hw
 obtain ⟨β1, sb, kn, hw1, back⟩ := St.frame_all hw
 refine (stepRN_ok β1 w hw1 _ _ gx gy (bodiesOf es) (ropesOf (bodiesOf es) rs) (kn _ (k_flN 0 (F := BodyF) (m := (bodiesOf es).length) (xs := (bodiesOf es)) rfl rfl)) (kn _ (k_flN 1 (F := RopeF) (m := (ropesOf (bodiesOf es) rs).length) (xs := (ropesOf (bodiesOf es) rs)) rfl rfl)) hno).mono ?_
 rintro e w' ⟨rfl, hw'⟩
 refine ⟨_, rfl, _, back _ _ hw', ?_⟩
 clear hw hw1 hw' back kn sb
 refine l_val (v := .tuple #[.agg #[.slice none 0 0, .slice none 0 0, .int .i64 (0), .int .i64 (0)], .slice none 0 0, .int .i64 (2)]) rfl rfl rfl (e_move) ?_
 refine l_val (v := .agg #[.slice none 0 0, .slice none 0 0, .int .i64 (0), .int .i64 (0)]) rfl rfl rfl (e_extract (vs := #[.agg #[.slice none 0 0, .slice none 0 0, .int .i64 (0), .int .i64 (0)], .slice none 0 0, .int .i64 (2)]) rfl rfl) ?_
 refine l_val (v := .slice none 0 0) rfl rfl rfl (e_extract (vs := #[.agg #[.slice none 0 0, .slice none 0 0, .int .i64 (0), .int .i64 (0)], .slice none 0 0, .int .i64 (2)]) rfl rfl) ?_
 refine l_val (v := .int .i64 (2)) rfl rfl rfl (e_extract (vs := #[.agg #[.slice none 0 0, .slice none 0 0, .int .i64 (0), .int .i64 (0)], .slice none 0 0, .int .i64 (2)]) rfl rfl) ?_
 refine l_mv rfl rfl rfl (m_alloc tw23) ?_
 rintro _ _ ⟨b8, rfl, rfl⟩
 refine l_mu rfl rfl (m_store 0 tw25 (b := b8) (o := 0) (T := 30) (cs := #[.slice none 0 0, .slice none 0 0, .int .i64 (0), .int .i64 (0)]) (cs' := #[.slice none 0 0, .slice none 0 0, .int .i64 (0), .int .i64 (0)]) (v := .agg #[.slice none 0 0, .slice none 0 0, .int .i64 (0), .int .i64 (0)]) rfl rfl rfl rfl rfl rfl rfl) ?_
 refine l_val (v := .slice none 0 0) rfl rfl rfl (e_assign) ?_
 refine l_val (v := .int .i64 (2)) rfl rfl rfl (e_assign) ?_
 refine l_nil ?_
 refine f_then ?_
 refine c_seq ?_
 refine c_seq ?_
 refine c_region ?_
 refine l_val (v := .int .i64 (2)) rfl rfl rfl (e_move) ?_
 refine l_val (v := .bool true) rfl rfl rfl (e_neq (a := (2 : Int)) (b := (0 : Int)) rfl rfl) ?_
 refine l_nil ?_
 refine f_then ?_
 refine c_yes rfl ?_
 refine c_seq ?_
 refine c_region ?_
 refine l_val (v := .agg #[.int .i64 (0), .slice none 0 0]) rfl rfl rfl (e_build tw45 tw47 (vs := []) (cells := #[.int .i64 (0), .slice none 0 0]) rfl rfl) ?_
 refine l_val (v := .int .i64 (2)) rfl rfl rfl (e_move) ?_
 refine l_mu rfl rfl (m_store 3 tw48 (b := b3) (o := 0) (T := 24) (cs := #[.int .i64 (0), .slice none 0 0]) (cs' := #[.int .i64 (0), .slice none 0 0]) (v := .agg #[.int .i64 (0), .slice none 0 0]) rfl rfl rfl rfl rfl rfl rfl) ?_
 refine l_val (v := .slice none 0 0) rfl rfl rfl (e_assign) ?_
 refine l_val (v := .int .i64 (2)) rfl rfl rfl (e_assign) ?_
 refine l_nil ?_
 refine f_then ?_
 refine c_ret ?_
 refine f_then_ret ?_
 refine retG (l := [.cell 6 24, .tmp 7, .tmp 8]) (m := [.agg #[.int .i64 (0), .slice none 0 0], .slice none 0 0, .int .i64 (2)]) (v := .tuple #[.agg #[.int .i64 (0), .slice none 0 0], .slice none 0 0, .int .i64 (2)]) Tryz.results25 ⟨rd_cell tw48 (cs := [.int .i64 (0), .slice none 0 0]) rfl (k_pt 3 (cs := #[.int .i64 (0), .slice none 0 0]) (vs := [.int .i64 (0), .slice none 0 0]) rfl rfl) rfl, rd_tmp (v := .slice none 0 0) rfl, rd_tmp (v := .int .i64 (2)) rfl, trivial⟩ rfl ?_
 intro w hw
 exact ⟨rfl, st_mask [false, false, false, false, false, false] rfl hw⟩
set_option maxHeartbeats 4000000 in
theorem backO_ok (β : Base) (w : World) (hw : St β [] w) (tick : Int) (v bv rv : Value) (gx gy : Int) (es : List KEnt) (B : List KB) (hs : Sl EntR β.heap v es) (hb : Sl KBR β.heap bv B) (hn : es.length ≤ 65536) (hcl : ∀ e ∈ es, e.comps.length ≤ 65536) : Calls Tryz.prog 19 #[.agg #[Ix tick, v], .agg #[bv, rv, Ix gx, Ix gy]] w fun r w' => ∃ p c hd, hd.length = es.length ∧ r = .returned (.agg #[Ix tick, .slice p es.length c]) ∧ St β [rowF HdF 59 p c hd, goodO 120 hd (es.map (backE B))] w' := by
 obtain ⟨va, vc, rfl, vl, vm, ve⟩ := hs.get
 obtain ⟨bva, bvc, rfl, bvl, bvm, bve⟩ := hb.get
 refine enter (n := 113) Tryz.func19 rfl Tryz.ntmps19 rfl ?_ hw
 refine c_seq ?_
 refine c_region ?_
 refine l_mv rfl rfl rfl (m_box (v := .agg #[Ix (tick), .slice va (es.length) (vc)]) rfl) ?_
 rintro _ _ ⟨b1, rfl, rfl⟩
 refine l_mv rfl rfl rfl (m_box (v := .agg #[.slice bva (B.length) (bvc), rv, Ix (gx), Ix (gy)]) rfl) ?_
 rintro _ _ ⟨b2, rfl, rfl⟩
 refine l_mv rfl rfl rfl (m_alloc tw45) ?_
 rintro _ _ ⟨b3, rfl, rfl⟩
 refine l_nil ?_
 refine f_then ?_
 refine c_seq ?_
 refine c_region ?_
 refine l_val (v := .pointer (some ⟨b1, 0, none⟩)) rfl rfl rfl (e_fieldPt (b := b1) (o := 0) rfl tw46) ?_
 refine l_val (v := Ix (tick)) rfl rfl rfl (e_load1 tw15 (v := Ix (tick)) rfl (k_pt 2 (cs := #[Ix (tick), .slice va (es.length) (vc)]) (vs := [Ix (tick)]) rfl rfl)) ?_
 refine l_val (v := .agg #[Ix (tick), .slice none 0 0]) rfl rfl rfl (e_build tw45 tw47 (vs := [(0, Ix (tick))]) (cells := #[Ix (tick), .slice none 0 0]) rfl rfl) ?_
 refine l_mv rfl rfl rfl (m_alloc tw45) ?_
 rintro _ _ ⟨b4, rfl, rfl⟩
 refine l_mu rfl rfl (m_store 0 tw48 (b := b4) (o := 0) (T := 24) (cs := #[.int .i64 (0), .slice none 0 0]) (cs' := #[Ix (tick), .slice none 0 0]) (v := .agg #[Ix (tick), .slice none 0 0]) rfl rfl rfl rfl rfl rfl rfl) ?_
 refine l_nil ?_
 refine f_then ?_
 refine c_seq ?_
 refine c_seq ?_
 refine c_emp (r := rowF HdF 59 none 0 []) (row_nil _ _ _) ?_
 refine c_emp (r := goodO 120 [] []) goodO_nil ?_
 refine c_region ?_
 refine l_val (v := .pointer (some ⟨b1, 1, none⟩)) rfl rfl rfl (e_fieldPt (b := b1) (o := 0) rfl tw26) ?_
 refine l_val (v := .slice va (es.length) (vc)) rfl rfl rfl (e_load1 tw27 (v := .slice va (es.length) (vc)) rfl (k_pt 5 (cs := #[Ix (tick), .slice va (es.length) (vc)]) (vs := [.slice va (es.length) (vc)]) rfl rfl)) ?_
 refine l_val (v := Nx (es.length)) rfl rfl rfl (e_len (a := va) (n := es.length) (c := vc) rfl tw28) ?_
 refine l_val (v := .int .i64 (0)) rfl rfl rfl (e_move) ?_
 refine l_nil ?_
 refine f_then ?_
 refine c_block ?_
 refine c_mask [true, true, true, true, true, true] rfl ?_
 refine c_loop (fun (x_ : Nat × List KHd × Option Addr × Nat) (f : Fm) (L : List Res) => match x_ with | (k, hd, p, c) => (f 3 = .pointer (some ⟨b2, 0, none⟩) ∧ f 4 = .pointer (some ⟨b3, 0, none⟩) ∧ f 5 = .pointer (some ⟨b4, 0, none⟩) ∧ f 17 = .slice va (es.length) (vc) ∧ f 18 = Nx (es.length) ∧ f 19 = Nx (k)) ∧ L = [goodO 120 hd ((es.take k).map (backE B)), rowF HdF 59 p c hd, pt b4 (.cells #[Ix (tick), .slice p (hd.length) c] 24), pt b3 (.cells #[.int .i64 (0), .slice none 0 0] 24), pt b2 (.cells #[.slice bva (B.length) (bvc), rv, Ix (gx), Ix (gy)] 30), pt b1 (.cells #[Ix (tick), .slice va (es.length) (vc)] 24)] ∧ (k ≤ es.length ∧ hd.length = k)) (fun (x_ : Nat × List KHd × Option Addr × Nat) => match x_ with | (k, hd, p, c) => es.length - k) (0, [], none, 0) ?_ ?_
 ·exact ⟨⟨rfl, rfl, rfl, rfl, rfl, rfl⟩, rfl, ⟨by omega, rfl⟩⟩
 rintro ⟨k, hd, p, c⟩ f0 L0 ⟨⟨hs3, hs4, hs5, hs17, hs18, hs19⟩, hL, ⟨hk, hdl⟩⟩
 subst L0
 refine rebase (d := 3) hs3 ?_
 refine rebase (d := 4) hs4 ?_
 refine rebase (d := 5) hs5 ?_
 refine rebase (d := 17) hs17 ?_
 refine rebase (d := 18) hs18 ?_
 refine rebase (d := 19) hs19 ?_
 clear hs3 hs4 hs5 hs17 hs18 hs19
 refine c_seq ?_
 refine c_region ?_
 refine l_val (v := .bool (decide (((k : Nat) : Int) < ((es.length : Nat) : Int)))) rfl rfl rfl (e_lss (a := ((k : Nat) : Int)) (b := ((es.length : Nat) : Int)) rfl rfl) ?_
 refine l_nil ?_
 refine f_then ?_
 refine c_seq ?_
 refine c_if (((k : Nat) : Int) < ((es.length : Nat) : Int)) rfl (fun hc5 => ?_) (fun hc5 => ?_)
 ·
  refine c_skip ?_
  refine f_then ?_
  refine c_seq ?_
  refine c_block ?_
  refine c_seq ?_
  refine c_region ?_
  obtain ⟨x6, hx7⟩ : ∃ x_, (es)[k]? = some x_ := ⟨_, List.getElem?_eq_getElem (by omega)⟩
  obtain ⟨ha8, cs9, hc10, hr11⟩ := ve _ _ hx7
  obtain ⟨v12, rfl, hv13⟩ := hr11
  obtain ⟨v12a, v12c, rfl, v12l, v12m, v12e⟩ := hv13.get
  refine l_val (v := .pointer (some ((ba va).add (k * 2)))) rfl rfl rfl (e_indexAddr (k := k) (len := es.length) (cap := vc) (a := va) rfl rfl tw29 (by omega) ha8) ?_
  refine l_val (v := .agg #[Ix (x6.id), .slice v12a (x6.comps.length) (v12c)]) rfl rfl rfl (e_load tw7 (cs := [Ix (x6.id), .slice v12a (x6.comps.length) (v12c)]) rfl (Knows.of_base (Cs.mono _ _) hc10) rfl) ?_
  refine l_mv rfl rfl rfl (m_alloc tw51) ?_
  rintro _ _ ⟨b14, rfl, rfl⟩
  refine l_mu rfl rfl (m_store 0 tw7 (b := b14) (o := 0) (T := 59) (cs := #[.int .i64 (0), .slice none 0 0]) (cs' := #[Ix (x6.id), .slice v12a (x6.comps.length) (v12c)]) (v := .agg #[Ix (x6.id), .slice v12a (x6.comps.length) (v12c)]) rfl rfl rfl rfl rfl rfl rfl) ?_
  refine l_nil ?_
  refine f_then ?_
  refine c_seq ?_
  have hcx := hcl x6 (List.mem_of_getElem? hx7)
  refine c_region ?_
  refine l_val (v := .pointer (some ⟨b14, 1, none⟩)) rfl rfl rfl (e_fieldPt (b := b14) (o := 0) rfl tw0) ?_
  refine l_val (v := .slice v12a (x6.comps.length) (v12c)) rfl rfl rfl (e_load1 tw1 (v := .slice v12a (x6.comps.length) (v12c)) rfl (k_pt 0 (cs := #[Ix (x6.id), .slice v12a (x6.comps.length) (v12c)]) (vs := [.slice v12a (x6.comps.length) (v12c)]) rfl rfl)) ?_
  refine l_call rfl rfl rfl (cl_value (fst := []) (cap := []) (vs := [.slice v12a (x6.comps.length) (v12c)]) (all := [.slice v12a (x6.comps.length) (v12c)]) tw60 rfl rfl rfl) ?_
  intro w hw
  obtain ⟨β1, sb, kn, hw1, back⟩ := St.frame_all hw
  refine (cloneC_ok β1 w hw1 _ x6.comps (Sl.mono _ _ _ _ _ sb (⟨⟨_, _, rfl, v12l, v12m, v12e⟩⟩ : Sl CompR _ _ x6.comps)) (by omega)).mono ?_
  rintro e w' ⟨p15, c16, rfl, hw'⟩
  refine ⟨_, rfl, _, back _ _ hw', ?_⟩
  clear hw hw1 hw' back kn sb
  refine l_val (v := .pointer (some ⟨b14, 1, none⟩)) rfl rfl rfl (e_fieldPt (b := b14) (o := 0) rfl tw0) ?_
  refine l_mu rfl rfl (m_store 1 tw1 (b := b14) (o := 1) (T := 59) (cs := #[Ix (x6.id), .slice v12a (x6.comps.length) (v12c)]) (cs' := #[Ix (x6.id), .slice p15 (x6.comps.length) c16]) (v := .slice p15 (x6.comps.length) c16) rfl rfl rfl rfl rfl rfl rfl) ?_
  refine l_nil ?_
  refine f_then ?_
  refine c_seq ?_
  refine c_region ?_
  refine l_val (v := .pointer (some ⟨b4, 1, none⟩)) rfl rfl rfl (e_fieldPt (b := b4) (o := 0) rfl tw26) ?_
  refine l_val (v := .slice p (hd.length) c) rfl rfl rfl (e_load1 tw27 (v := .slice p (hd.length) c) rfl (k_pt 4 (cs := #[Ix (tick), .slice p (hd.length) c]) (vs := [.slice p (hd.length) c]) rfl rfl)) ?_
  refine l_val (v := .agg #[Ix (x6.id), .slice p15 (x6.comps.length) c16]) rfl rfl rfl (e_load tw7 (cs := [Ix (x6.id), .slice p15 (x6.comps.length) c16]) rfl (k_pt 1 (cs := #[Ix (x6.id), .slice p15 (x6.comps.length) c16]) (vs := [Ix (x6.id), .slice p15 (x6.comps.length) c16]) rfl rfl) rfl) ?_
  refine l_mv rfl rfl rfl (m_slices tw29 tw51 (vs := [(0, .agg #[Ix (x6.id), .slice p15 (x6.comps.length) c16])]) (cells := #[Ix (x6.id), .slice p15 (x6.comps.length) c16]) rfl rfl rfl rfl) ?_
  rintro _ _ ⟨b17, rfl, rfl⟩
  refine l_mv rfl rfl rfl (m_appendFlN (F := HdF) 4 tw29 tw53 (p := p) (m := hd.length) (xs := hd) (ys := [(⟨(x6.id), p15, x6.comps.length, c16⟩ : KHd)]) (ao := (some ⟨b17, 0, none⟩)) (k := 1) (c := 1) rfl rfl rfl rfl rfl (k_ptFl (z := (⟨(x6.id), p15, x6.comps.length, c16⟩ : KHd)) 0 rfl rfl) (by first | omega | simp only [List.length_nil, List.length_cons, List.length_append, List.length_set]; omega) (by first | omega | simp only [List.length_nil, List.length_cons, List.length_append, List.length_set]; omega)) ?_
  rintro _ _ ⟨rp18, rc19, rfl, rfl⟩
  refine l_val (v := .pointer (some ⟨b4, 1, none⟩)) rfl rfl rfl (e_fieldPt (b := b4) (o := 0) rfl tw26) ?_
  refine l_mu rfl rfl (m_store 5 tw27 (b := b4) (o := 1) (T := 24) (cs := #[Ix (tick), .slice p (hd.length) c]) (cs' := #[Ix (tick), .slice rp18 ((hd ++ [(⟨(x6.id), p15, x6.comps.length, c16⟩ : KHd)]).length) rc19]) (v := .slice rp18 ((hd ++ [(⟨(x6.id), p15, x6.comps.length, c16⟩ : KHd)]).length) rc19) rfl rfl rfl rfl rfl rfl rfl) ?_
  refine l_nil ?_
  refine f_then ?_
  refine c_seq ?_
  refine c_quiet (by kernel_rfl) (by kernel_rfl) ?_
  refine q_val (v := .agg #[Ix (x6.id), .slice p15 (x6.comps.length) c16]) rfl rfl rfl (e_load tw7 (cs := [Ix (x6.id), .slice p15 (x6.comps.length) c16]) rfl (k_pt 2 (cs := #[Ix (x6.id), .slice p15 (x6.comps.length) c16]) (vs := [Ix (x6.id), .slice p15 (x6.comps.length) c16]) rfl rfl) rfl) ?_
  refine q_call (v := .pointer (optP p15 x6.comps 1)) rfl rfl rfl (cl_value (fst := []) (cap := []) (vs := [.agg #[Ix (x6.id), .slice p15 (x6.comps.length) c16], .int .u8 (1)]) (all := [.agg #[Ix (x6.id), .slice p15 (x6.comps.length) c16], .int .u8 (1)]) tw61 rfl rfl rfl) (fun w hw => ?_) ?_
  ·obtain ⟨β1, sb, kn, hw1, back⟩ := St.frame_all hw
   exact (first_ok β1 w hw1 (x6.id) p15 c16 x6.comps (kn _ (k_flN 1 (F := CompF) (m := x6.comps.length) (xs := x6.comps) rfl rfl)) 1).mono (fun e w' ⟨he, hw'⟩ => ⟨he, st_mask [true, true, true, true, true, true, true, true, true] rfl (back _ _ hw')⟩)
  refine q_val (v := .agg #[Ix (x6.id), .slice p15 (x6.comps.length) c16]) rfl rfl rfl (e_load tw7 (cs := [Ix (x6.id), .slice p15 (x6.comps.length) c16]) rfl (k_pt 2 (cs := #[Ix (x6.id), .slice p15 (x6.comps.length) c16]) (vs := [Ix (x6.id), .slice p15 (x6.comps.length) c16]) rfl rfl) rfl) ?_
  refine q_call (v := .pointer (optP p15 x6.comps 2)) rfl rfl rfl (cl_value (fst := []) (cap := []) (vs := [.agg #[Ix (x6.id), .slice p15 (x6.comps.length) c16], .int .u8 (2)]) (all := [.agg #[Ix (x6.id), .slice p15 (x6.comps.length) c16], .int .u8 (2)]) tw61 rfl rfl rfl) (fun w hw => ?_) ?_
  ·obtain ⟨β1, sb, kn, hw1, back⟩ := St.frame_all hw
   exact (first_ok β1 w hw1 (x6.id) p15 c16 x6.comps (kn _ (k_flN 1 (F := CompF) (m := x6.comps.length) (xs := x6.comps) rfl rfl)) 2).mono (fun e w' ⟨he, hw'⟩ => ⟨he, st_mask [true, true, true, true, true, true, true, true, true] rfl (back _ _ hw')⟩)
  refine q_val (v := .pointer (optP p15 x6.comps 1)) rfl rfl rfl (e_assign) ?_
  refine q_val (v := .pointer (optP p15 x6.comps 2)) rfl rfl rfl (e_assign) ?_
  refine q_nil ?_
  refine f_then ?_
  refine c_seq ?_
  refine c_region ?_
  refine l_val (v := .agg #[Ix (x6.id), .slice p15 (x6.comps.length) c16]) rfl rfl rfl (e_load tw7 (cs := [Ix (x6.id), .slice p15 (x6.comps.length) c16]) rfl (k_pt 2 (cs := #[Ix (x6.id), .slice p15 (x6.comps.length) c16]) (vs := [Ix (x6.id), .slice p15 (x6.comps.length) c16]) rfl rfl) rfl) ?_
  refine l_call rfl rfl rfl (cl_value (fst := []) (cap := []) (vs := [.agg #[Ix (x6.id), .slice p15 (x6.comps.length) c16]]) (all := [.agg #[Ix (x6.id), .slice p15 (x6.comps.length) c16]]) tw62 rfl rfl rfl) ?_
  intro w hw
  obtain ⟨β1, sb, kn, hw1, back⟩ := St.frame_all hw
  refine (body_ok β1 w hw1 (x6.id) p15 c16 x6.comps (kn _ (k_flN 1 (F := CompF) (m := x6.comps.length) (xs := x6.comps) rfl rfl))).mono ?_
  rintro e w' ⟨rfl, hw'⟩
  refine ⟨_, rfl, _, back _ _ hw', ?_⟩
  clear hw hw1 hw' back kn sb
  refine l_val (v := .tuple #[.agg (bC (bodyD (x6.id) x6.comps)), .bool ((bodyOf (x6.id) x6.comps).isSome)]) rfl rfl rfl (e_move) ?_
  refine l_val (v := .agg (bC (bodyD (x6.id) x6.comps))) rfl rfl rfl (e_extract (vs := #[.agg (bC (bodyD (x6.id) x6.comps)), .bool ((bodyOf (x6.id) x6.comps).isSome)]) rfl rfl) ?_
  refine l_val (v := .bool ((bodyOf (x6.id) x6.comps).isSome)) rfl rfl rfl (e_extract (vs := #[.agg (bC (bodyD (x6.id) x6.comps)), .bool ((bodyOf (x6.id) x6.comps).isSome)]) rfl rfl) ?_
  refine l_mv rfl rfl rfl (m_alloc tw6) ?_
  rintro _ _ ⟨b20, rfl, rfl⟩
  refine l_mu rfl rfl (m_store 0 tw10 (b := b20) (o := 0) (T := 52) (cs := #[.int .i64 (0), .int .i64 (0), .int .i64 (0), .int .i64 (0), .int .i64 (0), .int .i64 (0), .int .i64 (0), .bool false, .bool false]) (cs' := (bC (bodyD (x6.id) x6.comps))) (v := .agg (bC (bodyD (x6.id) x6.comps))) rfl rfl rfl rfl rfl rfl rfl) ?_
  refine l_val (v := .bool ((bodyOf (x6.id) x6.comps).isSome)) rfl rfl rfl (e_assign) ?_
  refine l_nil ?_
  refine f_then ?_
  refine c_seq ?_
  refine c_seq ?_
  refine c_region ?_
  refine l_val (v := .bool ((bodyOf (x6.id) x6.comps).isSome)) rfl rfl rfl (e_move) ?_
  refine l_val (v := .bool (!((bodyOf (x6.id) x6.comps).isSome))) rfl rfl rfl (e_not rfl) ?_
  refine l_nil ?_
  refine f_then ?_
  refine c_ifb (!((bodyOf (x6.id) x6.comps).isSome)) rfl (fun hc21 => ?_) (fun hc21 => ?_)
  ·
   have h0 : (bodyOf x6.id x6.comps).isSome = false := by simpa using hc21
   refine c_seq ?_
   refine c_seq ?_
   refine c_region ?_
   refine l_val (v := .pointer (optP p15 x6.comps 1)) rfl rfl rfl (e_move) ?_
   refine l_val (v := .bool (!(optP p15 x6.comps 1).isNone)) rfl rfl rfl (e_neq_pnil (p := optP p15 x6.comps 1) rfl rfl tw63) ?_
   refine l_val (v := .bool (!(optP p15 x6.comps 1).isNone)) rfl rfl rfl (e_move) ?_
   refine l_splitb (s := 46) (b := !(optP p15 x6.comps 1).isNone) rfl (fun hg22 => ?_) (fun hg22 => ?_)
   ·
    have hq23 : (optP p15 x6.comps 1).isNone = false := by simpa using hg22
    obtain ⟨i1, c1, hi1, hk1, hx1, hp1, hf1⟩ := optP_some hq23
    have hl1 := (List.getElem?_eq_some_iff.1 hi1).1
    rw [hp1]
    refine g_val (v := .pointer (optP p15 x6.comps 2)) rfl rfl rfl rfl rfl (e_move) ?_
    refine g_val (v := .bool (!(optP p15 x6.comps 2).isNone)) rfl rfl rfl rfl rfl (e_neq_pnil (p := optP p15 x6.comps 2) rfl rfl tw63) ?_
    refine l_val (v := .bool (!(optP p15 x6.comps 2).isNone)) rfl rfl rfl (e_pick_t rfl) ?_
    refine l_val (v := .bool (!(optP p15 x6.comps 2).isNone)) rfl rfl rfl (e_move) ?_
    refine l_splitb (s := 50) (b := !(optP p15 x6.comps 2).isNone) rfl (fun hg24 => ?_) (fun hg24 => ?_)
    ·
     have hq25 : (optP p15 x6.comps 2).isNone = false := by simpa using hg24
     obtain ⟨i2, c2, hi2, hk2, hx2, hp2, hf2⟩ := optP_some hq25
     have hl2 := (List.getElem?_eq_some_iff.1 hi2).1
     rw [hp2]
     have hij : i1 ≠ i2 := idx_ne hi1 hi2 hk1 hk2
     refine g_val (v := .agg #[Ix (x6.id), .slice p15 (x6.comps.length) c16]) rfl rfl rfl rfl rfl (e_load tw7 (cs := [Ix (x6.id), .slice p15 (x6.comps.length) c16]) rfl (k_pt 3 (cs := #[Ix (x6.id), .slice p15 (x6.comps.length) c16]) (vs := [Ix (x6.id), .slice p15 (x6.comps.length) c16]) rfl rfl) rfl) ?_
     refine g_call rfl rfl rfl rfl rfl (cl_value (fst := []) (cap := []) (vs := [.agg #[Ix (x6.id), .slice p15 (x6.comps.length) c16], .int .u8 (3)]) (all := [.agg #[Ix (x6.id), .slice p15 (x6.comps.length) c16], .int .u8 (3)]) tw61 rfl rfl rfl) ?_
     intro w hw
     obtain ⟨β1, sb, kn, hw1, back⟩ := St.frame_all hw
     refine (first_ok β1 w hw1 (x6.id) p15 c16 x6.comps (kn _ (k_flN 2 (F := CompF) (m := x6.comps.length) (xs := x6.comps) rfl rfl)) 3).mono ?_
     rintro e w' ⟨rfl, hw'⟩
     refine ⟨_, rfl, _, back _ _ hw', ?_⟩
     clear hw hw1 hw' back kn sb
     refine g_val (v := .bool ((optP p15 x6.comps 3).isNone)) rfl rfl rfl rfl rfl (e_eql_pnil (p := optP p15 x6.comps 3) rfl rfl tw63) ?_
     refine l_val (v := .bool ((optP p15 x6.comps 3).isNone)) rfl rfl rfl (e_pick_t rfl) ?_
     refine l_nil ?_
     refine f_then ?_
     refine c_ifb ((optP p15 x6.comps 3).isNone) rfl (fun hc26 => ?_) (fun hc26 => ?_)
     ·
      have hq27 : (optP p15 x6.comps 3).isNone = true := by simpa using hc26
      have hn3 := (optP_none hq27).1
      refine c_region ?_
      refine l_val (v := .pointer (some ((ba p15).add (i1 * 5)))) rfl rfl rfl (e_move) ?_
      refine l_val (v := .pointer (some ((ba p15).add (i2 * 5)))) rfl rfl rfl (e_move) ?_
      refine l_call rfl rfl rfl (cl_value (fst := []) (cap := []) (vs := [.pointer (some ((ba p15).add (i1 * 5))), .pointer (some ((ba p15).add (i2 * 5)))]) (all := [.pointer (some ((ba p15).add (i1 * 5))), .pointer (some ((ba p15).add (i2 * 5)))]) tw64 rfl rfl rfl) ?_
      intro w hw
      replace hw := hw.perm (L' := _ :: _ :: _ :: _ :: _ :: _ :: _ :: _ :: _ :: _ :: []) (by exact ((((((((((perm_front 9 rfl).trans (perm_front 9 rfl)).trans (perm_front 9 rfl)).trans (perm_front 9 rfl)).trans (perm_front 9 rfl)).trans (perm_front 9 rfl)).trans (perm_front 9 rfl)).trans (perm_front 8 rfl)).trans (perm_front 8 rfl)).trans (perm_front 9 rfl)))
      obtain ⟨β1, sb, kn, hw1, back⟩ := St.frame (L := [_]) (M := _ :: _ :: _ :: _ :: _ :: _ :: _ :: _ :: _ :: []) hw
      refine (fly_ok β1 w _ _ x6.comps i1 i2 c1 c2 hi1 hi2 hij hw1).mono ?_
      rintro e w' ⟨rfl, hw'⟩
      refine ⟨_, rfl, _, back _ _ hw', ?_⟩
      clear hw hw1 hw' back kn sb
      refine l_nil ?_
      refine f_then ?_
      refine c_exit ?_
      refine f_then_exit ?_
      refine f_exit ?_
      refine f_then ?_
      refine c_region ?_
      refine l_val (v := Nx (k + 1)) rfl rfl rfl (e_add (a := ((k : Nat) : Int)) (b := (1 : Int)) rfl rfl (i64n (by omega) (by omega))) ?_
      refine l_val (v := Nx (k + 1)) rfl rfl rfl (e_move) ?_
      refine l_nil ?_
      have hY : (flyC x6.comps i1 i2 c1 c2) = backC B x6.id x6.comps := (back_fly h0 hx1 hf1 hx2 hf2 hn3)
      refine f_perm (L' := [rowF CompF 120 p15 c16 (flyC x6.comps i1 i2 c1 c2), goodO 120 hd ((es.take k).map (backE B)), pt b20 (.cells (bC (bodyD (x6.id) x6.comps)) 52), pt b17 (.cells #[Ix (x6.id), .slice p15 (x6.comps.length) c16] 59), pt b14 (.cells #[Ix (x6.id), .slice p15 (x6.comps.length) c16] 59), rowF HdF 59 rp18 rc19 (hd ++ [(⟨(x6.id), p15, x6.comps.length, c16⟩ : KHd)]), pt b4 (.cells #[Ix (tick), .slice rp18 ((hd ++ [(⟨(x6.id), p15, x6.comps.length, c16⟩ : KHd)]).length) rc19] 24), pt b3 (.cells #[.int .i64 (0), .slice none 0 0] 24), pt b2 (.cells #[.slice bva (B.length) (bvc), rv, Ix (gx), Ix (gy)] 30), pt b1 (.cells #[Ix (tick), .slice va (es.length) (vc)] 24)]) (by exact (perm_ix [0, 4, 1, 2, 3, 5, 6, 7, 8, 9] 10 rfl (by kernel_rfl) (by kernel_rfl))) ?_
      refine f_merge (L := [rowF CompF 120 p15 c16 (flyC x6.comps i1 i2 c1 c2), goodO 120 hd ((es.take k).map (backE B))]) (M := [pt b20 (.cells (bC (bodyD (x6.id) x6.comps)) 52), pt b17 (.cells #[Ix (x6.id), .slice p15 (x6.comps.length) c16] 59), pt b14 (.cells #[Ix (x6.id), .slice p15 (x6.comps.length) c16] 59), rowF HdF 59 rp18 rc19 (hd ++ [(⟨(x6.id), p15, x6.comps.length, c16⟩ : KHd)]), pt b4 (.cells #[Ix (tick), .slice rp18 ((hd ++ [(⟨(x6.id), p15, x6.comps.length, c16⟩ : KHd)]).length) rc19] 24), pt b3 (.cells #[.int .i64 (0), .slice none 0 0] 24), pt b2 (.cells #[.slice bva (B.length) (bvc), rv, Ix (gx), Ix (gy)] 30), pt b1 (.cells #[Ix (tick), .slice va (es.length) (vc)] 24)]) (r := goodO 120 (hd ++ [(⟨(x6.id), p15, x6.comps.length, c16⟩ : KHd)]) ((es.take (k + 1)).map (backE B))) (by rw [← back_next hx7 hY]; exact goodO_merge (cs := (flyC x6.comps i1 i2 c1 c2)) (m := x6.comps.length) (by rw [hY, back_len])) ?_
      refine f_mask (L' := [goodO 120 (hd ++ [(⟨(x6.id), p15, x6.comps.length, c16⟩ : KHd)]) ((es.take (k + 1)).map (backE B)), rowF HdF 59 rp18 rc19 (hd ++ [(⟨(x6.id), p15, x6.comps.length, c16⟩ : KHd)]), pt b4 (.cells #[Ix (tick), .slice rp18 ((hd ++ [(⟨(x6.id), p15, x6.comps.length, c16⟩ : KHd)]).length) rc19] 24), pt b3 (.cells #[.int .i64 (0), .slice none 0 0] 24), pt b2 (.cells #[.slice bva (B.length) (bvc), rv, Ix (gx), Ix (gy)] 30), pt b1 (.cells #[Ix (tick), .slice va (es.length) (vc)] 24)]) [true, false, false, false, true, true, true, true, true] rfl ?_
      exact f_cut ⟨(k + 1, (hd ++ [(⟨(x6.id), p15, x6.comps.length, c16⟩ : KHd)]), rp18, rc19), ⟨⟨rfl, rfl, rfl, rfl, rfl, rfl⟩, rfl, ⟨by omega, by rw [List.length_append]; simp only [List.length_cons, List.length_nil]; omega⟩⟩, (show es.length - (k + 1) < es.length - k from by omega)⟩
     ·
      have hq28 : (optP p15 x6.comps 3).isNone = false := by simpa using hc26
      obtain ⟨i3, c3, -, -, hx3, -, -⟩ := optP_some hq28
      refine c_skip ?_
      refine f_then ?_
      refine c_exit ?_
      refine f_then_exit ?_
      refine f_exit ?_
      refine f_then ?_
      refine c_region ?_
      refine l_val (v := Nx (k + 1)) rfl rfl rfl (e_add (a := ((k : Nat) : Int)) (b := (1 : Int)) rfl rfl (i64n (by omega) (by omega))) ?_
      refine l_val (v := Nx (k + 1)) rfl rfl rfl (e_move) ?_
      refine l_nil ?_
      have hY : x6.comps = backC B x6.id x6.comps := (back_no h0 (.inr (.inr ⟨_, hx3⟩)))
      refine f_perm (L' := [rowF CompF 120 p15 c16 x6.comps, goodO 120 hd ((es.take k).map (backE B)), pt b20 (.cells (bC (bodyD (x6.id) x6.comps)) 52), pt b17 (.cells #[Ix (x6.id), .slice p15 (x6.comps.length) c16] 59), pt b14 (.cells #[Ix (x6.id), .slice p15 (x6.comps.length) c16] 59), rowF HdF 59 rp18 rc19 (hd ++ [(⟨(x6.id), p15, x6.comps.length, c16⟩ : KHd)]), pt b4 (.cells #[Ix (tick), .slice rp18 ((hd ++ [(⟨(x6.id), p15, x6.comps.length, c16⟩ : KHd)]).length) rc19] 24), pt b3 (.cells #[.int .i64 (0), .slice none 0 0] 24), pt b2 (.cells #[.slice bva (B.length) (bvc), rv, Ix (gx), Ix (gy)] 30), pt b1 (.cells #[Ix (tick), .slice va (es.length) (vc)] 24)]) (by exact (perm_ix [2, 4, 0, 1, 3, 5, 6, 7, 8, 9] 10 rfl (by kernel_rfl) (by kernel_rfl))) ?_
      refine f_merge (L := [rowF CompF 120 p15 c16 x6.comps, goodO 120 hd ((es.take k).map (backE B))]) (M := [pt b20 (.cells (bC (bodyD (x6.id) x6.comps)) 52), pt b17 (.cells #[Ix (x6.id), .slice p15 (x6.comps.length) c16] 59), pt b14 (.cells #[Ix (x6.id), .slice p15 (x6.comps.length) c16] 59), rowF HdF 59 rp18 rc19 (hd ++ [(⟨(x6.id), p15, x6.comps.length, c16⟩ : KHd)]), pt b4 (.cells #[Ix (tick), .slice rp18 ((hd ++ [(⟨(x6.id), p15, x6.comps.length, c16⟩ : KHd)]).length) rc19] 24), pt b3 (.cells #[.int .i64 (0), .slice none 0 0] 24), pt b2 (.cells #[.slice bva (B.length) (bvc), rv, Ix (gx), Ix (gy)] 30), pt b1 (.cells #[Ix (tick), .slice va (es.length) (vc)] 24)]) (r := goodO 120 (hd ++ [(⟨(x6.id), p15, x6.comps.length, c16⟩ : KHd)]) ((es.take (k + 1)).map (backE B))) (by rw [← back_next hx7 hY]; exact goodO_merge (cs := x6.comps) (m := x6.comps.length) (by rw [hY, back_len])) ?_
      refine f_mask (L' := [goodO 120 (hd ++ [(⟨(x6.id), p15, x6.comps.length, c16⟩ : KHd)]) ((es.take (k + 1)).map (backE B)), rowF HdF 59 rp18 rc19 (hd ++ [(⟨(x6.id), p15, x6.comps.length, c16⟩ : KHd)]), pt b4 (.cells #[Ix (tick), .slice rp18 ((hd ++ [(⟨(x6.id), p15, x6.comps.length, c16⟩ : KHd)]).length) rc19] 24), pt b3 (.cells #[.int .i64 (0), .slice none 0 0] 24), pt b2 (.cells #[.slice bva (B.length) (bvc), rv, Ix (gx), Ix (gy)] 30), pt b1 (.cells #[Ix (tick), .slice va (es.length) (vc)] 24)]) [true, false, false, false, true, true, true, true, true] rfl ?_
      exact f_cut ⟨(k + 1, (hd ++ [(⟨(x6.id), p15, x6.comps.length, c16⟩ : KHd)]), rp18, rc19), ⟨⟨rfl, rfl, rfl, rfl, rfl, rfl⟩, rfl, ⟨by omega, by rw [List.length_append]; simp only [List.length_cons, List.length_nil]; omega⟩⟩, (show es.length - (k + 1) < es.length - k from by omega)⟩
    ·
     have hq29 : (optP p15 x6.comps 2).isNone = true := by simpa using hg24
     refine l_skip rfl rfl rfl rfl rfl rfl ?_
     refine l_skip rfl rfl rfl rfl rfl rfl ?_
     refine l_skip rfl rfl rfl rfl rfl rfl ?_
     refine l_val (v := .bool false) rfl rfl rfl (e_pick_f rfl) ?_
     refine l_nil ?_
     refine f_then ?_
     refine c_no rfl ?_
     refine c_skip ?_
     refine f_then ?_
     refine c_exit ?_
     refine f_then_exit ?_
     refine f_exit ?_
     refine f_then ?_
     refine c_region ?_
     refine l_val (v := Nx (k + 1)) rfl rfl rfl (e_add (a := ((k : Nat) : Int)) (b := (1 : Int)) rfl rfl (i64n (by omega) (by omega))) ?_
     refine l_val (v := Nx (k + 1)) rfl rfl rfl (e_move) ?_
     refine l_nil ?_
     have hY : x6.comps = backC B x6.id x6.comps := (back_no h0 (.inr (.inl (optP_none hq29).1)))
     refine f_perm (L' := [rowF CompF 120 p15 c16 x6.comps, goodO 120 hd ((es.take k).map (backE B)), pt b20 (.cells (bC (bodyD (x6.id) x6.comps)) 52), pt b17 (.cells #[Ix (x6.id), .slice p15 (x6.comps.length) c16] 59), pt b14 (.cells #[Ix (x6.id), .slice p15 (x6.comps.length) c16] 59), rowF HdF 59 rp18 rc19 (hd ++ [(⟨(x6.id), p15, x6.comps.length, c16⟩ : KHd)]), pt b4 (.cells #[Ix (tick), .slice rp18 ((hd ++ [(⟨(x6.id), p15, x6.comps.length, c16⟩ : KHd)]).length) rc19] 24), pt b3 (.cells #[.int .i64 (0), .slice none 0 0] 24), pt b2 (.cells #[.slice bva (B.length) (bvc), rv, Ix (gx), Ix (gy)] 30), pt b1 (.cells #[Ix (tick), .slice va (es.length) (vc)] 24)]) (by exact (perm_ix [2, 4, 0, 1, 3, 5, 6, 7, 8, 9] 10 rfl (by kernel_rfl) (by kernel_rfl))) ?_
     refine f_merge (L := [rowF CompF 120 p15 c16 x6.comps, goodO 120 hd ((es.take k).map (backE B))]) (M := [pt b20 (.cells (bC (bodyD (x6.id) x6.comps)) 52), pt b17 (.cells #[Ix (x6.id), .slice p15 (x6.comps.length) c16] 59), pt b14 (.cells #[Ix (x6.id), .slice p15 (x6.comps.length) c16] 59), rowF HdF 59 rp18 rc19 (hd ++ [(⟨(x6.id), p15, x6.comps.length, c16⟩ : KHd)]), pt b4 (.cells #[Ix (tick), .slice rp18 ((hd ++ [(⟨(x6.id), p15, x6.comps.length, c16⟩ : KHd)]).length) rc19] 24), pt b3 (.cells #[.int .i64 (0), .slice none 0 0] 24), pt b2 (.cells #[.slice bva (B.length) (bvc), rv, Ix (gx), Ix (gy)] 30), pt b1 (.cells #[Ix (tick), .slice va (es.length) (vc)] 24)]) (r := goodO 120 (hd ++ [(⟨(x6.id), p15, x6.comps.length, c16⟩ : KHd)]) ((es.take (k + 1)).map (backE B))) (by rw [← back_next hx7 hY]; exact goodO_merge (cs := x6.comps) (m := x6.comps.length) (by rw [hY, back_len])) ?_
     refine f_mask (L' := [goodO 120 (hd ++ [(⟨(x6.id), p15, x6.comps.length, c16⟩ : KHd)]) ((es.take (k + 1)).map (backE B)), rowF HdF 59 rp18 rc19 (hd ++ [(⟨(x6.id), p15, x6.comps.length, c16⟩ : KHd)]), pt b4 (.cells #[Ix (tick), .slice rp18 ((hd ++ [(⟨(x6.id), p15, x6.comps.length, c16⟩ : KHd)]).length) rc19] 24), pt b3 (.cells #[.int .i64 (0), .slice none 0 0] 24), pt b2 (.cells #[.slice bva (B.length) (bvc), rv, Ix (gx), Ix (gy)] 30), pt b1 (.cells #[Ix (tick), .slice va (es.length) (vc)] 24)]) [true, false, false, false, true, true, true, true, true] rfl ?_
     exact f_cut ⟨(k + 1, (hd ++ [(⟨(x6.id), p15, x6.comps.length, c16⟩ : KHd)]), rp18, rc19), ⟨⟨rfl, rfl, rfl, rfl, rfl, rfl⟩, rfl, ⟨by omega, by rw [List.length_append]; simp only [List.length_cons, List.length_nil]; omega⟩⟩, (show es.length - (k + 1) < es.length - k from by omega)⟩
   ·
    have hq30 : (optP p15 x6.comps 1).isNone = true := by simpa using hg22
    refine l_skip rfl rfl rfl rfl rfl rfl ?_
    refine l_skip rfl rfl rfl rfl rfl rfl ?_
    refine l_val (v := .bool false) rfl rfl rfl (e_pick_f rfl) ?_
    refine l_val (v := .bool false) rfl rfl rfl (e_move) ?_
    refine l_skip rfl rfl rfl rfl rfl rfl ?_
    refine l_skip rfl rfl rfl rfl rfl rfl ?_
    refine l_skip rfl rfl rfl rfl rfl rfl ?_
    refine l_val (v := .bool false) rfl rfl rfl (e_pick_f rfl) ?_
    refine l_nil ?_
    refine f_then ?_
    refine c_no rfl ?_
    refine c_skip ?_
    refine f_then ?_
    refine c_exit ?_
    refine f_then_exit ?_
    refine f_exit ?_
    refine f_then ?_
    refine c_region ?_
    refine l_val (v := Nx (k + 1)) rfl rfl rfl (e_add (a := ((k : Nat) : Int)) (b := (1 : Int)) rfl rfl (i64n (by omega) (by omega))) ?_
    refine l_val (v := Nx (k + 1)) rfl rfl rfl (e_move) ?_
    refine l_nil ?_
    have hY : x6.comps = backC B x6.id x6.comps := (back_no h0 (.inl (optP_none hq30).1))
    refine f_perm (L' := [rowF CompF 120 p15 c16 x6.comps, goodO 120 hd ((es.take k).map (backE B)), pt b20 (.cells (bC (bodyD (x6.id) x6.comps)) 52), pt b17 (.cells #[Ix (x6.id), .slice p15 (x6.comps.length) c16] 59), pt b14 (.cells #[Ix (x6.id), .slice p15 (x6.comps.length) c16] 59), rowF HdF 59 rp18 rc19 (hd ++ [(⟨(x6.id), p15, x6.comps.length, c16⟩ : KHd)]), pt b4 (.cells #[Ix (tick), .slice rp18 ((hd ++ [(⟨(x6.id), p15, x6.comps.length, c16⟩ : KHd)]).length) rc19] 24), pt b3 (.cells #[.int .i64 (0), .slice none 0 0] 24), pt b2 (.cells #[.slice bva (B.length) (bvc), rv, Ix (gx), Ix (gy)] 30), pt b1 (.cells #[Ix (tick), .slice va (es.length) (vc)] 24)]) (by exact (perm_ix [2, 4, 0, 1, 3, 5, 6, 7, 8, 9] 10 rfl (by kernel_rfl) (by kernel_rfl))) ?_
    refine f_merge (L := [rowF CompF 120 p15 c16 x6.comps, goodO 120 hd ((es.take k).map (backE B))]) (M := [pt b20 (.cells (bC (bodyD (x6.id) x6.comps)) 52), pt b17 (.cells #[Ix (x6.id), .slice p15 (x6.comps.length) c16] 59), pt b14 (.cells #[Ix (x6.id), .slice p15 (x6.comps.length) c16] 59), rowF HdF 59 rp18 rc19 (hd ++ [(⟨(x6.id), p15, x6.comps.length, c16⟩ : KHd)]), pt b4 (.cells #[Ix (tick), .slice rp18 ((hd ++ [(⟨(x6.id), p15, x6.comps.length, c16⟩ : KHd)]).length) rc19] 24), pt b3 (.cells #[.int .i64 (0), .slice none 0 0] 24), pt b2 (.cells #[.slice bva (B.length) (bvc), rv, Ix (gx), Ix (gy)] 30), pt b1 (.cells #[Ix (tick), .slice va (es.length) (vc)] 24)]) (r := goodO 120 (hd ++ [(⟨(x6.id), p15, x6.comps.length, c16⟩ : KHd)]) ((es.take (k + 1)).map (backE B))) (by rw [← back_next hx7 hY]; exact goodO_merge (cs := x6.comps) (m := x6.comps.length) (by rw [hY, back_len])) ?_
    refine f_mask (L' := [goodO 120 (hd ++ [(⟨(x6.id), p15, x6.comps.length, c16⟩ : KHd)]) ((es.take (k + 1)).map (backE B)), rowF HdF 59 rp18 rc19 (hd ++ [(⟨(x6.id), p15, x6.comps.length, c16⟩ : KHd)]), pt b4 (.cells #[Ix (tick), .slice rp18 ((hd ++ [(⟨(x6.id), p15, x6.comps.length, c16⟩ : KHd)]).length) rc19] 24), pt b3 (.cells #[.int .i64 (0), .slice none 0 0] 24), pt b2 (.cells #[.slice bva (B.length) (bvc), rv, Ix (gx), Ix (gy)] 30), pt b1 (.cells #[Ix (tick), .slice va (es.length) (vc)] 24)]) [true, false, false, false, true, true, true, true, true] rfl ?_
    exact f_cut ⟨(k + 1, (hd ++ [(⟨(x6.id), p15, x6.comps.length, c16⟩ : KHd)]), rp18, rc19), ⟨⟨rfl, rfl, rfl, rfl, rfl, rfl⟩, rfl, ⟨by omega, by rw [List.length_append]; simp only [List.length_cons, List.length_nil]; omega⟩⟩, (show es.length - (k + 1) < es.length - k from by omega)⟩
  ·
   have h0 : (bodyOf x6.id x6.comps).isSome = true := by simpa using hc21
   have hN1 := body_has1 (a := p15) h0
   obtain ⟨i1, c1, hi1, hk1, hx1, hp1, hf1⟩ := optP_some hN1
   have hl1 := (List.getElem?_eq_some_iff.1 hi1).1
   rw [hp1]
   refine c_skip ?_
   refine f_then ?_
   refine c_seq ?_
   refine c_region ?_
   refine l_val (v := .pointer (some ⟨b2, 0, none⟩)) rfl rfl rfl (e_fieldPt (b := b2) (o := 0) rfl tw31) ?_
   refine l_val (v := .slice bva (B.length) (bvc)) rfl rfl rfl (e_load1 tw32 (v := .slice bva (B.length) (bvc)) rfl (k_pt 8 (cs := #[.slice bva (B.length) (bvc), rv, Ix (gx), Ix (gy)]) (vs := [.slice bva (B.length) (bvc)]) rfl rfl)) ?_
   refine l_val (v := .func (.func 68) #[] #[.pointer (some ⟨b14, 0, none⟩)]) rfl rfl rfl (e_func (u := []) (v := [.pointer (some ⟨b14, 0, none⟩)]) rfl rfl) ?_
   refine l_call rfl rfl rfl (cl_value (fst := []) (cap := []) (vs := [.slice bva (B.length) (bvc), .func (.func 68) #[] #[.pointer (some ⟨b14, 0, none⟩)]]) (all := [.slice bva (B.length) (bvc), .func (.func 68) #[] #[.pointer (some ⟨b14, 0, none⟩)]]) tw65 rfl rfl rfl) ?_
   intro w hw
   obtain ⟨β1, sb, kn, hw1, back⟩ := St.frame_all hw
   refine (indexB_ok β1 w hw1 _ _ B (Sl.mono _ _ _ _ _ sb hb) (fun b => decide (b.id = (x6.id))) (fnv_all (back1_fn β1 b14 (x6.id) _ (kn _ (k_pt 3 (o := 0) (cs := #[Ix (x6.id), .slice p15 (x6.comps.length) c16]) (vs := [Ix (x6.id), .slice p15 (x6.comps.length) c16]) rfl rfl))))).mono ?_
   rintro e w' ⟨rfl, hw'⟩
   refine ⟨_, rfl, _, back _ _ hw', ?_⟩
   clear hw hw1 hw' back kn sb
   refine l_val (v := Ix (idxI (fun b : KB => decide (b.id = (x6.id))) B)) rfl rfl rfl (e_assign) ?_
   refine l_nil ?_
   refine f_then ?_
   refine c_seq ?_
   refine c_seq ?_
   rcases idxB_cases B x6.id with ⟨hn, hfn⟩ | ⟨ib, hib, hlb, hfo⟩
   ·
    refine c_region ?_
    refine l_val (v := Ix (idxI (fun b : KB => decide (b.id = (x6.id))) B)) rfl rfl rfl (e_move) ?_
    refine l_val (v := .bool (decide ((idxI (fun b : KB => decide (b.id = (x6.id))) B) < (0 : Int)))) rfl rfl rfl (e_lss (a := (idxI (fun b : KB => decide (b.id = (x6.id))) B)) (b := (0 : Int)) rfl rfl) ?_
    refine l_nil ?_
    refine f_then ?_
    refine c_if ((idxI (fun b : KB => decide (b.id = (x6.id))) B) < (0 : Int)) rfl (fun hc31 => ?_) (fun hc31 => ?_)
    ·
     refine c_exit ?_
     refine f_then_exit ?_
     refine f_exit ?_
     refine f_then ?_
     refine c_region ?_
     refine l_val (v := Nx (k + 1)) rfl rfl rfl (e_add (a := ((k : Nat) : Int)) (b := (1 : Int)) rfl rfl (i64n (by omega) (by omega))) ?_
     refine l_val (v := Nx (k + 1)) rfl rfl rfl (e_move) ?_
     refine l_nil ?_
     have hY : x6.comps = backC B x6.id x6.comps := (back_lost h0 hfn)
     refine f_perm (L' := [rowF CompF 120 p15 c16 x6.comps, goodO 120 hd ((es.take k).map (backE B)), pt b20 (.cells (bC (bodyD (x6.id) x6.comps)) 52), pt b17 (.cells #[Ix (x6.id), .slice p15 (x6.comps.length) c16] 59), pt b14 (.cells #[Ix (x6.id), .slice p15 (x6.comps.length) c16] 59), rowF HdF 59 rp18 rc19 (hd ++ [(⟨(x6.id), p15, x6.comps.length, c16⟩ : KHd)]), pt b4 (.cells #[Ix (tick), .slice rp18 ((hd ++ [(⟨(x6.id), p15, x6.comps.length, c16⟩ : KHd)]).length) rc19] 24), pt b3 (.cells #[.int .i64 (0), .slice none 0 0] 24), pt b2 (.cells #[.slice bva (B.length) (bvc), rv, Ix (gx), Ix (gy)] 30), pt b1 (.cells #[Ix (tick), .slice va (es.length) (vc)] 24)]) (by exact (perm_ix [2, 4, 0, 1, 3, 5, 6, 7, 8, 9] 10 rfl (by kernel_rfl) (by kernel_rfl))) ?_
     refine f_merge (L := [rowF CompF 120 p15 c16 x6.comps, goodO 120 hd ((es.take k).map (backE B))]) (M := [pt b20 (.cells (bC (bodyD (x6.id) x6.comps)) 52), pt b17 (.cells #[Ix (x6.id), .slice p15 (x6.comps.length) c16] 59), pt b14 (.cells #[Ix (x6.id), .slice p15 (x6.comps.length) c16] 59), rowF HdF 59 rp18 rc19 (hd ++ [(⟨(x6.id), p15, x6.comps.length, c16⟩ : KHd)]), pt b4 (.cells #[Ix (tick), .slice rp18 ((hd ++ [(⟨(x6.id), p15, x6.comps.length, c16⟩ : KHd)]).length) rc19] 24), pt b3 (.cells #[.int .i64 (0), .slice none 0 0] 24), pt b2 (.cells #[.slice bva (B.length) (bvc), rv, Ix (gx), Ix (gy)] 30), pt b1 (.cells #[Ix (tick), .slice va (es.length) (vc)] 24)]) (r := goodO 120 (hd ++ [(⟨(x6.id), p15, x6.comps.length, c16⟩ : KHd)]) ((es.take (k + 1)).map (backE B))) (by rw [← back_next hx7 hY]; exact goodO_merge (cs := x6.comps) (m := x6.comps.length) (by rw [hY, back_len])) ?_
     refine f_mask (L' := [goodO 120 (hd ++ [(⟨(x6.id), p15, x6.comps.length, c16⟩ : KHd)]) ((es.take (k + 1)).map (backE B)), rowF HdF 59 rp18 rc19 (hd ++ [(⟨(x6.id), p15, x6.comps.length, c16⟩ : KHd)]), pt b4 (.cells #[Ix (tick), .slice rp18 ((hd ++ [(⟨(x6.id), p15, x6.comps.length, c16⟩ : KHd)]).length) rc19] 24), pt b3 (.cells #[.int .i64 (0), .slice none 0 0] 24), pt b2 (.cells #[.slice bva (B.length) (bvc), rv, Ix (gx), Ix (gy)] 30), pt b1 (.cells #[Ix (tick), .slice va (es.length) (vc)] 24)]) [true, false, false, false, true, true, true, true, true] rfl ?_
     exact f_cut ⟨(k + 1, (hd ++ [(⟨(x6.id), p15, x6.comps.length, c16⟩ : KHd)]), rp18, rc19), ⟨⟨rfl, rfl, rfl, rfl, rfl, rfl⟩, rfl, ⟨by omega, by rw [List.length_append]; simp only [List.length_cons, List.length_nil]; omega⟩⟩, (show es.length - (k + 1) < es.length - k from by omega)⟩
    ·
     exact absurd hn hc31
   ·
    rw [hib]
    refine c_region ?_
    refine l_val (v := Nx (ib)) rfl rfl rfl (e_move) ?_
    refine l_val (v := .bool (decide (((ib : Nat) : Int) < (0 : Int)))) rfl rfl rfl (e_lss (a := ((ib : Nat) : Int)) (b := (0 : Int)) rfl rfl) ?_
    refine l_nil ?_
    refine f_then ?_
    refine c_if (((ib : Nat) : Int) < (0 : Int)) rfl (fun hc32 => ?_) (fun hc32 => ?_)
    ·
     exact absurd hc32 (by omega)
    ·
     refine c_skip ?_
     refine f_then ?_
     refine c_seq ?_
     obtain ⟨ob, hob⟩ : ∃ x_, B[ib]? = some x_ := ⟨_, List.getElem?_eq_getElem (by omega)⟩
     obtain ⟨hao, co, hco, rfl⟩ := bve _ _ hob
     refine c_any [⟨[], [], [0], [64], fun f => f 64 = .pointer (some ((ba p15).add (i1 * 5)))⟩, ⟨[], [], [0], [65], fun f => f 65 = .pointer (some ((ba p15).add (i1 * 5)))⟩, ⟨[], [], [1], [66], fun f => f 66 = .pointer (some ⟨b2, 0, none⟩)⟩, ⟨[2], [2], [], [67], fun f => f 67 = .slice bva (B.length) (bvc)⟩, ⟨[], [], [2], [68], fun f => f 68 = Nx (ib)⟩, ⟨[2, 3, 4], [3, 4], [], [69], fun f => f 69 = .pointer (some ((ba bva).add (ib * 9)))⟩, ⟨[2, 3, 4, 5], [5], [], [70], fun f => f 70 = .pointer (some (((ba bva).add (ib * 9) : Addr).add 1))⟩, ⟨[2, 3, 4, 5, 6], [6], [], [71], fun f => f 71 = .pointer (some ((((ba bva).add (ib * 9) : Addr).add 1 : Addr).add 0))⟩, ⟨[2, 3, 4, 5, 6, 7], [7], [], [72], fun f => f 72 = Ix (ob.x)⟩, ⟨[], [], [1], [73], fun f => f 73 = .pointer (some ⟨b2, 0, none⟩)⟩, ⟨[9], [9], [], [74], fun f => f 74 = .slice bva (B.length) (bvc)⟩, ⟨[], [], [2], [75], fun f => f 75 = Nx (ib)⟩, ⟨[9, 10, 11], [10, 11], [], [76], fun f => f 76 = .pointer (some ((ba bva).add (ib * 9)))⟩, ⟨[9, 10, 11, 12], [12], [], [77], fun f => f 77 = .pointer (some (((ba bva).add (ib * 9) : Addr).add 1))⟩, ⟨[9, 10, 11, 12, 13], [13], [], [78], fun f => f 78 = .pointer (some ((((ba bva).add (ib * 9) : Addr).add 1 : Addr).add 1))⟩, ⟨[9, 10, 11, 12, 13, 14], [14], [], [79], fun f => f 79 = Ix (ob.y)⟩, ⟨[0], [0], [], [80], fun f => f 80 = .pointer (some ((ba p15).add (i1 * 5)))⟩, ⟨[0, 16], [16], [], [81], fun f => f 81 = .pointer (some ((ba p15).add (i1 * 5 + 1)))⟩, ⟨[0, 2, 3, 4, 5, 6, 7, 8, 9, 10, 11, 12, 13, 14, 15, 16, 17], [17], [], [82], fun f => f 82 = .pointer (some ((ba p15).add (i1 * 5 + 1)))⟩, ⟨[0, 2, 3, 4, 5, 6, 7, 8, 9, 10, 11, 12, 13, 14, 15, 16, 17, 18], [18, 8], [], [], fun _ => True⟩, ⟨[1], [1], [], [83], fun f => f 83 = .pointer (some ((ba p15).add (i1 * 5)))⟩, ⟨[1, 20], [20], [], [84], fun f => f 84 = .pointer (some ((ba p15).add (i1 * 5 + 1)))⟩, ⟨[0, 1, 2, 3, 4, 5, 6, 7, 8, 9, 10, 11, 12, 13, 14, 15, 16, 17, 18, 19, 20, 21], [21], [], [85], fun f => f 85 = .pointer (some ((ba p15).add (i1 * 5 + 2)))⟩, ⟨[0, 1, 2, 3, 4, 5, 6, 7, 8, 9, 10, 11, 12, 13, 14, 15, 16, 17, 18, 19, 20, 21, 22], [22, 15], [], [], fun _ => True⟩] [⟨none, none, [], [], fun _ => pt b20 (.cells (bC (bodyD (x6.id) x6.comps)) 52)⟩, ⟨none, none, [], [], fun _ => pt b17 (.cells #[Ix (x6.id), .slice p15 (x6.comps.length) c16] 59)⟩, ⟨none, (some 19), [19], [], fun _ => rowF CompF 120 p15 c16 x6.comps⟩, ⟨none, none, [], [], fun _ => pt b14 (.cells #[Ix (x6.id), .slice p15 (x6.comps.length) c16] 59)⟩, ⟨none, none, [], [], fun _ => goodO 120 hd ((es.take k).map (backE B))⟩, ⟨none, none, [], [], fun _ => rowF HdF 59 rp18 rc19 (hd ++ [(⟨(x6.id), p15, x6.comps.length, c16⟩ : KHd)])⟩, ⟨none, none, [], [], fun _ => pt b4 (.cells #[Ix (tick), .slice rp18 ((hd ++ [(⟨(x6.id), p15, x6.comps.length, c16⟩ : KHd)]).length) rc19] 24)⟩, ⟨none, none, [], [], fun _ => pt b3 (.cells #[.int .i64 (0), .slice none 0 0] 24)⟩, ⟨none, none, [3, 10], [], fun _ => pt b2 (.cells #[.slice bva (B.length) (bvc), rv, Ix (gx), Ix (gy)] 30)⟩, ⟨none, none, [], [], fun _ => pt b1 (.cells #[Ix (tick), .slice va (es.length) (vc)] 24)⟩, ⟨(some 19), (some 23), [23], [], fun _ => rowF CompF 120 p15 c16 (x6.comps.set i1 (setV0 c1 ob.x))⟩, ⟨(some 23), none, [], [], fun _ => rowF CompF 120 p15 c16 ((x6.comps.set i1 (setV0 c1 ob.x)).set i1 (setV1 (setV0 c1 ob.x) ob.y))⟩] [(8, .pointer (some ((ba p15).add (i1 * 5)))), (3, .pointer (some ⟨b2, 0, none⟩)), (12, Nx (ib)), (4, .pointer (some ⟨b3, 0, none⟩)), (5, .pointer (some ⟨b4, 0, none⟩)), (9, .pointer (optP p15 x6.comps 2)), (10, .pointer (some ⟨b20, 0, none⟩)), (17, .slice va (es.length) (vc)), (18, Nx (es.length)), (19, Nx (k))] [1, 3, 4, 5, 6, 2, 7, 8, 9] [] (by kernel_rfl) (by kernel_rfl) (by kernel_rfl) (by kernel_rfl) rfl ⟨rfl, rfl, rfl, rfl, rfl, rfl, rfl, rfl, rfl, rfl, trivial⟩ ⟨?_, ?_, ?_, ?_, ?_, ?_, ?_, ?_, ?_, ?_, ?_, ?_, ?_, ?_, ?_, ?_, ?_, ?_, ?_, ?_, ?_, ?_, ?_, ?_, trivial⟩ ?_
     ·rintro f M - ⟨i0, -⟩
      have hs8 : f 8 = .pointer (some ((ba p15).add (i1 * 5))) := i0
      refine ob_start (L' := M) (by rfl) (up_cons rfl hs8) ?_
      refine l_val (v := .pointer (some ((ba p15).add (i1 * 5)))) rfl rfl rfl (e_move) ?_
      refine l_nil ?_
      exact f_owes_d (up_cons rfl hs8) rfl (List.Perm.refl _)
     ·rintro f M - ⟨i0, -⟩
      have hs8 : f 8 = .pointer (some ((ba p15).add (i1 * 5))) := i0
      refine ob_start (L' := M) (by rfl) (up_cons rfl hs8) ?_
      refine l_val (v := .pointer (some ((ba p15).add (i1 * 5)))) rfl rfl rfl (e_move) ?_
      refine l_nil ?_
      exact f_owes_d (up_cons rfl hs8) rfl (List.Perm.refl _)
     ·rintro f M - ⟨i0, -⟩
      have hs3 : f 3 = .pointer (some ⟨b2, 0, none⟩) := i0
      refine ob_start (L' := M) (by rfl) (up_cons rfl hs3) ?_
      refine l_val (v := .pointer (some ⟨b2, 0, none⟩)) rfl rfl rfl (e_fieldPt (b := b2) (o := 0) rfl tw31) ?_
      refine l_nil ?_
      exact f_owes_d (up_cons rfl hs3) rfl (List.Perm.refl _)
     ·rintro f M ⟨k0, -⟩ -
      have hs66 : f 66 = .pointer (some ⟨b2, 0, none⟩) := k0
      refine ob_start (L' := pt b2 (.cells #[.slice bva (B.length) (bvc), rv, Ix (gx), Ix (gy)] 30) :: M) (by rfl) (up_cons rfl hs66) ?_
      refine l_val (v := .slice bva (B.length) (bvc)) rfl rfl rfl (e_load1 tw32 (v := .slice bva (B.length) (bvc)) rfl (k_pt 0 (cs := #[.slice bva (B.length) (bvc), rv, Ix (gx), Ix (gy)]) (vs := [.slice bva (B.length) (bvc)]) rfl rfl)) ?_
      refine l_nil ?_
      exact f_owes_d (up_cons rfl hs66) rfl (perm_front 0 rfl)
     ·rintro f M - ⟨i0, -⟩
      have hs12 : f 12 = Nx (ib) := i0
      refine ob_start (L' := M) (by rfl) (up_cons rfl hs12) ?_
      refine l_val (v := Nx (ib)) rfl rfl rfl (e_move) ?_
      refine l_nil ?_
      exact f_owes_d (up_cons rfl hs12) rfl (List.Perm.refl _)
     ·rintro f M ⟨k0, k1, -⟩ -
      have hs67 : f 67 = .slice bva (B.length) (bvc) := k0
      have hs68 : f 68 = Nx (ib) := k1
      refine ob_start (L' := M) (by rfl) (up_cons (up_cons rfl hs67) hs68) ?_
      refine l_val (v := .pointer (some ((ba bva).add (ib * 9)))) rfl rfl rfl (e_indexAddr (k := ib) (len := B.length) (cap := bvc) (a := bva) rfl rfl tw33 (by omega) hao) ?_
      refine l_nil ?_
      exact f_owes_d (up_cons (up_cons rfl hs67) hs68) rfl (List.Perm.refl _)
     ·rintro f M ⟨k0, -⟩ -
      have hs69 : f 69 = .pointer (some ((ba bva).add (ib * 9))) := k0
      refine ob_start (L' := M) (by rfl) (up_cons rfl hs69) ?_
      refine l_val (v := .pointer (some (((ba bva).add (ib * 9) : Addr).add 1))) rfl rfl rfl (e_fieldAddr (a := (ba bva).add (ib * 9)) rfl tw54) ?_
      refine l_nil ?_
      exact f_owes_d (up_cons rfl hs69) rfl (List.Perm.refl _)
     ·rintro f M ⟨k0, -⟩ -
      have hs70 : f 70 = .pointer (some (((ba bva).add (ib * 9) : Addr).add 1)) := k0
      refine ob_start (L' := M) (by rfl) (up_cons rfl hs70) ?_
      refine l_val (v := .pointer (some ((((ba bva).add (ib * 9) : Addr).add 1 : Addr).add 0))) rfl rfl rfl (e_fieldAddr (a := ((ba bva).add (ib * 9) : Addr).add 1) rfl tw55) ?_
      refine l_nil ?_
      exact f_owes_d (up_cons rfl hs70) rfl (List.Perm.refl _)
     ·rintro f M ⟨k0, -⟩ -
      have hs71 : f 71 = .pointer (some ((((ba bva).add (ib * 9) : Addr).add 1 : Addr).add 0)) := k0
      refine ob_start (L' := M) (by rfl) (up_cons rfl hs71) ?_
      refine l_val (v := Ix (ob.x)) rfl rfl rfl (e_load1 tw15 (v := Ix (ob.x)) rfl (Knows.imp (Knows.imp (Knows.of_base (Cs.mono _ _) hco) (fun _ h => Cs.sub (vs := [Ix (ob.x), Ix (ob.y)]) 1 h rfl)) (fun _ h => Cs.sub (vs := [Ix (ob.x)]) 0 h rfl))) ?_
      refine l_nil ?_
      exact f_owes_d (up_cons rfl hs71) rfl (List.Perm.refl _)
     ·rintro f M - ⟨i0, -⟩
      have hs3 : f 3 = .pointer (some ⟨b2, 0, none⟩) := i0
      refine ob_start (L' := M) (by rfl) (up_cons rfl hs3) ?_
      refine l_val (v := .pointer (some ⟨b2, 0, none⟩)) rfl rfl rfl (e_fieldPt (b := b2) (o := 0) rfl tw31) ?_
      refine l_nil ?_
      exact f_owes_d (up_cons rfl hs3) rfl (List.Perm.refl _)
     ·rintro f M ⟨k0, -⟩ -
      have hs73 : f 73 = .pointer (some ⟨b2, 0, none⟩) := k0
      refine ob_start (L' := pt b2 (.cells #[.slice bva (B.length) (bvc), rv, Ix (gx), Ix (gy)] 30) :: M) (by rfl) (up_cons rfl hs73) ?_
      refine l_val (v := .slice bva (B.length) (bvc)) rfl rfl rfl (e_load1 tw32 (v := .slice bva (B.length) (bvc)) rfl (k_pt 0 (cs := #[.slice bva (B.length) (bvc), rv, Ix (gx), Ix (gy)]) (vs := [.slice bva (B.length) (bvc)]) rfl rfl)) ?_
      refine l_nil ?_
      exact f_owes_d (up_cons rfl hs73) rfl (perm_front 0 rfl)
     ·rintro f M - ⟨i0, -⟩
      have hs12 : f 12 = Nx (ib) := i0
      refine ob_start (L' := M) (by rfl) (up_cons rfl hs12) ?_
      refine l_val (v := Nx (ib)) rfl rfl rfl (e_move) ?_
      refine l_nil ?_
      exact f_owes_d (up_cons rfl hs12) rfl (List.Perm.refl _)
     ·rintro f M ⟨k0, k1, -⟩ -
      have hs74 : f 74 = .slice bva (B.length) (bvc) := k0
      have hs75 : f 75 = Nx (ib) := k1
      refine ob_start (L' := M) (by rfl) (up_cons (up_cons rfl hs74) hs75) ?_
      refine l_val (v := .pointer (some ((ba bva).add (ib * 9)))) rfl rfl rfl (e_indexAddr (k := ib) (len := B.length) (cap := bvc) (a := bva) rfl rfl tw33 (by omega) hao) ?_
      refine l_nil ?_
      exact f_owes_d (up_cons (up_cons rfl hs74) hs75) rfl (List.Perm.refl _)
     ·rintro f M ⟨k0, -⟩ -
      have hs76 : f 76 = .pointer (some ((ba bva).add (ib * 9))) := k0
      refine ob_start (L' := M) (by rfl) (up_cons rfl hs76) ?_
      refine l_val (v := .pointer (some (((ba bva).add (ib * 9) : Addr).add 1))) rfl rfl rfl (e_fieldAddr (a := (ba bva).add (ib * 9)) rfl tw54) ?_
      refine l_nil ?_
      exact f_owes_d (up_cons rfl hs76) rfl (List.Perm.refl _)
     ·rintro f M ⟨k0, -⟩ -
      have hs77 : f 77 = .pointer (some (((ba bva).add (ib * 9) : Addr).add 1)) := k0
      refine ob_start (L' := M) (by rfl) (up_cons rfl hs77) ?_
      refine l_val (v := .pointer (some ((((ba bva).add (ib * 9) : Addr).add 1 : Addr).add 1))) rfl rfl rfl (e_fieldAddr (a := ((ba bva).add (ib * 9) : Addr).add 1) rfl tw56) ?_
      refine l_nil ?_
      exact f_owes_d (up_cons rfl hs77) rfl (List.Perm.refl _)
     ·rintro f M ⟨k0, -⟩ -
      have hs78 : f 78 = .pointer (some ((((ba bva).add (ib * 9) : Addr).add 1 : Addr).add 1)) := k0
      refine ob_start (L' := M) (by rfl) (up_cons rfl hs78) ?_
      refine l_val (v := Ix (ob.y)) rfl rfl rfl (e_load1 tw15 (v := Ix (ob.y)) rfl (Knows.imp (Knows.imp (Knows.of_base (Cs.mono _ _) hco) (fun _ h => Cs.sub (vs := [Ix (ob.x), Ix (ob.y)]) 1 h rfl)) (fun _ h => Cs.sub (vs := [Ix (ob.y)]) 1 h rfl))) ?_
      refine l_nil ?_
      exact f_owes_d (up_cons rfl hs78) rfl (List.Perm.refl _)
     ·rintro f M ⟨k0, -⟩ -
      have hs64 : f 64 = .pointer (some ((ba p15).add (i1 * 5))) := k0
      refine ob_start (L' := M) (by rfl) (up_cons rfl hs64) ?_
      refine l_val (v := .pointer (some ((ba p15).add (i1 * 5)))) rfl rfl rfl (e_nil (a := (ba p15).add (i1 * 5)) rfl) ?_
      refine l_nil ?_
      exact f_owes_d (up_cons rfl hs64) rfl (List.Perm.refl _)
     ·rintro f M ⟨k0, -⟩ -
      have hs80 : f 80 = .pointer (some ((ba p15).add (i1 * 5))) := k0
      refine ob_start (L' := M) (by rfl) (up_cons rfl hs80) ?_
      refine l_val (v := .pointer (some ((ba p15).add (i1 * 5 + 1)))) rfl rfl rfl (ev_eq (congrArg (fun z => Value.pointer (some z)) (show ((ba p15).add (i1 * 5) : Addr).add 1 = (ba p15).add (i1 * 5 + 1) by rw [Addr.add_add'])) (e_fieldAddr (a := (ba p15).add (i1 * 5)) rfl tw11)) ?_
      refine l_nil ?_
      exact f_owes_d (up_cons rfl hs80) rfl (List.Perm.refl _)
     ·rintro f M ⟨k0, -⟩ -
      have hs81 : f 81 = .pointer (some ((ba p15).add (i1 * 5 + 1))) := k0
      refine ob_start (L' := M) (by rfl) (up_cons rfl hs81) ?_
      refine l_val (v := .pointer (some ((ba p15).add (i1 * 5 + 1)))) rfl rfl rfl (ev_eq (congrArg (fun z => Value.pointer (some z)) (show ((ba p15).add (i1 * 5 + 1) : Addr).add (0 * 1) = (ba p15).add (i1 * 5 + 1) by rw [Addr.add_add'] <;> rfl)) (e_indexArr (a := (ba p15).add (i1 * 5 + 1)) (k := 0) rfl rfl tw16 (by decide))) ?_
      refine l_nil ?_
      exact f_owes_d (up_cons rfl hs81) rfl (List.Perm.refl _)
     ·rintro f M ⟨k0, k1, -⟩ -
      have hs82 : f 82 = .pointer (some ((ba p15).add (i1 * 5 + 1))) := k0
      have hs72 : f 72 = Ix (ob.x) := k1
      refine ob_start (L' := rowF CompF 120 p15 c16 x6.comps :: M) (by rfl) (up_cons (up_cons rfl hs82) hs72) ?_
      refine l_mu rfl rfl (m_storeFlPart 0 (F := CompF) (p := p15) (k := i1) (o := 1) (xs := x6.comps) (z0 := c1) (z := (setV0 c1 ob.x)) tw15 rfl rfl rfl rfl rfl hi1 (by decide) rfl) ?_
      refine l_nil ?_
      exact f_owes_n (up_cons (up_cons rfl hs82) hs72) trivial (perm_front 0 rfl)
     ·rintro f M ⟨k0, -⟩ -
      have hs65 : f 65 = .pointer (some ((ba p15).add (i1 * 5))) := k0
      refine ob_start (L' := M) (by rfl) (up_cons rfl hs65) ?_
      refine l_val (v := .pointer (some ((ba p15).add (i1 * 5)))) rfl rfl rfl (e_nil (a := (ba p15).add (i1 * 5)) rfl) ?_
      refine l_nil ?_
      exact f_owes_d (up_cons rfl hs65) rfl (List.Perm.refl _)
     ·rintro f M ⟨k0, -⟩ -
      have hs83 : f 83 = .pointer (some ((ba p15).add (i1 * 5))) := k0
      refine ob_start (L' := M) (by rfl) (up_cons rfl hs83) ?_
      refine l_val (v := .pointer (some ((ba p15).add (i1 * 5 + 1)))) rfl rfl rfl (ev_eq (congrArg (fun z => Value.pointer (some z)) (show ((ba p15).add (i1 * 5) : Addr).add 1 = (ba p15).add (i1 * 5 + 1) by rw [Addr.add_add'])) (e_fieldAddr (a := (ba p15).add (i1 * 5)) rfl tw11)) ?_
      refine l_nil ?_
      exact f_owes_d (up_cons rfl hs83) rfl (List.Perm.refl _)
     ·rintro f M ⟨k0, -⟩ -
      have hs84 : f 84 = .pointer (some ((ba p15).add (i1 * 5 + 1))) := k0
      refine ob_start (L' := M) (by rfl) (up_cons rfl hs84) ?_
      refine l_val (v := .pointer (some ((ba p15).add (i1 * 5 + 2)))) rfl rfl rfl (ev_eq (congrArg (fun z => Value.pointer (some z)) (show ((ba p15).add (i1 * 5 + 1) : Addr).add (1 * 1) = (ba p15).add (i1 * 5 + 2) by rw [Addr.add_add'] <;> rfl)) (e_indexArr (a := (ba p15).add (i1 * 5 + 1)) (k := 1) rfl rfl tw16 (by decide))) ?_
      refine l_nil ?_
      exact f_owes_d (up_cons rfl hs84) rfl (List.Perm.refl _)
     ·rintro f M ⟨k0, k1, -⟩ -
      have hs85 : f 85 = .pointer (some ((ba p15).add (i1 * 5 + 2))) := k0
      have hs79 : f 79 = Ix (ob.y) := k1
      refine ob_start (L' := rowF CompF 120 p15 c16 (x6.comps.set i1 (setV0 c1 ob.x)) :: M) (by rfl) (up_cons (up_cons rfl hs85) hs79) ?_
      refine l_mu rfl rfl (m_storeFlPart 0 (F := CompF) (p := p15) (k := i1) (o := 2) (xs := (x6.comps.set i1 (setV0 c1 ob.x))) (z0 := (setV0 c1 ob.x)) (z := (setV1 (setV0 c1 ob.x) ob.y)) tw15 rfl rfl rfl rfl rfl (get_set (setV0 c1 ob.x) (by first | omega | (simp only [List.length_set]; omega))) (by decide) rfl) ?_
      refine l_nil ?_
      exact f_owes_n (up_cons (up_cons rfl hs85) hs79) trivial (perm_front 0 rfl)
     rintro fa33 ⟨-, -, -, -, -, -, -, -, -, -, -, -, -, -, -, -, -, -, -, -, -, -, -, -, -⟩ ⟨j0, j1, j2, j3, j4, j5, j6, j7, j8, -⟩
     refine f_re (L' := [pt b20 (.cells (bC (bodyD (x6.id) x6.comps)) 52), pt b17 (.cells #[Ix (x6.id), .slice p15 (x6.comps.length) c16] 59), pt b14 (.cells #[Ix (x6.id), .slice p15 (x6.comps.length) c16] 59), goodO 120 hd ((es.take k).map (backE B)), rowF HdF 59 rp18 rc19 (hd ++ [(⟨(x6.id), p15, x6.comps.length, c16⟩ : KHd)]), pt b4 (.cells #[Ix (tick), .slice rp18 ((hd ++ [(⟨(x6.id), p15, x6.comps.length, c16⟩ : KHd)]).length) rc19] 24), pt b3 (.cells #[.int .i64 (0), .slice none 0 0] 24), pt b2 (.cells #[.slice bva (B.length) (bvc), rv, Ix (gx), Ix (gy)] 30), pt b1 (.cells #[Ix (tick), .slice va (es.length) (vc)] 24), rowF CompF 120 p15 c16 ((x6.comps.set i1 (setV0 c1 ob.x)).set i1 (setV1 (setV0 c1 ob.x) ob.y))]) (by rfl) ?_
     refine f_rebase (d := 3) (v := .pointer (some ⟨b2, 0, none⟩)) j0 ?_
     refine f_rebase (d := 4) (v := .pointer (some ⟨b3, 0, none⟩)) j1 ?_
     refine f_rebase (d := 5) (v := .pointer (some ⟨b4, 0, none⟩)) j2 ?_
     refine f_rebase (d := 9) (v := .pointer (optP p15 x6.comps 2)) j3 ?_
     refine f_rebase (d := 10) (v := .pointer (some ⟨b20, 0, none⟩)) j4 ?_
     refine f_rebase (d := 12) (v := Nx (ib)) j5 ?_
     refine f_rebase (d := 17) (v := .slice va (es.length) (vc)) j6 ?_
     refine f_rebase (d := 18) (v := Nx (es.length)) j7 ?_
     refine f_rebase (d := 19) (v := Nx (k)) j8 ?_
     refine f_then ?_
     refine c_seq ?_
     refine c_region ?_
     refine l_val (v := .pointer (some ⟨b20, 8, none⟩)) rfl rfl rfl (e_fieldPt (b := b20) (o := 0) rfl tw19) ?_
     refine l_val (v := .bool ((bodyD (x6.id) x6.comps).fixed)) rfl rfl rfl (e_load1 tw20 (v := .bool ((bodyD (x6.id) x6.comps).fixed)) rfl (k_pt 0 (cs := (bC (bodyD (x6.id) x6.comps))) (vs := [.bool ((bodyD (x6.id) x6.comps).fixed)]) rfl rfl)) ?_
     refine l_val (v := .bool (!((bodyD (x6.id) x6.comps).fixed))) rfl rfl rfl (e_not rfl) ?_
     refine l_nil ?_
     refine f_then ?_
     refine c_ifb (!((bodyD (x6.id) x6.comps).fixed)) rfl (fun hc34 => ?_) (fun hc34 => ?_)
     ·
      have hfx : (bodyD x6.id x6.comps).fixed = false := by simpa using hc34
      have hN2 := body_has2 (a := p15) h0 hfx
      obtain ⟨i2, c2, hi2, hk2, hx2, hp2, hf2⟩ := optP_some hN2
      have hl2 := (List.getElem?_eq_some_iff.1 hi2).1
      rw [hp2]
      have hij : i1 ≠ i2 := idx_ne hi1 hi2 hk1 hk2
      refine c_any [⟨[], [], [0], [89], fun f => f 89 = .pointer (some ((ba p15).add (i2 * 5)))⟩, ⟨[], [], [0], [90], fun f => f 90 = .pointer (some ((ba p15).add (i2 * 5)))⟩, ⟨[], [], [1], [91], fun f => f 91 = .pointer (some ⟨b2, 0, none⟩)⟩, ⟨[2], [2], [], [92], fun f => f 92 = .slice bva (B.length) (bvc)⟩, ⟨[], [], [2], [93], fun f => f 93 = Nx (ib)⟩, ⟨[2, 3, 4], [3, 4], [], [94], fun f => f 94 = .pointer (some ((ba bva).add (ib * 9)))⟩, ⟨[2, 3, 4, 5], [5], [], [95], fun f => f 95 = .pointer (some (((ba bva).add (ib * 9) : Addr).add 3))⟩, ⟨[2, 3, 4, 5, 6], [6], [], [96], fun f => f 96 = .pointer (some ((((ba bva).add (ib * 9) : Addr).add 3 : Addr).add 0))⟩, ⟨[2, 3, 4, 5, 6, 7], [7], [], [97], fun f => f 97 = Ix (ob.vx)⟩, ⟨[], [], [1], [98], fun f => f 98 = .pointer (some ⟨b2, 0, none⟩)⟩, ⟨[9], [9], [], [99], fun f => f 99 = .slice bva (B.length) (bvc)⟩, ⟨[], [], [2], [100], fun f => f 100 = Nx (ib)⟩, ⟨[9, 10, 11], [10, 11], [], [101], fun f => f 101 = .pointer (some ((ba bva).add (ib * 9)))⟩, ⟨[9, 10, 11, 12], [12], [], [102], fun f => f 102 = .pointer (some (((ba bva).add (ib * 9) : Addr).add 3))⟩, ⟨[9, 10, 11, 12, 13], [13], [], [103], fun f => f 103 = .pointer (some ((((ba bva).add (ib * 9) : Addr).add 3 : Addr).add 1))⟩, ⟨[9, 10, 11, 12, 13, 14], [14], [], [104], fun f => f 104 = Ix (ob.vy)⟩, ⟨[0], [0], [], [105], fun f => f 105 = .pointer (some ((ba p15).add (i2 * 5)))⟩, ⟨[0, 16], [16], [], [106], fun f => f 106 = .pointer (some ((ba p15).add (i2 * 5 + 1)))⟩, ⟨[0, 2, 3, 4, 5, 6, 7, 8, 9, 10, 11, 12, 13, 14, 15, 16, 17], [17], [], [107], fun f => f 107 = .pointer (some ((ba p15).add (i2 * 5 + 1)))⟩, ⟨[0, 2, 3, 4, 5, 6, 7, 8, 9, 10, 11, 12, 13, 14, 15, 16, 17, 18], [18, 8], [], [], fun _ => True⟩, ⟨[1], [1], [], [108], fun f => f 108 = .pointer (some ((ba p15).add (i2 * 5)))⟩, ⟨[1, 20], [20], [], [109], fun f => f 109 = .pointer (some ((ba p15).add (i2 * 5 + 1)))⟩, ⟨[0, 1, 2, 3, 4, 5, 6, 7, 8, 9, 10, 11, 12, 13, 14, 15, 16, 17, 18, 19, 20, 21], [21], [], [110], fun f => f 110 = .pointer (some ((ba p15).add (i2 * 5 + 2)))⟩, ⟨[0, 1, 2, 3, 4, 5, 6, 7, 8, 9, 10, 11, 12, 13, 14, 15, 16, 17, 18, 19, 20, 21, 22], [22, 15], [], [], fun _ => True⟩] [⟨none, none, [], [], fun _ => pt b20 (.cells (bC (bodyD (x6.id) x6.comps)) 52)⟩, ⟨none, none, [], [], fun _ => pt b17 (.cells #[Ix (x6.id), .slice p15 (x6.comps.length) c16] 59)⟩, ⟨none, none, [], [], fun _ => pt b14 (.cells #[Ix (x6.id), .slice p15 (x6.comps.length) c16] 59)⟩, ⟨none, none, [], [], fun _ => goodO 120 hd ((es.take k).map (backE B))⟩, ⟨none, none, [], [], fun _ => rowF HdF 59 rp18 rc19 (hd ++ [(⟨(x6.id), p15, x6.comps.length, c16⟩ : KHd)])⟩, ⟨none, none, [], [], fun _ => pt b4 (.cells #[Ix (tick), .slice rp18 ((hd ++ [(⟨(x6.id), p15, x6.comps.length, c16⟩ : KHd)]).length) rc19] 24)⟩, ⟨none, none, [], [], fun _ => pt b3 (.cells #[.int .i64 (0), .slice none 0 0] 24)⟩, ⟨none, none, [3, 10], [], fun _ => pt b2 (.cells #[.slice bva (B.length) (bvc), rv, Ix (gx), Ix (gy)] 30)⟩, ⟨none, none, [], [], fun _ => pt b1 (.cells #[Ix (tick), .slice va (es.length) (vc)] 24)⟩, ⟨none, (some 19), [19], [], fun _ => rowF CompF 120 p15 c16 ((x6.comps.set i1 (setV0 c1 ob.x)).set i1 (setV1 (setV0 c1 ob.x) ob.y))⟩, ⟨(some 19), (some 23), [23], [], fun _ => rowF CompF 120 p15 c16 (((x6.comps.set i1 (setV0 c1 ob.x)).set i1 (setV1 (setV0 c1 ob.x) ob.y)).set i2 (setV0 c2 ob.vx))⟩, ⟨(some 23), none, [], [], fun _ => rowF CompF 120 p15 c16 ((((x6.comps.set i1 (setV0 c1 ob.x)).set i1 (setV1 (setV0 c1 ob.x) ob.y)).set i2 (setV0 c2 ob.vx)).set i2 (setV1 (setV0 c2 ob.vx) ob.vy))⟩] [(9, .pointer (some ((ba p15).add (i2 * 5)))), (3, .pointer (some ⟨b2, 0, none⟩)), (12, Nx (ib)), (4, .pointer (some ⟨b3, 0, none⟩)), (5, .pointer (some ⟨b4, 0, none⟩)), (17, .slice va (es.length) (vc)), (18, Nx (es.length)), (19, Nx (k))] [1, 3, 4, 5, 6, 7] [] (by kernel_rfl) (by kernel_rfl) (by kernel_rfl) (by kernel_rfl) rfl ⟨rfl, rfl, rfl, rfl, rfl, rfl, rfl, rfl, trivial⟩ ⟨?_, ?_, ?_, ?_, ?_, ?_, ?_, ?_, ?_, ?_, ?_, ?_, ?_, ?_, ?_, ?_, ?_, ?_, ?_, ?_, ?_, ?_, ?_, ?_, trivial⟩ ?_
      ·rintro f M - ⟨i0, -⟩
       have hs9 : f 9 = .pointer (some ((ba p15).add (i2 * 5))) := i0
       refine ob_start (L' := M) (by rfl) (up_cons rfl hs9) ?_
       refine l_val (v := .pointer (some ((ba p15).add (i2 * 5)))) rfl rfl rfl (e_move) ?_
       refine l_nil ?_
       exact f_owes_d (up_cons rfl hs9) rfl (List.Perm.refl _)
      ·rintro f M - ⟨i0, -⟩
       have hs9 : f 9 = .pointer (some ((ba p15).add (i2 * 5))) := i0
       refine ob_start (L' := M) (by rfl) (up_cons rfl hs9) ?_
       refine l_val (v := .pointer (some ((ba p15).add (i2 * 5)))) rfl rfl rfl (e_move) ?_
       refine l_nil ?_
       exact f_owes_d (up_cons rfl hs9) rfl (List.Perm.refl _)
      ·rintro f M - ⟨i0, -⟩
       have hs3 : f 3 = .pointer (some ⟨b2, 0, none⟩) := i0
       refine ob_start (L' := M) (by rfl) (up_cons rfl hs3) ?_
       refine l_val (v := .pointer (some ⟨b2, 0, none⟩)) rfl rfl rfl (e_fieldPt (b := b2) (o := 0) rfl tw31) ?_
       refine l_nil ?_
       exact f_owes_d (up_cons rfl hs3) rfl (List.Perm.refl _)
      ·rintro f M ⟨k0, -⟩ -
       have hs91 : f 91 = .pointer (some ⟨b2, 0, none⟩) := k0
       refine ob_start (L' := pt b2 (.cells #[.slice bva (B.length) (bvc), rv, Ix (gx), Ix (gy)] 30) :: M) (by rfl) (up_cons rfl hs91) ?_
       refine l_val (v := .slice bva (B.length) (bvc)) rfl rfl rfl (e_load1 tw32 (v := .slice bva (B.length) (bvc)) rfl (k_pt 0 (cs := #[.slice bva (B.length) (bvc), rv, Ix (gx), Ix (gy)]) (vs := [.slice bva (B.length) (bvc)]) rfl rfl)) ?_
       refine l_nil ?_
       exact f_owes_d (up_cons rfl hs91) rfl (perm_front 0 rfl)
      ·rintro f M - ⟨i0, -⟩
       have hs12 : f 12 = Nx (ib) := i0
       refine ob_start (L' := M) (by rfl) (up_cons rfl hs12) ?_
       refine l_val (v := Nx (ib)) rfl rfl rfl (e_move) ?_
       refine l_nil ?_
       exact f_owes_d (up_cons rfl hs12) rfl (List.Perm.refl _)
      ·rintro f M ⟨k0, k1, -⟩ -
       have hs92 : f 92 = .slice bva (B.length) (bvc) := k0
       have hs93 : f 93 = Nx (ib) := k1
       refine ob_start (L' := M) (by rfl) (up_cons (up_cons rfl hs92) hs93) ?_
       refine l_val (v := .pointer (some ((ba bva).add (ib * 9)))) rfl rfl rfl (e_indexAddr (k := ib) (len := B.length) (cap := bvc) (a := bva) rfl rfl tw33 (by omega) hao) ?_
       refine l_nil ?_
       exact f_owes_d (up_cons (up_cons rfl hs92) hs93) rfl (List.Perm.refl _)
      ·rintro f M ⟨k0, -⟩ -
       have hs94 : f 94 = .pointer (some ((ba bva).add (ib * 9))) := k0
       refine ob_start (L' := M) (by rfl) (up_cons rfl hs94) ?_
       refine l_val (v := .pointer (some (((ba bva).add (ib * 9) : Addr).add 3))) rfl rfl rfl (e_fieldAddr (a := (ba bva).add (ib * 9)) rfl tw21) ?_
       refine l_nil ?_
       exact f_owes_d (up_cons rfl hs94) rfl (List.Perm.refl _)
      ·rintro f M ⟨k0, -⟩ -
       have hs95 : f 95 = .pointer (some (((ba bva).add (ib * 9) : Addr).add 3)) := k0
       refine ob_start (L' := M) (by rfl) (up_cons rfl hs95) ?_
       refine l_val (v := .pointer (some ((((ba bva).add (ib * 9) : Addr).add 3 : Addr).add 0))) rfl rfl rfl (e_fieldAddr (a := ((ba bva).add (ib * 9) : Addr).add 3) rfl tw55) ?_
       refine l_nil ?_
       exact f_owes_d (up_cons rfl hs95) rfl (List.Perm.refl _)
      ·rintro f M ⟨k0, -⟩ -
       have hs96 : f 96 = .pointer (some ((((ba bva).add (ib * 9) : Addr).add 3 : Addr).add 0)) := k0
       refine ob_start (L' := M) (by rfl) (up_cons rfl hs96) ?_
       refine l_val (v := Ix (ob.vx)) rfl rfl rfl (e_load1 tw15 (v := Ix (ob.vx)) rfl (Knows.imp (Knows.imp (Knows.of_base (Cs.mono _ _) hco) (fun _ h => Cs.sub (vs := [Ix (ob.vx), Ix (ob.vy)]) 3 h rfl)) (fun _ h => Cs.sub (vs := [Ix (ob.vx)]) 0 h rfl))) ?_
       refine l_nil ?_
       exact f_owes_d (up_cons rfl hs96) rfl (List.Perm.refl _)
      ·rintro f M - ⟨i0, -⟩
       have hs3 : f 3 = .pointer (some ⟨b2, 0, none⟩) := i0
       refine ob_start (L' := M) (by rfl) (up_cons rfl hs3) ?_
       refine l_val (v := .pointer (some ⟨b2, 0, none⟩)) rfl rfl rfl (e_fieldPt (b := b2) (o := 0) rfl tw31) ?_
       refine l_nil ?_
       exact f_owes_d (up_cons rfl hs3) rfl (List.Perm.refl _)
      ·rintro f M ⟨k0, -⟩ -
       have hs98 : f 98 = .pointer (some ⟨b2, 0, none⟩) := k0
       refine ob_start (L' := pt b2 (.cells #[.slice bva (B.length) (bvc), rv, Ix (gx), Ix (gy)] 30) :: M) (by rfl) (up_cons rfl hs98) ?_
       refine l_val (v := .slice bva (B.length) (bvc)) rfl rfl rfl (e_load1 tw32 (v := .slice bva (B.length) (bvc)) rfl (k_pt 0 (cs := #[.slice bva (B.length) (bvc), rv, Ix (gx), Ix (gy)]) (vs := [.slice bva (B.length) (bvc)]) rfl rfl)) ?_
       refine l_nil ?_
       exact f_owes_d (up_cons rfl hs98) rfl (perm_front 0 rfl)
      ·rintro f M - ⟨i0, -⟩
       have hs12 : f 12 = Nx (ib) := i0
       refine ob_start (L' := M) (by rfl) (up_cons rfl hs12) ?_
       refine l_val (v := Nx (ib)) rfl rfl rfl (e_move) ?_
       refine l_nil ?_
       exact f_owes_d (up_cons rfl hs12) rfl (List.Perm.refl _)
      ·rintro f M ⟨k0, k1, -⟩ -
       have hs99 : f 99 = .slice bva (B.length) (bvc) := k0
       have hs100 : f 100 = Nx (ib) := k1
       refine ob_start (L' := M) (by rfl) (up_cons (up_cons rfl hs99) hs100) ?_
       refine l_val (v := .pointer (some ((ba bva).add (ib * 9)))) rfl rfl rfl (e_indexAddr (k := ib) (len := B.length) (cap := bvc) (a := bva) rfl rfl tw33 (by omega) hao) ?_
       refine l_nil ?_
       exact f_owes_d (up_cons (up_cons rfl hs99) hs100) rfl (List.Perm.refl _)
      ·rintro f M ⟨k0, -⟩ -
       have hs101 : f 101 = .pointer (some ((ba bva).add (ib * 9))) := k0
       refine ob_start (L' := M) (by rfl) (up_cons rfl hs101) ?_
       refine l_val (v := .pointer (some (((ba bva).add (ib * 9) : Addr).add 3))) rfl rfl rfl (e_fieldAddr (a := (ba bva).add (ib * 9)) rfl tw21) ?_
       refine l_nil ?_
       exact f_owes_d (up_cons rfl hs101) rfl (List.Perm.refl _)
      ·rintro f M ⟨k0, -⟩ -
       have hs102 : f 102 = .pointer (some (((ba bva).add (ib * 9) : Addr).add 3)) := k0
       refine ob_start (L' := M) (by rfl) (up_cons rfl hs102) ?_
       refine l_val (v := .pointer (some ((((ba bva).add (ib * 9) : Addr).add 3 : Addr).add 1))) rfl rfl rfl (e_fieldAddr (a := ((ba bva).add (ib * 9) : Addr).add 3) rfl tw56) ?_
       refine l_nil ?_
       exact f_owes_d (up_cons rfl hs102) rfl (List.Perm.refl _)
      ·rintro f M ⟨k0, -⟩ -
       have hs103 : f 103 = .pointer (some ((((ba bva).add (ib * 9) : Addr).add 3 : Addr).add 1)) := k0
       refine ob_start (L' := M) (by rfl) (up_cons rfl hs103) ?_
       refine l_val (v := Ix (ob.vy)) rfl rfl rfl (e_load1 tw15 (v := Ix (ob.vy)) rfl (Knows.imp (Knows.imp (Knows.of_base (Cs.mono _ _) hco) (fun _ h => Cs.sub (vs := [Ix (ob.vx), Ix (ob.vy)]) 3 h rfl)) (fun _ h => Cs.sub (vs := [Ix (ob.vy)]) 1 h rfl))) ?_
       refine l_nil ?_
       exact f_owes_d (up_cons rfl hs103) rfl (List.Perm.refl _)
      ·rintro f M ⟨k0, -⟩ -
       have hs89 : f 89 = .pointer (some ((ba p15).add (i2 * 5))) := k0
       refine ob_start (L' := M) (by rfl) (up_cons rfl hs89) ?_
       refine l_val (v := .pointer (some ((ba p15).add (i2 * 5)))) rfl rfl rfl (e_nil (a := (ba p15).add (i2 * 5)) rfl) ?_
       refine l_nil ?_
       exact f_owes_d (up_cons rfl hs89) rfl (List.Perm.refl _)
      ·rintro f M ⟨k0, -⟩ -
       have hs105 : f 105 = .pointer (some ((ba p15).add (i2 * 5))) := k0
       refine ob_start (L' := M) (by rfl) (up_cons rfl hs105) ?_
       refine l_val (v := .pointer (some ((ba p15).add (i2 * 5 + 1)))) rfl rfl rfl (ev_eq (congrArg (fun z => Value.pointer (some z)) (show ((ba p15).add (i2 * 5) : Addr).add 1 = (ba p15).add (i2 * 5 + 1) by rw [Addr.add_add'])) (e_fieldAddr (a := (ba p15).add (i2 * 5)) rfl tw11)) ?_
       refine l_nil ?_
       exact f_owes_d (up_cons rfl hs105) rfl (List.Perm.refl _)
      ·rintro f M ⟨k0, -⟩ -
       have hs106 : f 106 = .pointer (some ((ba p15).add (i2 * 5 + 1))) := k0
       refine ob_start (L' := M) (by rfl) (up_cons rfl hs106) ?_
       refine l_val (v := .pointer (some ((ba p15).add (i2 * 5 + 1)))) rfl rfl rfl (ev_eq (congrArg (fun z => Value.pointer (some z)) (show ((ba p15).add (i2 * 5 + 1) : Addr).add (0 * 1) = (ba p15).add (i2 * 5 + 1) by rw [Addr.add_add'] <;> rfl)) (e_indexArr (a := (ba p15).add (i2 * 5 + 1)) (k := 0) rfl rfl tw16 (by decide))) ?_
       refine l_nil ?_
       exact f_owes_d (up_cons rfl hs106) rfl (List.Perm.refl _)
      ·rintro f M ⟨k0, k1, -⟩ -
       have hs107 : f 107 = .pointer (some ((ba p15).add (i2 * 5 + 1))) := k0
       have hs97 : f 97 = Ix (ob.vx) := k1
       refine ob_start (L' := rowF CompF 120 p15 c16 ((x6.comps.set i1 (setV0 c1 ob.x)).set i1 (setV1 (setV0 c1 ob.x) ob.y)) :: M) (by rfl) (up_cons (up_cons rfl hs107) hs97) ?_
       refine l_mu rfl rfl (m_storeFlPart 0 (F := CompF) (p := p15) (k := i2) (o := 1) (xs := ((x6.comps.set i1 (setV0 c1 ob.x)).set i1 (setV1 (setV0 c1 ob.x) ob.y))) (z0 := c2) (z := (setV0 c2 ob.vx)) tw15 rfl rfl rfl rfl rfl (set_ne (by first | assumption | (apply Ne.symm; assumption)) (set_ne (by first | assumption | (apply Ne.symm; assumption)) hi2)) (by decide) rfl) ?_
       refine l_nil ?_
       exact f_owes_n (up_cons (up_cons rfl hs107) hs97) trivial (perm_front 0 rfl)
      ·rintro f M ⟨k0, -⟩ -
       have hs90 : f 90 = .pointer (some ((ba p15).add (i2 * 5))) := k0
       refine ob_start (L' := M) (by rfl) (up_cons rfl hs90) ?_
       refine l_val (v := .pointer (some ((ba p15).add (i2 * 5)))) rfl rfl rfl (e_nil (a := (ba p15).add (i2 * 5)) rfl) ?_
       refine l_nil ?_
       exact f_owes_d (up_cons rfl hs90) rfl (List.Perm.refl _)
      ·rintro f M ⟨k0, -⟩ -
       have hs108 : f 108 = .pointer (some ((ba p15).add (i2 * 5))) := k0
       refine ob_start (L' := M) (by rfl) (up_cons rfl hs108) ?_
       refine l_val (v := .pointer (some ((ba p15).add (i2 * 5 + 1)))) rfl rfl rfl (ev_eq (congrArg (fun z => Value.pointer (some z)) (show ((ba p15).add (i2 * 5) : Addr).add 1 = (ba p15).add (i2 * 5 + 1) by rw [Addr.add_add'])) (e_fieldAddr (a := (ba p15).add (i2 * 5)) rfl tw11)) ?_
       refine l_nil ?_
       exact f_owes_d (up_cons rfl hs108) rfl (List.Perm.refl _)
      ·rintro f M ⟨k0, -⟩ -
       have hs109 : f 109 = .pointer (some ((ba p15).add (i2 * 5 + 1))) := k0
       refine ob_start (L' := M) (by rfl) (up_cons rfl hs109) ?_
       refine l_val (v := .pointer (some ((ba p15).add (i2 * 5 + 2)))) rfl rfl rfl (ev_eq (congrArg (fun z => Value.pointer (some z)) (show ((ba p15).add (i2 * 5 + 1) : Addr).add (1 * 1) = (ba p15).add (i2 * 5 + 2) by rw [Addr.add_add'] <;> rfl)) (e_indexArr (a := (ba p15).add (i2 * 5 + 1)) (k := 1) rfl rfl tw16 (by decide))) ?_
       refine l_nil ?_
       exact f_owes_d (up_cons rfl hs109) rfl (List.Perm.refl _)
      ·rintro f M ⟨k0, k1, -⟩ -
       have hs110 : f 110 = .pointer (some ((ba p15).add (i2 * 5 + 2))) := k0
       have hs104 : f 104 = Ix (ob.vy) := k1
       refine ob_start (L' := rowF CompF 120 p15 c16 (((x6.comps.set i1 (setV0 c1 ob.x)).set i1 (setV1 (setV0 c1 ob.x) ob.y)).set i2 (setV0 c2 ob.vx)) :: M) (by rfl) (up_cons (up_cons rfl hs110) hs104) ?_
       refine l_mu rfl rfl (m_storeFlPart 0 (F := CompF) (p := p15) (k := i2) (o := 2) (xs := (((x6.comps.set i1 (setV0 c1 ob.x)).set i1 (setV1 (setV0 c1 ob.x) ob.y)).set i2 (setV0 c2 ob.vx))) (z0 := (setV0 c2 ob.vx)) (z := (setV1 (setV0 c2 ob.vx) ob.vy)) tw15 rfl rfl rfl rfl rfl (get_set (setV0 c2 ob.vx) (by first | omega | (simp only [List.length_set]; omega))) (by decide) rfl) ?_
       refine l_nil ?_
       exact f_owes_n (up_cons (up_cons rfl hs110) hs104) trivial (perm_front 0 rfl)
      rintro fa35 ⟨-, -, -, -, -, -, -, -, -, -, -, -, -, -, -, -, -, -, -, -, -, -, -, -, -⟩ ⟨j0, j1, j2, j3, j4, j5, -⟩
      refine f_re (L' := [pt b20 (.cells (bC (bodyD (x6.id) x6.comps)) 52), pt b17 (.cells #[Ix (x6.id), .slice p15 (x6.comps.length) c16] 59), pt b14 (.cells #[Ix (x6.id), .slice p15 (x6.comps.length) c16] 59), goodO 120 hd ((es.take k).map (backE B)), rowF HdF 59 rp18 rc19 (hd ++ [(⟨(x6.id), p15, x6.comps.length, c16⟩ : KHd)]), pt b4 (.cells #[Ix (tick), .slice rp18 ((hd ++ [(⟨(x6.id), p15, x6.comps.length, c16⟩ : KHd)]).length) rc19] 24), pt b3 (.cells #[.int .i64 (0), .slice none 0 0] 24), pt b2 (.cells #[.slice bva (B.length) (bvc), rv, Ix (gx), Ix (gy)] 30), pt b1 (.cells #[Ix (tick), .slice va (es.length) (vc)] 24), rowF CompF 120 p15 c16 ((((x6.comps.set i1 (setV0 c1 ob.x)).set i1 (setV1 (setV0 c1 ob.x) ob.y)).set i2 (setV0 c2 ob.vx)).set i2 (setV1 (setV0 c2 ob.vx) ob.vy))]) (by rfl) ?_
      refine f_rebase (d := 3) (v := .pointer (some ⟨b2, 0, none⟩)) j0 ?_
      refine f_rebase (d := 4) (v := .pointer (some ⟨b3, 0, none⟩)) j1 ?_
      refine f_rebase (d := 5) (v := .pointer (some ⟨b4, 0, none⟩)) j2 ?_
      refine f_rebase (d := 17) (v := .slice va (es.length) (vc)) j3 ?_
      refine f_rebase (d := 18) (v := Nx (es.length)) j4 ?_
      refine f_rebase (d := 19) (v := Nx (k)) j5 ?_
      refine f_block ?_
      refine f_then ?_
      refine c_region ?_
      refine l_val (v := Nx (k + 1)) rfl rfl rfl (e_add (a := ((k : Nat) : Int)) (b := (1 : Int)) rfl rfl (i64n (by omega) (by omega))) ?_
      refine l_val (v := Nx (k + 1)) rfl rfl rfl (e_move) ?_
      refine l_nil ?_
      have hY : ((((x6.comps.set i1 (setV0 c1 ob.x)).set i1 (setV1 (setV0 c1 ob.x) ob.y)).set i2 (setV0 c2 ob.vx)).set i2 (setV1 (setV0 c2 ob.vx) ob.vy)) = backC B x6.id x6.comps := (by simp only [List.set_set]; exact back_mov h0 (hfo _ hob) hfx hx1 hf1 hx2 hf2)
      refine f_perm (L' := [rowF CompF 120 p15 c16 ((((x6.comps.set i1 (setV0 c1 ob.x)).set i1 (setV1 (setV0 c1 ob.x) ob.y)).set i2 (setV0 c2 ob.vx)).set i2 (setV1 (setV0 c2 ob.vx) ob.vy)), goodO 120 hd ((es.take k).map (backE B)), pt b20 (.cells (bC (bodyD (x6.id) x6.comps)) 52), pt b17 (.cells #[Ix (x6.id), .slice p15 (x6.comps.length) c16] 59), pt b14 (.cells #[Ix (x6.id), .slice p15 (x6.comps.length) c16] 59), rowF HdF 59 rp18 rc19 (hd ++ [(⟨(x6.id), p15, x6.comps.length, c16⟩ : KHd)]), pt b4 (.cells #[Ix (tick), .slice rp18 ((hd ++ [(⟨(x6.id), p15, x6.comps.length, c16⟩ : KHd)]).length) rc19] 24), pt b3 (.cells #[.int .i64 (0), .slice none 0 0] 24), pt b2 (.cells #[.slice bva (B.length) (bvc), rv, Ix (gx), Ix (gy)] 30), pt b1 (.cells #[Ix (tick), .slice va (es.length) (vc)] 24)]) (by exact (perm_ix [9, 3, 0, 1, 2, 4, 5, 6, 7, 8] 10 rfl (by kernel_rfl) (by kernel_rfl))) ?_
      refine f_merge (L := [rowF CompF 120 p15 c16 ((((x6.comps.set i1 (setV0 c1 ob.x)).set i1 (setV1 (setV0 c1 ob.x) ob.y)).set i2 (setV0 c2 ob.vx)).set i2 (setV1 (setV0 c2 ob.vx) ob.vy)), goodO 120 hd ((es.take k).map (backE B))]) (M := [pt b20 (.cells (bC (bodyD (x6.id) x6.comps)) 52), pt b17 (.cells #[Ix (x6.id), .slice p15 (x6.comps.length) c16] 59), pt b14 (.cells #[Ix (x6.id), .slice p15 (x6.comps.length) c16] 59), rowF HdF 59 rp18 rc19 (hd ++ [(⟨(x6.id), p15, x6.comps.length, c16⟩ : KHd)]), pt b4 (.cells #[Ix (tick), .slice rp18 ((hd ++ [(⟨(x6.id), p15, x6.comps.length, c16⟩ : KHd)]).length) rc19] 24), pt b3 (.cells #[.int .i64 (0), .slice none 0 0] 24), pt b2 (.cells #[.slice bva (B.length) (bvc), rv, Ix (gx), Ix (gy)] 30), pt b1 (.cells #[Ix (tick), .slice va (es.length) (vc)] 24)]) (r := goodO 120 (hd ++ [(⟨(x6.id), p15, x6.comps.length, c16⟩ : KHd)]) ((es.take (k + 1)).map (backE B))) (by rw [← back_next hx7 hY]; exact goodO_merge (cs := ((((x6.comps.set i1 (setV0 c1 ob.x)).set i1 (setV1 (setV0 c1 ob.x) ob.y)).set i2 (setV0 c2 ob.vx)).set i2 (setV1 (setV0 c2 ob.vx) ob.vy))) (m := x6.comps.length) (by rw [hY, back_len])) ?_
      refine f_mask (L' := [goodO 120 (hd ++ [(⟨(x6.id), p15, x6.comps.length, c16⟩ : KHd)]) ((es.take (k + 1)).map (backE B)), rowF HdF 59 rp18 rc19 (hd ++ [(⟨(x6.id), p15, x6.comps.length, c16⟩ : KHd)]), pt b4 (.cells #[Ix (tick), .slice rp18 ((hd ++ [(⟨(x6.id), p15, x6.comps.length, c16⟩ : KHd)]).length) rc19] 24), pt b3 (.cells #[.int .i64 (0), .slice none 0 0] 24), pt b2 (.cells #[.slice bva (B.length) (bvc), rv, Ix (gx), Ix (gy)] 30), pt b1 (.cells #[Ix (tick), .slice va (es.length) (vc)] 24)]) [true, false, false, false, true, true, true, true, true] rfl ?_
      exact f_cut ⟨(k + 1, (hd ++ [(⟨(x6.id), p15, x6.comps.length, c16⟩ : KHd)]), rp18, rc19), ⟨⟨rfl, rfl, rfl, rfl, rfl, rfl⟩, rfl, ⟨by omega, by rw [List.length_append]; simp only [List.length_cons, List.length_nil]; omega⟩⟩, (show es.length - (k + 1) < es.length - k from by omega)⟩
     ·
      have hfx : (bodyD x6.id x6.comps).fixed = true := by simpa using hc34
      refine c_skip ?_
      refine f_block ?_
      refine f_then ?_
      refine c_region ?_
      refine l_val (v := Nx (k + 1)) rfl rfl rfl (e_add (a := ((k : Nat) : Int)) (b := (1 : Int)) rfl rfl (i64n (by omega) (by omega))) ?_
      refine l_val (v := Nx (k + 1)) rfl rfl rfl (e_move) ?_
      refine l_nil ?_
      have hY : ((x6.comps.set i1 (setV0 c1 ob.x)).set i1 (setV1 (setV0 c1 ob.x) ob.y)) = backC B x6.id x6.comps := (by simp only [List.set_set]; exact back_fix h0 (hfo _ hob) hfx hx1 hf1)
      refine f_perm (L' := [rowF CompF 120 p15 c16 ((x6.comps.set i1 (setV0 c1 ob.x)).set i1 (setV1 (setV0 c1 ob.x) ob.y)), goodO 120 hd ((es.take k).map (backE B)), pt b20 (.cells (bC (bodyD (x6.id) x6.comps)) 52), pt b17 (.cells #[Ix (x6.id), .slice p15 (x6.comps.length) c16] 59), pt b14 (.cells #[Ix (x6.id), .slice p15 (x6.comps.length) c16] 59), rowF HdF 59 rp18 rc19 (hd ++ [(⟨(x6.id), p15, x6.comps.length, c16⟩ : KHd)]), pt b4 (.cells #[Ix (tick), .slice rp18 ((hd ++ [(⟨(x6.id), p15, x6.comps.length, c16⟩ : KHd)]).length) rc19] 24), pt b3 (.cells #[.int .i64 (0), .slice none 0 0] 24), pt b2 (.cells #[.slice bva (B.length) (bvc), rv, Ix (gx), Ix (gy)] 30), pt b1 (.cells #[Ix (tick), .slice va (es.length) (vc)] 24)]) (by exact (perm_ix [9, 3, 0, 1, 2, 4, 5, 6, 7, 8] 10 rfl (by kernel_rfl) (by kernel_rfl))) ?_
      refine f_merge (L := [rowF CompF 120 p15 c16 ((x6.comps.set i1 (setV0 c1 ob.x)).set i1 (setV1 (setV0 c1 ob.x) ob.y)), goodO 120 hd ((es.take k).map (backE B))]) (M := [pt b20 (.cells (bC (bodyD (x6.id) x6.comps)) 52), pt b17 (.cells #[Ix (x6.id), .slice p15 (x6.comps.length) c16] 59), pt b14 (.cells #[Ix (x6.id), .slice p15 (x6.comps.length) c16] 59), rowF HdF 59 rp18 rc19 (hd ++ [(⟨(x6.id), p15, x6.comps.length, c16⟩ : KHd)]), pt b4 (.cells #[Ix (tick), .slice rp18 ((hd ++ [(⟨(x6.id), p15, x6.comps.length, c16⟩ : KHd)]).length) rc19] 24), pt b3 (.cells #[.int .i64 (0), .slice none 0 0] 24), pt b2 (.cells #[.slice bva (B.length) (bvc), rv, Ix (gx), Ix (gy)] 30), pt b1 (.cells #[Ix (tick), .slice va (es.length) (vc)] 24)]) (r := goodO 120 (hd ++ [(⟨(x6.id), p15, x6.comps.length, c16⟩ : KHd)]) ((es.take (k + 1)).map (backE B))) (by rw [← back_next hx7 hY]; exact goodO_merge (cs := ((x6.comps.set i1 (setV0 c1 ob.x)).set i1 (setV1 (setV0 c1 ob.x) ob.y))) (m := x6.comps.length) (by rw [hY, back_len])) ?_
      refine f_mask (L' := [goodO 120 (hd ++ [(⟨(x6.id), p15, x6.comps.length, c16⟩ : KHd)]) ((es.take (k + 1)).map (backE B)), rowF HdF 59 rp18 rc19 (hd ++ [(⟨(x6.id), p15, x6.comps.length, c16⟩ : KHd)]), pt b4 (.cells #[Ix (tick), .slice rp18 ((hd ++ [(⟨(x6.id), p15, x6.comps.length, c16⟩ : KHd)]).length) rc19] 24), pt b3 (.cells #[.int .i64 (0), .slice none 0 0] 24), pt b2 (.cells #[.slice bva (B.length) (bvc), rv, Ix (gx), Ix (gy)] 30), pt b1 (.cells #[Ix (tick), .slice va (es.length) (vc)] 24)]) [true, false, false, false, true, true, true, true, true] rfl ?_
      exact f_cut ⟨(k + 1, (hd ++ [(⟨(x6.id), p15, x6.comps.length, c16⟩ : KHd)]), rp18, rc19), ⟨⟨rfl, rfl, rfl, rfl, rfl, rfl⟩, rfl, ⟨by omega, by rw [List.length_append]; simp only [List.length_cons, List.length_nil]; omega⟩⟩, (show es.length - (k + 1) < es.length - k from by omega)⟩
 ·
  refine c_exit ?_
  refine f_then_exit ?_
  refine f_then_exit ?_
  refine f_exit ?_
  refine f_then ?_
  refine c_seq ?_
  refine c_region ?_
  refine l_val (v := .agg #[Ix (tick), .slice p (hd.length) c]) rfl rfl rfl (e_load tw48 (cs := [Ix (tick), .slice p (hd.length) c]) rfl (k_pt 2 (cs := #[Ix (tick), .slice p (hd.length) c]) (vs := [Ix (tick), .slice p (hd.length) c]) rfl rfl) rfl) ?_
  refine l_mu rfl rfl (m_store 3 tw48 (b := b3) (o := 0) (T := 24) (cs := #[.int .i64 (0), .slice none 0 0]) (cs' := #[Ix (tick), .slice p (hd.length) c]) (v := .agg #[Ix (tick), .slice p (hd.length) c]) rfl rfl rfl rfl rfl rfl rfl) ?_
  refine l_nil ?_
  refine f_then ?_
  refine c_ret ?_
  refine retG (l := [.cell 4 24]) (m := [.agg #[Ix (tick), .slice p (hd.length) c]]) (v := .agg #[Ix (tick), .slice p (hd.length) c]) Tryz.results19 ⟨rd_cell tw48 (cs := [Ix (tick), .slice p (hd.length) c]) rfl (k_pt 3 (cs := #[Ix (tick), .slice p (hd.length) c]) (vs := [Ix (tick), .slice p (hd.length) c]) rfl rfl) rfl, trivial⟩ rfl ?_
  intro w hw
  have hw2 := st_mask (L' := [goodO 120 hd ((es.take k).map (backE B)), rowF HdF 59 p c hd]) [true, true, false, false, false, false] rfl hw
  replace hw2 := hw2.perm (List.Perm.swap _ _ _)
  rw [List.take_of_length_le (by omega)] at hw2
  exact ⟨p, c, hd, by omega, congrArg (fun n => Ending.returned (.agg #[Ix tick, .slice p n c])) (show hd.length = es.length by omega), hw2⟩
theorem worldO_ok (β : Base) (w : World) (hw : St β [] w) (tick : Int) (v rv : Value) (gx gy : Int) (es : List KEnt) (rs : List KR) (hs : Sl EntR β.heap v es) (hr : Sl KRR β.heap rv rs) (hn : es.length ≤ 65536) (hrn : rs.length ≤ 65536) (hcl : ∀ e ∈ es, e.comps.length ≤ 65536) (hgx : -9223372036854775808 ≤ gx ∧ gx ≤ 9223372036854775807) (hgy : -9223372036854775808 ≤ gy ∧ gy ≤ 9223372036854775807) (hG : GR β) (hokS : okS (bodiesOf es) (ropesOf (bodiesOf es) rs) gx gy) (T : List KB) (S : List KS) (hTS : stepsTo (ropesOf (bodiesOf es) rs) gx gy (bodiesOf es) (bodiesOf es).length = (T, S)) : Calls Tryz.prog 24 #[.agg #[Ix tick, v], rv, .agg #[Ix gx, Ix gy]] w fun r w' => ∃ p c hd sp sc, hd.length = es.length ∧ r = .returned (.tuple #[.agg #[Ix tick, .slice p es.length c], .slice sp S.length sc, .int .i64 (0)]) ∧ St β [rowF HdF 59 p c hd, goodO 120 hd (es.map (backE T)), rowF StopF 55 sp sc S] w' := by
 have hTl : T.length = (bodiesOf es).length := by have h := (step_keeps (rs := ropesOf (bodiesOf es) rs) (gx := gx) (gy := gy) hokS.2.2.2.1 (bodiesOf es).length).1.len; rw [hTS] at h; exact h
 refine enter (n := 29) Tryz.func24 rfl Tryz.ntmps24 rfl ?_ hw
 refine c_seq ?_
 refine c_region ?_
 refine l_mv rfl rfl rfl (m_box (v := .agg #[Ix (tick), v]) rfl) ?_
 rintro _ _ ⟨b1, rfl, rfl⟩
 refine l_mv rfl rfl rfl (m_box (v := .agg #[Ix (gx), Ix (gy)]) rfl) ?_
 rintro _ _ ⟨b2, rfl, rfl⟩
 refine l_mv rfl rfl rfl (m_alloc tw45) ?_
 rintro _ _ ⟨b3, rfl, rfl⟩
 refine l_val (v := .slice none 0 0) rfl rfl rfl (e_assign) ?_
 refine l_val (v := .int .i64 (0)) rfl rfl rfl (e_assign) ?_
 refine l_nil ?_
 refine f_then ?_
 refine c_seq ?_
 refine c_region ?_
 refine l_val (v := .agg #[Ix (tick), v]) rfl rfl rfl (e_load tw48 (cs := [Ix (tick), v]) rfl (k_pt 2 (cs := #[Ix (tick), v]) (vs := [Ix (tick), v]) rfl rfl) rfl) ?_
 refine l_val (v := rv) rfl rfl rfl (e_move) ?_
 refine l_val (v := .agg #[Ix (gx), Ix (gy)]) rfl rfl rfl (e_load tw22 (cs := [Ix (gx), Ix (gy)]) rfl (k_pt 1 (cs := #[Ix (gx), Ix (gy)]) (vs := [Ix (gx), Ix (gy)]) rfl rfl) rfl) ?_
 refine l_call rfl rfl rfl (cl_value (fst := []) (cap := []) (vs := [.agg #[Ix (tick), v], rv, .agg #[Ix (gx), Ix (gy)]]) (all := [.agg #[Ix (tick), v], rv, .agg #[Ix (gx), Ix (gy)]]) tw66 rfl rfl rfl) ?_
 intro w hw
 obtain ⟨β1, sb, kn, hw1, back⟩ := St.frame_all hw
 refine (worldB_ok β1 w hw1 _ _ _ (gx) (gy) es rs (Sl.mono _ _ _ _ _ sb hs) (Sl.mono _ _ _ _ _ sb hr) hn hrn).mono ?_
 rintro e w' ⟨p4, c5, p6, c7, rfl, hw'⟩
 refine ⟨_, rfl, _, back _ _ hw', ?_⟩
 clear hw hw1 hw' back kn sb
 refine l_call rfl rfl rfl (cl_value (fst := []) (cap := []) (vs := [.agg #[.slice p4 ((bodiesOf es).length) c5, .slice p6 ((ropesOf (bodiesOf es) rs).length) c7, Ix (gx), Ix (gy)]]) (all := [.agg #[.slice p4 ((bodiesOf es).length) c5, .slice p6 ((ropesOf (bodiesOf es) rs).length) c7, Ix (gx), Ix (gy)]]) tw67 rfl rfl rfl) ?_
 intro w hw
 obtain ⟨β1, sb, kn, hw1, back⟩ := St.frame_all hw
 refine (stepY_ok β1 w hw1 _ _ gx gy (bodiesOf es) (ropesOf (bodiesOf es) rs) (kn _ (k_flN 0 (F := BodyF) (m := (bodiesOf es).length) (xs := (bodiesOf es)) rfl rfl)) (kn _ (k_flN 1 (F := RopeF) (m := (ropesOf (bodiesOf es) rs).length) (xs := (ropesOf (bodiesOf es) rs)) rfl rfl)) (by omega) (by omega) (GR.mono sb hG) hokS T S hTS).mono ?_
 rintro e w' ⟨p8, c9, p10, c11, p12, c13, rfl, hw'⟩
 refine ⟨_, rfl, _, back _ _ hw', ?_⟩
 clear hw hw1 hw' back kn sb
 refine l_val (v := .tuple #[.agg #[.slice p8 ((bodiesOf es).length) c9, .slice p10 ((ropesOf (bodiesOf es) rs).length) c11, Ix (gx), Ix (gy)], .slice p12 (S.length) c13, .int .i64 (0)]) rfl rfl rfl (e_move) ?_
 refine l_val (v := .agg #[.slice p8 ((bodiesOf es).length) c9, .slice p10 ((ropesOf (bodiesOf es) rs).length) c11, Ix (gx), Ix (gy)]) rfl rfl rfl (e_extract (vs := #[.agg #[.slice p8 ((bodiesOf es).length) c9, .slice p10 ((ropesOf (bodiesOf es) rs).length) c11, Ix (gx), Ix (gy)], .slice p12 (S.length) c13, .int .i64 (0)]) rfl rfl) ?_
 refine l_val (v := .slice p12 (S.length) c13) rfl rfl rfl (e_extract (vs := #[.agg #[.slice p8 ((bodiesOf es).length) c9, .slice p10 ((ropesOf (bodiesOf es) rs).length) c11, Ix (gx), Ix (gy)], .slice p12 (S.length) c13, .int .i64 (0)]) rfl rfl) ?_
 refine l_val (v := .int .i64 (0)) rfl rfl rfl (e_extract (vs := #[.agg #[.slice p8 ((bodiesOf es).length) c9, .slice p10 ((ropesOf (bodiesOf es) rs).length) c11, Ix (gx), Ix (gy)], .slice p12 (S.length) c13, .int .i64 (0)]) rfl rfl) ?_
 refine l_mv rfl rfl rfl (m_alloc tw23) ?_
 rintro _ _ ⟨b14, rfl, rfl⟩
 refine l_mu rfl rfl (m_store 0 tw25 (b := b14) (o := 0) (T := 30) (cs := #[.slice none 0 0, .slice none 0 0, .int .i64 (0), .int .i64 (0)]) (cs' := #[.slice p8 ((bodiesOf es).length) c9, .slice p10 ((ropesOf (bodiesOf es) rs).length) c11, Ix (gx), Ix (gy)]) (v := .agg #[.slice p8 ((bodiesOf es).length) c9, .slice p10 ((ropesOf (bodiesOf es) rs).length) c11, Ix (gx), Ix (gy)]) rfl rfl rfl rfl rfl rfl rfl) ?_
 refine l_val (v := .slice p12 (S.length) c13) rfl rfl rfl (e_assign) ?_
 refine l_val (v := .int .i64 (0)) rfl rfl rfl (e_assign) ?_
 refine l_nil ?_
 refine f_then ?_
 refine c_seq ?_
 refine c_seq ?_
 refine c_region ?_
 refine l_val (v := .int .i64 (0)) rfl rfl rfl (e_move) ?_
 refine l_val (v := .bool false) rfl rfl rfl (e_neq (a := (0 : Int)) (b := (0 : Int)) rfl rfl) ?_
 refine l_nil ?_
 refine f_then ?_
 refine c_no rfl ?_
 refine c_skip ?_
 refine f_then ?_
 refine c_seq ?_
 refine c_region ?_
 refine l_val (v := .agg #[Ix (tick), v]) rfl rfl rfl (e_load tw48 (cs := [Ix (tick), v]) rfl (k_pt 8 (cs := #[Ix (tick), v]) (vs := [Ix (tick), v]) rfl rfl) rfl) ?_
 refine l_val (v := .agg #[.slice p8 ((bodiesOf es).length) c9, .slice p10 ((ropesOf (bodiesOf es) rs).length) c11, Ix (gx), Ix (gy)]) rfl rfl rfl (e_load tw25 (cs := [.slice p8 ((bodiesOf es).length) c9, .slice p10 ((ropesOf (bodiesOf es) rs).length) c11, Ix (gx), Ix (gy)]) rfl (k_pt 0 (cs := #[.slice p8 ((bodiesOf es).length) c9, .slice p10 ((ropesOf (bodiesOf es) rs).length) c11, Ix (gx), Ix (gy)]) (vs := [.slice p8 ((bodiesOf es).length) c9, .slice p10 ((ropesOf (bodiesOf es) rs).length) c11, Ix (gx), Ix (gy)]) rfl rfl) rfl) ?_
 refine l_call rfl rfl rfl (cl_value (fst := []) (cap := []) (vs := [.agg #[Ix (tick), v], .agg #[.slice p8 ((bodiesOf es).length) c9, .slice p10 ((ropesOf (bodiesOf es) rs).length) c11, Ix (gx), Ix (gy)]]) (all := [.agg #[Ix (tick), v], .agg #[.slice p8 ((bodiesOf es).length) c9, .slice p10 ((ropesOf (bodiesOf es) rs).length) c11, Ix (gx), Ix (gy)]]) tw68 rfl rfl rfl) ?_
 intro w hw
 obtain ⟨β1, sb, kn, hw1, back⟩ := St.frame_all hw
 refine (backO_ok β1 w hw1 _ _ _ _ _ _ es T (Sl.mono _ _ _ _ _ sb hs) (kn _ (k_flN 1 (F := BodyF) (m := (bodiesOf es).length) (xs := T) rfl hTl.symm)) hn hcl).mono ?_
 rintro e w' ⟨p15, c16, hd17, hl18, rfl, hw'⟩
 refine ⟨_, rfl, _, back _ _ hw', ?_⟩
 clear hw hw1 hw' back kn sb
 refine l_val (v := .slice p12 (S.length) c13) rfl rfl rfl (e_move) ?_
 refine l_mu rfl rfl (m_store 8 tw48 (b := b3) (o := 0) (T := 24) (cs := #[.int .i64 (0), .slice none 0 0]) (cs' := #[Ix (tick), .slice p15 (es.length) c16]) (v := .agg #[Ix (tick), .slice p15 (es.length) c16]) rfl rfl rfl rfl rfl rfl rfl) ?_
 refine l_val (v := .slice p12 (S.length) c13) rfl rfl rfl (e_assign) ?_
 refine l_val (v := .int .i64 (0)) rfl rfl rfl (e_assign) ?_
 refine l_nil ?_
 refine f_then ?_
 refine c_ret ?_
 refine retG (l := [.cell 6 24, .tmp 7, .tmp 8]) (m := [.agg #[Ix (tick), .slice p15 (es.length) c16], .slice p12 (S.length) c13, .int .i64 (0)]) (v := .tuple #[.agg #[Ix (tick), .slice p15 (es.length) c16], .slice p12 (S.length) c13, .int .i64 (0)]) Tryz.results24 ⟨rd_cell tw48 (cs := [Ix (tick), .slice p15 (es.length) c16]) rfl (k_pt 8 (cs := #[Ix (tick), .slice p15 (es.length) c16]) (vs := [Ix (tick), .slice p15 (es.length) c16]) rfl rfl) rfl, rd_tmp (v := .slice p12 (S.length) c13) rfl, rd_tmp (v := .int .i64 (0)) rfl, trivial⟩ rfl ?_
 intro w hw
 replace hw := hw.perm (L' := [rowF HdF 59 p15 c16 hd17, goodO 120 hd17 (es.map (backE T)), rowF StopF 55 p12 c13 S, pt b14 (.cells #[.slice p8 ((bodiesOf es).length) c9, .slice p10 ((ropesOf (bodiesOf es) rs).length) c11, Ix (gx), Ix (gy)] 30), rowF BodyF 52 p8 c9 T, rowF RopeF 78 p10 c11 (ropesOf (bodiesOf es) rs), rowF BodyF 52 p4 c5 (bodiesOf es), rowF RopeF 78 p6 c7 (ropesOf (bodiesOf es) rs), pt b3 (.cells #[Ix (tick), .slice p15 (es.length) c16] 24), pt b2 (.cells #[Ix (gx), Ix (gy)] 28), pt b1 (.cells #[Ix (tick), v] 24)]) (by exact (perm_ix [0, 1, 5, 2, 3, 4, 6, 7, 8, 9, 10] 11 rfl (by kernel_rfl) (by kernel_rfl)))
 exact ⟨p15, c16, hd17, p12, c13, hl18, rfl, st_mask [true, true, true, false, false, false, false, false, false, false, false] rfl hw⟩
end Go.Proofs
