/-
 The reference's step of a scene. Printed by a program of my own.
-/
import Derived.Test.YtdkibofhppgbjaaGreatDoorSt15
import Derived.Test.YtdkibofhppgbjaaGreatDoorStWorld
namespace Go.Proofs
open Go Go.Sl Go.Stp
theorem tf128 : cfB Tryz.prog 117 = true := by kernel_rfl
theorem tf129 : cfB Tryz.prog 74 = true := by kernel_rfl
theorem tf130 : cfB Tryz.prog 118 = true := by kernel_rfl
set_option maxHeartbeats 4000000 in
theorem valid7_ok (β : Base) (w : World) (hw : St β [] w) (v rv : Value) (gx gy : Int) (bs : List KB) (rs : List KR) (hs : Sl KBR β.heap v bs) (hr : Sl KRR β.heap rv rs) : Calls Tryz.prog 117 #[.agg #[v, rv, Ix gx, Ix gy]] w fun r w' => r = .returned (.bool (decide (okS bs rs gx gy))) ∧ St β [] w' := by
 obtain ⟨va, vc, rfl, vl, vm, ve⟩ := hs.get
 obtain ⟨rva, rvc, rfl, rvl, rvm, rve⟩ := hr.get
 refine enter (n := 99) Tryz.func117 rfl Tryz.ntmps117 rfl ?_ hw
 refine c_seq ?_
 refine c_region ?_
 refine l_mv rfl rfl rfl (m_box (v := .agg #[.slice va (bs.length) (vc), .slice rva (rs.length) (rvc), Ix (gx), Ix (gy)]) rfl) ?_
 rintro _ _ ⟨b1, rfl, rfl⟩
 refine l_val (v := .bool false) rfl rfl rfl (e_assign) ?_
 refine l_nil ?_
 refine f_then ?_
 refine c_seq ?_
 refine c_seq ?_
 refine c_region ?_
 refine l_val (v := .pointer (some ⟨b1, 0, none⟩)) rfl rfl rfl (e_fieldPt (b := b1) (o := 0) rfl tf49) ?_
 refine l_val (v := .slice va (bs.length) (vc)) rfl rfl rfl (e_load1 tf50 (v := .slice va (bs.length) (vc)) rfl (k_pt 0 (cs := #[.slice va (bs.length) (vc), .slice rva (rs.length) (rvc), Ix (gx), Ix (gy)]) (vs := [.slice va (bs.length) (vc)]) rfl rfl)) ?_
 refine l_val (v := Nx (bs.length)) rfl rfl rfl (e_len (a := va) (n := bs.length) (c := vc) rfl tf40) ?_
 refine l_val (v := .bool (decide ((64 : Int) < ((bs.length : Nat) : Int)))) rfl rfl rfl (e_gtr (a := ((bs.length : Nat) : Int)) (b := (64 : Int)) rfl rfl) ?_
 refine l_val (v := .bool (decide ((64 : Int) < ((bs.length : Nat) : Int)))) rfl rfl rfl (e_move) ?_
 refine l_split (s := 10) (p := (64 : Int) < ((bs.length : Nat) : Int)) rfl (fun hg2 => ?_) (fun hg2 => ?_)
 ·
  refine l_skip rfl rfl rfl rfl rfl rfl ?_
  refine l_skip rfl rfl rfl rfl rfl rfl ?_
  refine l_skip rfl rfl rfl rfl rfl rfl ?_
  refine l_skip rfl rfl rfl rfl rfl rfl ?_
  refine l_val (v := .bool true) rfl rfl rfl (e_pick_t rfl) ?_
  refine l_val (v := .bool true) rfl rfl rfl (e_move) ?_
  refine l_skip rfl rfl rfl rfl rfl rfl ?_
  refine l_skip rfl rfl rfl rfl rfl rfl ?_
  refine l_skip rfl rfl rfl rfl rfl rfl ?_
  refine l_skip rfl rfl rfl rfl rfl rfl ?_
  refine l_val (v := .bool true) rfl rfl rfl (e_pick_t rfl) ?_
  refine l_nil ?_
  refine f_then ?_
  refine c_yes rfl ?_
  refine c_seq ?_
  refine c_region ?_
  refine l_val (v := .bool false) rfl rfl rfl (e_assign) ?_
  refine l_nil ?_
  refine f_then ?_
  refine c_ret ?_
  refine f_then_ret ?_
  refine ret1 Tryz.results117 (v := .bool false) rfl ?_
  intro w hw
  exact ⟨congrArg (fun b : Bool => Ending.returned (.bool b)) (decide_eq_false fun h => by have q1 := h.1; have q2 := h.2.1; omega).symm, st_mask [false] rfl hw⟩
 ·
  refine g_val (v := .pointer (some ⟨b1, 1, none⟩)) rfl rfl rfl rfl rfl (e_fieldPt (b := b1) (o := 0) rfl tf55) ?_
  refine g_val (v := .slice rva (rs.length) (rvc)) rfl rfl rfl rfl rfl (e_load1 tf56 (v := .slice rva (rs.length) (rvc)) rfl (k_pt 0 (cs := #[.slice va (bs.length) (vc), .slice rva (rs.length) (rvc), Ix (gx), Ix (gy)]) (vs := [.slice rva (rs.length) (rvc)]) rfl rfl)) ?_
  refine g_val (v := Nx (rs.length)) rfl rfl rfl rfl rfl (e_len (a := rva) (n := rs.length) (c := rvc) rfl tf45) ?_
  refine g_val (v := .bool (decide ((32 : Int) < ((rs.length : Nat) : Int)))) rfl rfl rfl rfl rfl (e_gtr (a := ((rs.length : Nat) : Int)) (b := (32 : Int)) rfl rfl) ?_
  refine l_val (v := .bool (decide ((32 : Int) < ((rs.length : Nat) : Int)))) rfl rfl rfl (e_pick_f rfl) ?_
  refine l_val (v := .bool (decide ((32 : Int) < ((rs.length : Nat) : Int)))) rfl rfl rfl (e_move) ?_
  refine l_split (s := 16) (p := (32 : Int) < ((rs.length : Nat) : Int)) rfl (fun hg3 => ?_) (fun hg3 => ?_)
  ·
   refine l_skip rfl rfl rfl rfl rfl rfl ?_
   refine l_skip rfl rfl rfl rfl rfl rfl ?_
   refine l_skip rfl rfl rfl rfl rfl rfl ?_
   refine l_skip rfl rfl rfl rfl rfl rfl ?_
   refine l_val (v := .bool true) rfl rfl rfl (e_pick_t rfl) ?_
   refine l_nil ?_
   refine f_then ?_
   refine c_yes rfl ?_
   refine c_seq ?_
   refine c_region ?_
   refine l_val (v := .bool false) rfl rfl rfl (e_assign) ?_
   refine l_nil ?_
   refine f_then ?_
   refine c_ret ?_
   refine f_then_ret ?_
   refine ret1 Tryz.results117 (v := .bool false) rfl ?_
   intro w hw
   exact ⟨congrArg (fun b : Bool => Ending.returned (.bool b)) (decide_eq_false fun h => by have q1 := h.1; have q2 := h.2.1; omega).symm, st_mask [false] rfl hw⟩
  ·
   refine g_val (v := .pointer (some ⟨b1, 2, none⟩)) rfl rfl rfl rfl rfl (e_fieldPt (b := b1) (o := 0) rfl tf57) ?_
   refine g_val (v := .agg #[Ix (gx), Ix (gy)]) rfl rfl rfl rfl rfl (e_load tf15 (cs := [Ix (gx), Ix (gy)]) rfl (k_pt 0 (cs := #[.slice va (bs.length) (vc), .slice rva (rs.length) (rvc), Ix (gx), Ix (gy)]) (vs := [Ix (gx), Ix (gy)]) rfl rfl) rfl) ?_
   refine g_call rfl rfl rfl rfl rfl (cl_value (fst := []) (cap := []) (vs := [.agg #[Ix (gx), Ix (gy)]]) (all := [.agg #[Ix (gx), Ix (gy)]]) tf119 rfl rfl rfl) ?_
   intro w hw
   obtain ⟨β1, sb, kn, hw1, back⟩ := St.frame_all hw
   refine (pull7_ok β1 w hw1 (gx) (gy)).mono ?_
   rintro e w' ⟨rfl, hw'⟩
   refine ⟨_, rfl, _, back _ _ hw', ?_⟩
   clear hw hw1 hw' back kn sb
   refine g_val (v := .bool (decide (¬ (okV (gx) (gy))))) rfl rfl rfl rfl rfl (e_not_p (p := okV (gx) (gy)) rfl) ?_
   refine l_val (v := .bool (decide (¬ (okV (gx) (gy))))) rfl rfl rfl (e_pick_f rfl) ?_
   refine l_nil ?_
   refine f_then ?_
   refine c_if (¬ (okV (gx) (gy))) rfl (fun hc4 => ?_) (fun hc4 => ?_)
   ·
    refine c_seq ?_
    refine c_region ?_
    refine l_val (v := .bool false) rfl rfl rfl (e_assign) ?_
    refine l_nil ?_
    refine f_then ?_
    refine c_ret ?_
    refine f_then_ret ?_
    refine ret1 Tryz.results117 (v := .bool false) rfl ?_
    intro w hw
    exact ⟨congrArg (fun b : Bool => Ending.returned (.bool b)) (decide_eq_false fun h => by have q1 := h.1; have q2 := h.2.1; exact hc4 h.2.2.1).symm, st_mask [false] rfl hw⟩
   ·
    refine c_skip ?_
    refine f_then ?_
    refine c_seq ?_
    refine c_seq ?_
    have hov := Decidable.not_not.1 hc4
    refine c_region ?_
    refine l_val (v := .int .i64 (0)) rfl rfl rfl (e_assign) ?_
    refine l_nil ?_
    refine f_then ?_
    refine c_block ?_
    refine c_mask [true] rfl ?_
    refine c_loop (fun (k : Nat) (f : Fm) (L : List Res) => (f 1 = .pointer (some ⟨b1, 0, none⟩) ∧ f 3 = Nx (k)) ∧ L = [pt b1 (.cells #[.slice va (bs.length) (vc), .slice rva (rs.length) (rvc), Ix (gx), Ix (gy)] 30)] ∧ (k ≤ bs.length ∧ (∀ b ∈ bs.take k, okB b) ∧ ∀ i a b, i + 1 < k → bs[i]? = some a → bs[i + 1]? = some b → a.id < b.id)) (fun (k : Nat) => bs.length - k) 0 ?_ ?_
    ·exact ⟨⟨rfl, rfl⟩, rfl, ⟨by omega, fun y hy => by simp at hy, fun i a b h => by omega⟩⟩
    rintro k f0 L0 ⟨⟨hs1, hs3⟩, hL, ⟨hk, hp1, hp2⟩⟩
    subst L0
    refine rebase (d := 1) hs1 ?_
    refine rebase (d := 3) hs3 ?_
    clear hs1 hs3
    refine c_seq ?_
    refine c_seq ?_
    refine c_region ?_
    refine l_val (v := Nx (k)) rfl rfl rfl (e_move) ?_
    refine l_val (v := .pointer (some ⟨b1, 0, none⟩)) rfl rfl rfl (e_fieldPt (b := b1) (o := 0) rfl tf49) ?_
    refine l_val (v := .slice va (bs.length) (vc)) rfl rfl rfl (e_load1 tf50 (v := .slice va (bs.length) (vc)) rfl (k_pt 0 (cs := #[.slice va (bs.length) (vc), .slice rva (rs.length) (rvc), Ix (gx), Ix (gy)]) (vs := [.slice va (bs.length) (vc)]) rfl rfl)) ?_
    refine l_val (v := Nx (bs.length)) rfl rfl rfl (e_len (a := va) (n := bs.length) (c := vc) rfl tf40) ?_
    refine l_val (v := .bool (decide (((k : Nat) : Int) < ((bs.length : Nat) : Int)))) rfl rfl rfl (e_lss (a := ((k : Nat) : Int)) (b := ((bs.length : Nat) : Int)) rfl rfl) ?_
    refine l_nil ?_
    refine f_then ?_
    refine c_if (((k : Nat) : Int) < ((bs.length : Nat) : Int)) rfl (fun hc5 => ?_) (fun hc5 => ?_)
    ·
     refine c_skip ?_
     refine f_then ?_
     refine c_seq ?_
     refine c_block ?_
     refine c_seq ?_
     refine c_quiet (by kernel_rfl) (by kernel_rfl) ?_
     refine q_val (v := .pointer (some ⟨b1, 0, none⟩)) rfl rfl rfl (e_fieldPt (b := b1) (o := 0) rfl tf49) ?_
     refine q_val (v := .slice va (bs.length) (vc)) rfl rfl rfl (e_load1 tf50 (v := .slice va (bs.length) (vc)) rfl (k_pt 0 (cs := #[.slice va (bs.length) (vc), .slice rva (rs.length) (rvc), Ix (gx), Ix (gy)]) (vs := [.slice va (bs.length) (vc)]) rfl rfl)) ?_
     refine q_val (v := Nx (k)) rfl rfl rfl (e_move) ?_
     obtain ⟨x6, hx7⟩ : ∃ x_, (bs)[k]? = some x_ := ⟨_, List.getElem?_eq_getElem (by omega)⟩
     obtain ⟨ha8, cs9, hc10, rfl⟩ := ve _ _ hx7
     refine q_val (v := .pointer (some ((ba va).add (k * 9)))) rfl rfl rfl (e_indexAddr (k := k) (len := bs.length) (cap := vc) (a := va) rfl rfl tf43 (by omega) ha8) ?_
     refine q_val (v := .agg (bC x6)) rfl rfl rfl (e_load tf22 (cs := (bodyE x6)) rfl (Knows.of_base (Cs.mono _ _) hc10) rfl) ?_
     refine q_call (v := .bool (decide (okB x6))) rfl rfl rfl (cl_value (fst := []) (cap := []) (vs := [.agg (bC x6)]) (all := [.agg (bC x6)]) tf115 rfl rfl rfl) (fun w hw => ?_) ?_
     ·obtain ⟨β1, sb, kn, hw1, back⟩ := St.frame_all hw
      exact (valid5_ok β1 w hw1 x6).mono (fun e w' ⟨he, hw'⟩ => ⟨he, st_mask [true] rfl (back _ _ hw')⟩)
     refine q_val (v := .bool (decide (¬ (okB x6)))) rfl rfl rfl (e_not_p (p := okB x6) rfl) ?_
     refine q_val (v := .bool (decide (¬ (okB x6)))) rfl rfl rfl (e_move) ?_
     refine q_split (s := 36) (p := ¬ (okB x6)) rfl (fun hg12 => ?_) (fun hg12 => ?_)
     ·
      refine q_skip rfl rfl rfl rfl rfl rfl ?_
      refine q_skip rfl rfl rfl rfl rfl rfl ?_
      refine q_skip rfl rfl rfl rfl rfl rfl ?_
      refine q_skip_u rfl rfl rfl rfl rfl ?_
      refine q_skip_u rfl rfl rfl rfl rfl ?_
      refine q_skip_u rfl rfl rfl rfl rfl ?_
      refine q_skip_u rfl rfl rfl rfl rfl ?_
      refine q_skip_u rfl rfl rfl rfl rfl ?_
      refine q_skip_u rfl rfl rfl rfl rfl ?_
      refine q_skip_u rfl rfl rfl rfl rfl ?_
      refine q_skip_u rfl rfl rfl rfl rfl ?_
      refine q_skip_u rfl rfl rfl rfl rfl ?_
      refine q_skip_u rfl rfl rfl rfl rfl ?_
      refine q_skip_u rfl rfl rfl rfl rfl ?_
      refine q_skip_u rfl rfl rfl rfl rfl ?_
      refine q_skip_u rfl rfl rfl rfl rfl ?_
      refine q_skip_u rfl rfl rfl rfl rfl ?_
      refine q_skip rfl rfl rfl rfl rfl rfl ?_
      refine q_val (v := .bool true) rfl rfl rfl (e_pick_t rfl) ?_
      refine q_nil ?_
      refine f_then ?_
      refine c_yes rfl ?_
      refine c_seq ?_
      refine c_region ?_
      refine l_val (v := .bool false) rfl rfl rfl (e_assign) ?_
      refine l_nil ?_
      refine f_then ?_
      refine c_ret ?_
      refine f_block_ret ?_
      refine f_then_ret ?_
      refine f_then_ret ?_
      refine f_block_ret ?_
      refine f_then_ret ?_
      refine ret1 Tryz.results117 (v := .bool false) rfl ?_
      intro w hw
      exact ⟨congrArg (fun b : Bool => Ending.returned (.bool b)) (decide_eq_false fun h => hg12 (h.2.2.2.1 _ (List.mem_of_getElem? hx7))).symm, st_mask [false] rfl hw⟩
     ·
      have hok := Decidable.not_not.1 hg12
      refine qg_val (v := Nx (k)) rfl rfl rfl rfl rfl (e_move) ?_
      refine qg_val (v := .bool (decide ((0 : Int) < ((k : Nat) : Int)))) rfl rfl rfl rfl rfl (e_gtr (a := ((k : Nat) : Int)) (b := (0 : Int)) rfl rfl) ?_
      refine qg_val (v := .bool (decide ((0 : Int) < ((k : Nat) : Int)))) rfl rfl rfl rfl rfl (e_move) ?_
      refine q_split (s := 39) (p := (0 : Int) < ((k : Nat) : Int)) rfl (fun hg13 => ?_) (fun hg13 => ?_)
      ·
       have hk0 : 0 < k := by omega
       refine qg_val (v := .pointer (some ⟨b1, 0, none⟩)) rfl rfl rfl rfl rfl (e_fieldPt (b := b1) (o := 0) rfl tf49) ?_
       refine qg_val (v := .slice va (bs.length) (vc)) rfl rfl rfl rfl rfl (e_load1 tf50 (v := .slice va (bs.length) (vc)) rfl (k_pt 0 (cs := #[.slice va (bs.length) (vc), .slice rva (rs.length) (rvc), Ix (gx), Ix (gy)]) (vs := [.slice va (bs.length) (vc)]) rfl rfl)) ?_
       refine qg_val (v := Nx (k)) rfl rfl rfl rfl rfl (e_move) ?_
       refine qg_val (v := .pointer (some ((ba va).add (k * 9)))) rfl rfl rfl rfl rfl (e_indexAddr (k := k) (len := bs.length) (cap := vc) (a := va) rfl rfl tf43 (by omega) ha8) ?_
       refine qg_val (v := .pointer (some (((ba va).add (k * 9) : Addr).add 0))) rfl rfl rfl rfl rfl (e_fieldAddr (a := (ba va).add (k * 9)) rfl tf3) ?_
       refine qg_val (v := Ix (x6.id)) rfl rfl rfl rfl rfl (e_load1 tf2 (v := Ix (x6.id)) rfl (Knows.imp (Knows.of_base (Cs.mono _ _) hc10) (fun _ h => Cs.sub (vs := [Ix (x6.id)]) 0 h rfl))) ?_
       refine qg_val (v := .pointer (some ⟨b1, 0, none⟩)) rfl rfl rfl rfl rfl (e_fieldPt (b := b1) (o := 0) rfl tf49) ?_
       refine qg_val (v := .slice va (bs.length) (vc)) rfl rfl rfl rfl rfl (e_load1 tf50 (v := .slice va (bs.length) (vc)) rfl (k_pt 0 (cs := #[.slice va (bs.length) (vc), .slice rva (rs.length) (rvc), Ix (gx), Ix (gy)]) (vs := [.slice va (bs.length) (vc)]) rfl rfl)) ?_
       refine qg_val (v := Nx (k)) rfl rfl rfl rfl rfl (e_move) ?_
       refine qg_val (v := Nx (k - 1)) rfl rfl rfl rfl rfl (ev_eq (congrArg (Value.int .i64) (by omega)) (e_sub (a := ((k : Nat) : Int)) (b := (1 : Int)) rfl rfl (i64w (by omega)))) ?_
       obtain ⟨x14, hx15⟩ : ∃ x_, (bs)[k - 1]? = some x_ := ⟨_, List.getElem?_eq_getElem (by omega)⟩
       obtain ⟨ha16, cs17, hc18, rfl⟩ := ve _ _ hx15
       refine qg_val (v := .pointer (some ((ba va).add ((k - 1) * 9)))) rfl rfl rfl rfl rfl (e_indexAddr (k := k - 1) (len := bs.length) (cap := vc) (a := va) rfl rfl tf43 (by omega) ha16) ?_
       refine qg_val (v := .pointer (some (((ba va).add ((k - 1) * 9) : Addr).add 0))) rfl rfl rfl rfl rfl (e_fieldAddr (a := (ba va).add ((k - 1) * 9)) rfl tf3) ?_
       refine qg_val (v := Ix (x14.id)) rfl rfl rfl rfl rfl (e_load1 tf2 (v := Ix (x14.id)) rfl (Knows.imp (Knows.of_base (Cs.mono _ _) hc18) (fun _ h => Cs.sub (vs := [Ix (x14.id)]) 0 h rfl))) ?_
       refine qg_val (v := .bool (decide ((x6.id) ≤ (x14.id)))) rfl rfl rfl rfl rfl (e_leq (a := (x6.id)) (b := (x14.id)) rfl rfl) ?_
       refine qg_val (v := .bool (decide ((x6.id) ≤ (x14.id)))) rfl rfl rfl rfl rfl (e_pick_t rfl) ?_
       refine q_val (v := .bool (decide ((x6.id) ≤ (x14.id)))) rfl rfl rfl (e_pick_f rfl) ?_
       refine q_nil ?_
       refine f_then ?_
       refine c_if ((x6.id) ≤ (x14.id)) rfl (fun hc20 => ?_) (fun hc20 => ?_)
       ·
        refine c_seq ?_
        refine c_region ?_
        refine l_val (v := .bool false) rfl rfl rfl (e_assign) ?_
        refine l_nil ?_
        refine f_then ?_
        refine c_ret ?_
        refine f_block_ret ?_
        refine f_then_ret ?_
        refine f_then_ret ?_
        refine f_block_ret ?_
        refine f_then_ret ?_
        refine ret1 Tryz.results117 (v := .bool false) rfl ?_
        intro w hw
        exact ⟨congrArg (fun b : Bool => Ending.returned (.bool b)) (decide_eq_false fun h => absurd (h.2.2.2.2.1 (k - 1) x14 x6 hx15 (by rw [show k - 1 + 1 = k by omega]; exact hx7)) (by omega)).symm, st_mask [false] rfl hw⟩
       ·
        refine c_skip ?_
        refine f_block ?_
        refine f_then ?_
        refine c_region ?_
        refine l_val (v := Nx (k)) rfl rfl rfl (e_move) ?_
        refine l_val (v := Nx (k + 1)) rfl rfl rfl (e_add (a := ((k : Nat) : Int)) (b := (1 : Int)) rfl rfl (i64n (by omega) (by omega))) ?_
        refine l_val (v := Nx (k + 1)) rfl rfl rfl (e_assign) ?_
        refine l_nil ?_
        exact f_cut ⟨k + 1, ⟨⟨rfl, rfl⟩, rfl, ⟨by omega, okS_next hx7 hp1 hok, ord_next hx7 hp2 (fun _ z hz => by rw [hx15] at hz; injection hz with hz; rw [← hz]; omega)⟩⟩, (show bs.length - (k + 1) < bs.length - k from by omega)⟩
      ·
       refine q_skip rfl rfl rfl rfl rfl rfl ?_
       refine q_skip rfl rfl rfl rfl rfl rfl ?_
       refine q_skip rfl rfl rfl rfl rfl rfl ?_
       refine q_skip rfl rfl rfl rfl rfl rfl ?_
       refine q_skip rfl rfl rfl rfl rfl rfl ?_
       refine q_skip rfl rfl rfl rfl rfl rfl ?_
       refine q_skip rfl rfl rfl rfl rfl rfl ?_
       refine q_skip rfl rfl rfl rfl rfl rfl ?_
       refine q_skip rfl rfl rfl rfl rfl rfl ?_
       refine q_skip rfl rfl rfl rfl rfl rfl ?_
       refine q_skip rfl rfl rfl rfl rfl rfl ?_
       refine q_skip rfl rfl rfl rfl rfl rfl ?_
       refine q_skip rfl rfl rfl rfl rfl rfl ?_
       refine q_skip rfl rfl rfl rfl rfl rfl ?_
       refine qg_val (v := .bool false) rfl rfl rfl rfl rfl (e_pick_f rfl) ?_
       refine q_val (v := .bool false) rfl rfl rfl (e_pick_f rfl) ?_
       refine q_nil ?_
       refine f_then ?_
       refine c_no rfl ?_
       refine c_skip ?_
       refine f_block ?_
       refine f_then ?_
       refine c_region ?_
       refine l_val (v := Nx (k)) rfl rfl rfl (e_move) ?_
       refine l_val (v := Nx (k + 1)) rfl rfl rfl (e_add (a := ((k : Nat) : Int)) (b := (1 : Int)) rfl rfl (i64n (by omega) (by omega))) ?_
       refine l_val (v := Nx (k + 1)) rfl rfl rfl (e_assign) ?_
       refine l_nil ?_
       exact f_cut ⟨k + 1, ⟨⟨rfl, rfl⟩, rfl, ⟨by omega, okS_next hx7 hp1 hok, ord_next hx7 hp2 (fun hk' => absurd hk' (by omega))⟩⟩, (show bs.length - (k + 1) < bs.length - k from by omega)⟩
    ·
     refine c_exit ?_
     refine f_then_exit ?_
     refine f_then_exit ?_
     refine f_exit ?_
     refine f_then ?_
     refine c_seq ?_
     refine c_seq ?_
     refine c_region ?_
     refine l_val (v := .int .i64 (0)) rfl rfl rfl (e_assign) ?_
     refine l_nil ?_
     refine f_then ?_
     refine c_block ?_
     refine c_mask [true] rfl ?_
     refine c_loop (fun (j : Nat) (f : Fm) (L : List Res) => (f 1 = .pointer (some ⟨b1, 0, none⟩) ∧ f 4 = Nx (j)) ∧ L = [pt b1 (.cells #[.slice va (bs.length) (vc), .slice rva (rs.length) (rvc), Ix (gx), Ix (gy)] 30)] ∧ (j ≤ rs.length ∧ ∀ r ∈ rs.take j, okR bs r)) (fun (j : Nat) => rs.length - j) 0 ?_ ?_
     ·exact ⟨⟨rfl, rfl⟩, rfl, ⟨by omega, fun y hy => by simp at hy⟩⟩
     rintro j f0 L0 ⟨⟨hs1, hs4⟩, hL, ⟨hj, hp3⟩⟩
     subst L0
     refine rebase (d := 1) hs1 ?_
     refine rebase (d := 4) hs4 ?_
     clear hs1 hs4
     refine c_seq ?_
     refine c_seq ?_
     refine c_region ?_
     refine l_val (v := Nx (j)) rfl rfl rfl (e_move) ?_
     refine l_val (v := .pointer (some ⟨b1, 1, none⟩)) rfl rfl rfl (e_fieldPt (b := b1) (o := 0) rfl tf55) ?_
     refine l_val (v := .slice rva (rs.length) (rvc)) rfl rfl rfl (e_load1 tf56 (v := .slice rva (rs.length) (rvc)) rfl (k_pt 0 (cs := #[.slice va (bs.length) (vc), .slice rva (rs.length) (rvc), Ix (gx), Ix (gy)]) (vs := [.slice rva (rs.length) (rvc)]) rfl rfl)) ?_
     refine l_val (v := Nx (rs.length)) rfl rfl rfl (e_len (a := rva) (n := rs.length) (c := rvc) rfl tf45) ?_
     refine l_val (v := .bool (decide (((j : Nat) : Int) < ((rs.length : Nat) : Int)))) rfl rfl rfl (e_lss (a := ((j : Nat) : Int)) (b := ((rs.length : Nat) : Int)) rfl rfl) ?_
     refine l_nil ?_
     refine f_then ?_
     refine c_if (((j : Nat) : Int) < ((rs.length : Nat) : Int)) rfl (fun hc21 => ?_) (fun hc21 => ?_)
     ·
      refine c_skip ?_
      refine f_then ?_
      refine c_seq ?_
      refine c_block ?_
      refine c_seq ?_
      refine c_region ?_
      refine l_val (v := .pointer (some ⟨b1, 1, none⟩)) rfl rfl rfl (e_fieldPt (b := b1) (o := 0) rfl tf55) ?_
      refine l_val (v := .slice rva (rs.length) (rvc)) rfl rfl rfl (e_load1 tf56 (v := .slice rva (rs.length) (rvc)) rfl (k_pt 0 (cs := #[.slice va (bs.length) (vc), .slice rva (rs.length) (rvc), Ix (gx), Ix (gy)]) (vs := [.slice rva (rs.length) (rvc)]) rfl rfl)) ?_
      refine l_val (v := Nx (j)) rfl rfl rfl (e_move) ?_
      obtain ⟨x22, hx23⟩ : ∃ x_, (rs)[j]? = some x_ := ⟨_, List.getElem?_eq_getElem (by omega)⟩
      obtain ⟨ha24, cs25, hc26, rfl⟩ := rve _ _ hx23
      refine l_val (v := .pointer (some ((ba rva).add (j * 3)))) rfl rfl rfl (e_indexAddr (k := j) (len := rs.length) (cap := rvc) (a := rva) rfl rfl tf46 (by omega) ha24) ?_
      refine l_val (v := .agg #[Ix (x22.a), Ix (x22.b), Ix (x22.len)]) rfl rfl rfl (e_load tf47 (cs := [Ix (x22.a), Ix (x22.b), Ix (x22.len)]) rfl (Knows.of_base (Cs.mono _ _) hc26) rfl) ?_
      refine l_mv rfl rfl rfl (m_alloc tf77) ?_
      rintro _ _ ⟨b28, rfl, rfl⟩
      refine l_mu rfl rfl (m_store 0 tf47 (b := b28) (o := 0) (T := 78) (cs := #[.int .i64 (0), .int .i64 (0), .int .i64 (0)]) (cs' := #[Ix (x22.a), Ix (x22.b), Ix (x22.len)]) (v := .agg #[Ix (x22.a), Ix (x22.b), Ix (x22.len)]) rfl rfl rfl rfl rfl rfl rfl) ?_
      refine l_nil ?_
      refine f_then ?_
      refine c_seq ?_
      refine c_region ?_
      refine l_val (v := .pointer (some ⟨b28, 0, none⟩)) rfl rfl rfl (e_fieldPt (b := b28) (o := 0) rfl tf51) ?_
      refine l_val (v := Ix (x22.a)) rfl rfl rfl (e_load1 tf2 (v := Ix (x22.a)) rfl (k_pt 0 (cs := #[Ix (x22.a), Ix (x22.b), Ix (x22.len)]) (vs := [Ix (x22.a)]) rfl rfl)) ?_
      refine l_val (v := .pointer (some ⟨b28, 1, none⟩)) rfl rfl rfl (e_fieldPt (b := b28) (o := 0) rfl tf53) ?_
      refine l_val (v := Ix (x22.b)) rfl rfl rfl (e_load1 tf2 (v := Ix (x22.b)) rfl (k_pt 0 (cs := #[Ix (x22.a), Ix (x22.b), Ix (x22.len)]) (vs := [Ix (x22.b)]) rfl rfl)) ?_
      refine l_val (v := .bool (decide ((x22.b) ≤ (x22.a)))) rfl rfl rfl (e_geq (a := (x22.a)) (b := (x22.b)) rfl rfl) ?_
      refine l_val (v := .bool (decide ((x22.b) ≤ (x22.a)))) rfl rfl rfl (e_move) ?_
      refine l_split (s := 73) (p := (x22.b) ≤ (x22.a)) rfl (fun hg29 => ?_) (fun hg29 => ?_)
      ·
       refine l_skip rfl rfl rfl rfl rfl rfl ?_
       refine l_skip rfl rfl rfl rfl rfl rfl ?_
       refine l_skip rfl rfl rfl rfl rfl rfl ?_
       refine l_skip rfl rfl rfl rfl rfl rfl ?_
       refine l_skip rfl rfl rfl rfl rfl rfl ?_
       refine l_skip rfl rfl rfl rfl rfl rfl ?_
       refine l_val (v := .bool true) rfl rfl rfl (e_pick_t rfl) ?_
       refine l_val (v := .bool true) rfl rfl rfl (e_move) ?_
       refine l_skip rfl rfl rfl rfl rfl rfl ?_
       refine l_skip rfl rfl rfl rfl rfl rfl ?_
       refine l_skip rfl rfl rfl rfl rfl rfl ?_
       refine l_skip rfl rfl rfl rfl rfl rfl ?_
       refine l_skip rfl rfl rfl rfl rfl rfl ?_
       refine l_skip rfl rfl rfl rfl rfl rfl ?_
       refine l_val (v := .bool true) rfl rfl rfl (e_pick_t rfl) ?_
       refine l_val (v := .bool true) rfl rfl rfl (e_move) ?_
       refine l_skip rfl rfl rfl rfl rfl rfl ?_
       refine l_skip rfl rfl rfl rfl rfl rfl ?_
       refine l_skip rfl rfl rfl rfl rfl rfl ?_
       refine l_val (v := .bool true) rfl rfl rfl (e_pick_t rfl) ?_
       refine l_val (v := .bool true) rfl rfl rfl (e_move) ?_
       refine l_skip rfl rfl rfl rfl rfl rfl ?_
       refine l_skip rfl rfl rfl rfl rfl rfl ?_
       refine l_skip rfl rfl rfl rfl rfl rfl ?_
       refine l_val (v := .bool true) rfl rfl rfl (e_pick_t rfl) ?_
       refine l_nil ?_
       refine f_then ?_
       refine c_yes rfl ?_
       refine c_seq ?_
       refine c_region ?_
       refine l_val (v := .bool false) rfl rfl rfl (e_assign) ?_
       refine l_nil ?_
       refine f_then ?_
       refine c_ret ?_
       refine f_block_ret ?_
       refine f_then_ret ?_
       refine f_then_ret ?_
       refine f_block_ret ?_
       refine f_then_ret ?_
       refine ret1 Tryz.results117 (v := .bool false) rfl ?_
       intro w hw
       exact ⟨congrArg (fun b : Bool => Ending.returned (.bool b)) (decide_eq_false fun h => by obtain ⟨q1, q2, q3, q4, q5⟩ := h.2.2.2.2.2 _ (List.mem_of_getElem? hx23); omega).symm, st_mask [false, false] rfl hw⟩
      ·
       refine g_val (v := .pointer (some ⟨b1, 0, none⟩)) rfl rfl rfl rfl rfl (e_fieldPt (b := b1) (o := 0) rfl tf49) ?_
       refine g_val (v := .slice va (bs.length) (vc)) rfl rfl rfl rfl rfl (e_load1 tf50 (v := .slice va (bs.length) (vc)) rfl (k_pt 1 (cs := #[.slice va (bs.length) (vc), .slice rva (rs.length) (rvc), Ix (gx), Ix (gy)]) (vs := [.slice va (bs.length) (vc)]) rfl rfl)) ?_
       refine g_val (v := .pointer (some ⟨b28, 0, none⟩)) rfl rfl rfl rfl rfl (e_fieldPt (b := b28) (o := 0) rfl tf51) ?_
       refine g_val (v := Ix (x22.a)) rfl rfl rfl rfl rfl (e_load1 tf2 (v := Ix (x22.a)) rfl (k_pt 0 (cs := #[Ix (x22.a), Ix (x22.b), Ix (x22.len)]) (vs := [Ix (x22.a)]) rfl rfl)) ?_
       refine g_call rfl rfl rfl rfl rfl (cl_value (fst := []) (cap := []) (vs := [.slice va (bs.length) (vc), Ix (x22.a)]) (all := [.slice va (bs.length) (vc), Ix (x22.a)]) tf122 rfl rfl rfl) ?_
       intro w hw
       obtain ⟨β1, sb, kn, hw1, back⟩ := St.frame_all hw
       refine (find7_ok β1 w hw1 _ bs (Sl.mono _ _ _ _ _ sb (⟨⟨_, _, rfl, vl, vm, ve⟩⟩ : Sl KBR _ _ bs)) (x22.a)).mono ?_
       rintro e w' ⟨rfl, hw'⟩
       refine ⟨_, rfl, _, back _ _ hw', ?_⟩
       clear hw hw1 hw' back kn sb
       refine g_val (v := .bool (decide ((idxI (fun y : KB => decide (y.id = (x22.a))) bs) < (0 : Int)))) rfl rfl rfl rfl rfl (e_lss (a := (idxI (fun y : KB => decide (y.id = (x22.a))) bs)) (b := (0 : Int)) rfl rfl) ?_
       refine l_val (v := .bool (decide ((idxI (fun y : KB => decide (y.id = (x22.a))) bs) < (0 : Int)))) rfl rfl rfl (e_pick_f rfl) ?_
       refine l_val (v := .bool (decide ((idxI (fun y : KB => decide (y.id = (x22.a))) bs) < (0 : Int)))) rfl rfl rfl (e_move) ?_
       refine l_split (s := 81) (p := (idxI (fun y : KB => decide (y.id = (x22.a))) bs) < (0 : Int)) rfl (fun hg30 => ?_) (fun hg30 => ?_)
       ·
        refine l_skip rfl rfl rfl rfl rfl rfl ?_
        refine l_skip rfl rfl rfl rfl rfl rfl ?_
        refine l_skip rfl rfl rfl rfl rfl rfl ?_
        refine l_skip rfl rfl rfl rfl rfl rfl ?_
        refine l_skip rfl rfl rfl rfl rfl rfl ?_
        refine l_skip rfl rfl rfl rfl rfl rfl ?_
        refine l_val (v := .bool true) rfl rfl rfl (e_pick_t rfl) ?_
        refine l_val (v := .bool true) rfl rfl rfl (e_move) ?_
        refine l_skip rfl rfl rfl rfl rfl rfl ?_
        refine l_skip rfl rfl rfl rfl rfl rfl ?_
        refine l_skip rfl rfl rfl rfl rfl rfl ?_
        refine l_val (v := .bool true) rfl rfl rfl (e_pick_t rfl) ?_
        refine l_val (v := .bool true) rfl rfl rfl (e_move) ?_
        refine l_skip rfl rfl rfl rfl rfl rfl ?_
        refine l_skip rfl rfl rfl rfl rfl rfl ?_
        refine l_skip rfl rfl rfl rfl rfl rfl ?_
        refine l_val (v := .bool true) rfl rfl rfl (e_pick_t rfl) ?_
        refine l_nil ?_
        refine f_then ?_
        refine c_yes rfl ?_
        refine c_seq ?_
        refine c_region ?_
        refine l_val (v := .bool false) rfl rfl rfl (e_assign) ?_
        refine l_nil ?_
        refine f_then ?_
        refine c_ret ?_
        refine f_block_ret ?_
        refine f_then_ret ?_
        refine f_then_ret ?_
        refine f_block_ret ?_
        refine f_then_ret ?_
        refine ret1 Tryz.results117 (v := .bool false) rfl ?_
        intro w hw
        exact ⟨congrArg (fun b : Bool => Ending.returned (.bool b)) (decide_eq_false fun h => by obtain ⟨q1, q2, q3, q4, q5⟩ := h.2.2.2.2.2 _ (List.mem_of_getElem? hx23); rw [idx_neg.1 hg30] at q1; cases q1).symm, st_mask [false, false] rfl hw⟩
       ·
        refine g_val (v := .pointer (some ⟨b1, 0, none⟩)) rfl rfl rfl rfl rfl (e_fieldPt (b := b1) (o := 0) rfl tf49) ?_
        refine g_val (v := .slice va (bs.length) (vc)) rfl rfl rfl rfl rfl (e_load1 tf50 (v := .slice va (bs.length) (vc)) rfl (k_pt 1 (cs := #[.slice va (bs.length) (vc), .slice rva (rs.length) (rvc), Ix (gx), Ix (gy)]) (vs := [.slice va (bs.length) (vc)]) rfl rfl)) ?_
        refine g_val (v := .pointer (some ⟨b28, 1, none⟩)) rfl rfl rfl rfl rfl (e_fieldPt (b := b28) (o := 0) rfl tf53) ?_
        refine g_val (v := Ix (x22.b)) rfl rfl rfl rfl rfl (e_load1 tf2 (v := Ix (x22.b)) rfl (k_pt 0 (cs := #[Ix (x22.a), Ix (x22.b), Ix (x22.len)]) (vs := [Ix (x22.b)]) rfl rfl)) ?_
        refine g_call rfl rfl rfl rfl rfl (cl_value (fst := []) (cap := []) (vs := [.slice va (bs.length) (vc), Ix (x22.b)]) (all := [.slice va (bs.length) (vc), Ix (x22.b)]) tf122 rfl rfl rfl) ?_
        intro w hw
        obtain ⟨β1, sb, kn, hw1, back⟩ := St.frame_all hw
        refine (find7_ok β1 w hw1 _ bs (Sl.mono _ _ _ _ _ sb (⟨⟨_, _, rfl, vl, vm, ve⟩⟩ : Sl KBR _ _ bs)) (x22.b)).mono ?_
        rintro e w' ⟨rfl, hw'⟩
        refine ⟨_, rfl, _, back _ _ hw', ?_⟩
        clear hw hw1 hw' back kn sb
        refine g_val (v := .bool (decide ((idxI (fun y : KB => decide (y.id = (x22.b))) bs) < (0 : Int)))) rfl rfl rfl rfl rfl (e_lss (a := (idxI (fun y : KB => decide (y.id = (x22.b))) bs)) (b := (0 : Int)) rfl rfl) ?_
        refine l_val (v := .bool (decide ((idxI (fun y : KB => decide (y.id = (x22.b))) bs) < (0 : Int)))) rfl rfl rfl (e_pick_f rfl) ?_
        refine l_val (v := .bool (decide ((idxI (fun y : KB => decide (y.id = (x22.b))) bs) < (0 : Int)))) rfl rfl rfl (e_move) ?_
        refine l_split (s := 89) (p := (idxI (fun y : KB => decide (y.id = (x22.b))) bs) < (0 : Int)) rfl (fun hg31 => ?_) (fun hg31 => ?_)
        ·
         refine l_skip rfl rfl rfl rfl rfl rfl ?_
         refine l_skip rfl rfl rfl rfl rfl rfl ?_
         refine l_skip rfl rfl rfl rfl rfl rfl ?_
         refine l_val (v := .bool true) rfl rfl rfl (e_pick_t rfl) ?_
         refine l_val (v := .bool true) rfl rfl rfl (e_move) ?_
         refine l_skip rfl rfl rfl rfl rfl rfl ?_
         refine l_skip rfl rfl rfl rfl rfl rfl ?_
         refine l_skip rfl rfl rfl rfl rfl rfl ?_
         refine l_val (v := .bool true) rfl rfl rfl (e_pick_t rfl) ?_
         refine l_nil ?_
         refine f_then ?_
         refine c_yes rfl ?_
         refine c_seq ?_
         refine c_region ?_
         refine l_val (v := .bool false) rfl rfl rfl (e_assign) ?_
         refine l_nil ?_
         refine f_then ?_
         refine c_ret ?_
         refine f_block_ret ?_
         refine f_then_ret ?_
         refine f_then_ret ?_
         refine f_block_ret ?_
         refine f_then_ret ?_
         refine ret1 Tryz.results117 (v := .bool false) rfl ?_
         intro w hw
         exact ⟨congrArg (fun b : Bool => Ending.returned (.bool b)) (decide_eq_false fun h => by obtain ⟨q1, q2, q3, q4, q5⟩ := h.2.2.2.2.2 _ (List.mem_of_getElem? hx23); rw [idx_neg.1 hg31] at q2; cases q2).symm, st_mask [false, false] rfl hw⟩
        ·
         refine g_val (v := .pointer (some ⟨b28, 2, none⟩)) rfl rfl rfl rfl rfl (e_fieldPt (b := b28) (o := 0) rfl tf54) ?_
         refine g_val (v := Ix (x22.len)) rfl rfl rfl rfl rfl (e_load1 tf2 (v := Ix (x22.len)) rfl (k_pt 0 (cs := #[Ix (x22.a), Ix (x22.b), Ix (x22.len)]) (vs := [Ix (x22.len)]) rfl rfl)) ?_
         refine g_val (v := .bool (decide ((x22.len) < (0 : Int)))) rfl rfl rfl rfl rfl (e_lss (a := (x22.len)) (b := (0 : Int)) rfl rfl) ?_
         refine l_val (v := .bool (decide ((x22.len) < (0 : Int)))) rfl rfl rfl (e_pick_f rfl) ?_
         refine l_val (v := .bool (decide ((x22.len) < (0 : Int)))) rfl rfl rfl (e_move) ?_
         refine l_split (s := 94) (p := (x22.len) < (0 : Int)) rfl (fun hg32 => ?_) (fun hg32 => ?_)
         ·
          refine l_skip rfl rfl rfl rfl rfl rfl ?_
          refine l_skip rfl rfl rfl rfl rfl rfl ?_
          refine l_skip rfl rfl rfl rfl rfl rfl ?_
          refine l_val (v := .bool true) rfl rfl rfl (e_pick_t rfl) ?_
          refine l_nil ?_
          refine f_then ?_
          refine c_yes rfl ?_
          refine c_seq ?_
          refine c_region ?_
          refine l_val (v := .bool false) rfl rfl rfl (e_assign) ?_
          refine l_nil ?_
          refine f_then ?_
          refine c_ret ?_
          refine f_block_ret ?_
          refine f_then_ret ?_
          refine f_then_ret ?_
          refine f_block_ret ?_
          refine f_then_ret ?_
          refine ret1 Tryz.results117 (v := .bool false) rfl ?_
          intro w hw
          exact ⟨congrArg (fun b : Bool => Ending.returned (.bool b)) (decide_eq_false fun h => by obtain ⟨q1, q2, q3, q4, q5⟩ := h.2.2.2.2.2 _ (List.mem_of_getElem? hx23); omega).symm, st_mask [false, false] rfl hw⟩
         ·
          refine g_val (v := .pointer (some ⟨b28, 2, none⟩)) rfl rfl rfl rfl rfl (e_fieldPt (b := b28) (o := 0) rfl tf54) ?_
          refine g_val (v := Ix (x22.len)) rfl rfl rfl rfl rfl (e_load1 tf2 (v := Ix (x22.len)) rfl (k_pt 0 (cs := #[Ix (x22.a), Ix (x22.b), Ix (x22.len)]) (vs := [Ix (x22.len)]) rfl rfl)) ?_
          refine g_val (v := .bool (decide ((2097152 : Int) < (x22.len)))) rfl rfl rfl rfl rfl (e_gtr (a := (x22.len)) (b := (2097152 : Int)) rfl rfl) ?_
          refine l_val (v := .bool (decide ((2097152 : Int) < (x22.len)))) rfl rfl rfl (e_pick_f rfl) ?_
          refine l_nil ?_
          refine f_then ?_
          refine c_if ((2097152 : Int) < (x22.len)) rfl (fun hc33 => ?_) (fun hc33 => ?_)
          ·
           refine c_seq ?_
           refine c_region ?_
           refine l_val (v := .bool false) rfl rfl rfl (e_assign) ?_
           refine l_nil ?_
           refine f_then ?_
           refine c_ret ?_
           refine f_block_ret ?_
           refine f_then_ret ?_
           refine f_then_ret ?_
           refine f_block_ret ?_
           refine f_then_ret ?_
           refine ret1 Tryz.results117 (v := .bool false) rfl ?_
           intro w hw
           exact ⟨congrArg (fun b : Bool => Ending.returned (.bool b)) (decide_eq_false fun h => by obtain ⟨q1, q2, q3, q4, q5⟩ := h.2.2.2.2.2 _ (List.mem_of_getElem? hx23); omega).symm, st_mask [false, false] rfl hw⟩
          ·
           refine c_skip ?_
           refine f_block ?_
           refine f_then ?_
           refine c_region ?_
           refine l_val (v := Nx (j)) rfl rfl rfl (e_move) ?_
           refine l_val (v := Nx (j + 1)) rfl rfl rfl (e_add (a := ((j : Nat) : Int)) (b := (1 : Int)) rfl rfl (i64n (by omega) (by omega))) ?_
           refine l_val (v := Nx (j + 1)) rfl rfl rfl (e_assign) ?_
           refine l_nil ?_
           refine f_mask (L' := [pt b1 (.cells #[.slice va (bs.length) (vc), .slice rva (rs.length) (rvc), Ix (gx), Ix (gy)] 30)]) [false, true] rfl ?_
           exact f_cut ⟨j + 1, ⟨⟨rfl, rfl⟩, rfl, ⟨by omega, al_next hx23 hp3 (show okR bs x22 from ⟨idx_pos hg30, idx_pos hg31, by omega, by omega, by omega⟩)⟩⟩, (show rs.length - (j + 1) < rs.length - j from by omega)⟩
     ·
      refine c_exit ?_
      refine f_then_exit ?_
      refine f_then_exit ?_
      refine f_exit ?_
      refine f_then ?_
      refine c_seq ?_
      refine c_region ?_
      refine l_val (v := .bool true) rfl rfl rfl (e_assign) ?_
      refine l_nil ?_
      refine f_then ?_
      refine c_ret ?_
      refine ret1 Tryz.results117 (v := .bool true) rfl ?_
      intro w hw
      exact ⟨congrArg (fun b : Bool => Ending.returned (.bool b)) (decide_eq_true (show okS bs rs gx gy from ⟨by omega, by omega, hov, ok_all (by omega) hp1, ord_all (by omega) hp2, al_all (by omega) hp3⟩)).symm, st_mask [false] rfl hw⟩
theorem moveU_ok (β : Base) (w : World) (hw : St β [] w) (v rv : Value) (gx gy : Int) (bs : List KB) (rs : List KR) (hs : Sl KBR β.heap v bs) (hr : Sl KRR β.heap rv rs) (ho : ordB bs) (hbs : ∀ o ∈ bs, okB o) (hrs : ∀ r ∈ rs, okR bs r) (k : Nat) (b : KB) (hk : bs[k]? = some b) (y : Bool) (al : UInt8) (hal : al = if y then 2 else 1) (n : Int) (hn : -4096 ≤ n ∧ n ≤ 4096) (u : Nat × Option Int) (hu : runM bs rs b y n = u) (C : KB) (hC : sh y b (sgn n * (u.1 : Nat)) = C) : Calls Tryz.prog 118 #[.agg #[v, rv, Ix gx, Ix gy], Nx k, Bx al, Ix n] w fun r w' => r = .returned (.tuple #[.agg (bC C), .bool u.2.isSome, Ix (u.2.getD 0)]) ∧ St β [] w' := by
 subst hC
 subst hu
 exact move8_ok β w hw v rv gx gy bs rs hs hr ho hbs hrs k b hk y al hal n hn
set_option maxHeartbeats 4000000 in
theorem step8_ok (β : Base) (w : World) (hw : St β [] w) (v rv : Value) (gx gy : Int) (bs : List KB) (rs : List KR) (hs : Sl KBR β.heap v bs) (hr : Sl KRR β.heap rv rs) : Calls Tryz.prog 75 #[.agg #[v, rv, Ix gx, Ix gy]] w fun r w' => (okS bs rs gx gy ∧ ∃ p1 c1 p2 c2 sp sc, r = .returned (.tuple #[.agg #[.slice p1 bs.length c1, .slice p2 rs.length c2, Ix gx, Ix gy], .slice sp (stepsTo rs gx gy bs bs.length).2.length sc, .int .i64 (0)]) ∧ St β [rowF BodyF 52 p1 c1 (stepsTo rs gx gy bs bs.length).1, rowF RopeF 78 p2 c2 rs, rowF StopF 55 sp sc (stepsTo rs gx gy bs bs.length).2] w') ∨ (¬ okS bs rs gx gy ∧ r = .returned (.tuple #[.agg #[.slice none 0 0, .slice none 0 0, .int .i64 (0), .int .i64 (0)], .slice none 0 0, .int .i64 (2)]) ∧ St β [] w') := by
 obtain ⟨va, vc, rfl, vl, vm, ve⟩ := hs.get
 obtain ⟨rva, rvc, rfl, rvl, rvm, rve⟩ := hr.get
 refine enter (n := 103) Tryz.func75 rfl Tryz.ntmps75 rfl ?_ hw
 refine c_seq ?_
 refine c_region ?_
 refine l_mv rfl rfl rfl (m_box (v := .agg #[.slice va (bs.length) (vc), .slice rva (rs.length) (rvc), Ix (gx), Ix (gy)]) rfl) ?_
 rintro _ _ ⟨b1, rfl, rfl⟩
 refine l_mv rfl rfl rfl (m_alloc tf85) ?_
 rintro _ _ ⟨b2, rfl, rfl⟩
 refine l_val (v := .slice none 0 0) rfl rfl rfl (e_assign) ?_
 refine l_val (v := .int .i64 (0)) rfl rfl rfl (e_assign) ?_
 refine l_nil ?_
 refine f_then ?_
 refine c_seq ?_
 refine c_seq ?_
 refine c_region ?_
 refine l_val (v := .agg #[.slice va (bs.length) (vc), .slice rva (rs.length) (rvc), Ix (gx), Ix (gy)]) rfl rfl rfl (e_load tf86 (cs := [.slice va (bs.length) (vc), .slice rva (rs.length) (rvc), Ix (gx), Ix (gy)]) rfl (k_pt 1 (cs := #[.slice va (bs.length) (vc), .slice rva (rs.length) (rvc), Ix (gx), Ix (gy)]) (vs := [.slice va (bs.length) (vc), .slice rva (rs.length) (rvc), Ix (gx), Ix (gy)]) rfl rfl) rfl) ?_
 refine l_call rfl rfl rfl (cl_value (fst := []) (cap := []) (vs := [.agg #[.slice va (bs.length) (vc), .slice rva (rs.length) (rvc), Ix (gx), Ix (gy)]]) (all := [.agg #[.slice va (bs.length) (vc), .slice rva (rs.length) (rvc), Ix (gx), Ix (gy)]]) tf128 rfl rfl rfl) ?_
 intro w hw
 obtain ⟨β1, sb, kn, hw1, back⟩ := St.frame_all hw
 refine (valid7_ok β1 w hw1 _ _ gx gy bs rs (Sl.mono _ _ _ _ _ sb (⟨⟨_, _, rfl, vl, vm, ve⟩⟩ : Sl KBR _ _ bs)) (Sl.mono _ _ _ _ _ sb (⟨⟨_, _, rfl, rvl, rvm, rve⟩⟩ : Sl KRR _ _ rs))).mono ?_
 rintro e w' ⟨rfl, hw'⟩
 refine ⟨_, rfl, _, back _ _ hw', ?_⟩
 clear hw hw1 hw' back kn sb
 refine l_val (v := .bool (decide (¬ (okS bs rs gx gy)))) rfl rfl rfl (e_not_p (p := okS bs rs gx gy) rfl) ?_
 refine l_nil ?_
 refine f_then ?_
 refine c_if (¬ (okS bs rs gx gy)) rfl (fun hc3 => ?_) (fun hc3 => ?_)
 ·
  refine c_seq ?_
  refine c_region ?_
  refine l_val (v := .agg #[.slice none 0 0, .slice none 0 0, .int .i64 (0), .int .i64 (0)]) rfl rfl rfl (e_build tf85 tf88 (vs := []) (cells := #[.slice none 0 0, .slice none 0 0, .int .i64 (0), .int .i64 (0)]) rfl rfl) ?_
  refine l_mu rfl rfl (m_store 0 tf86 (b := b2) (o := 0) (T := 30) (cs := #[.slice none 0 0, .slice none 0 0, .int .i64 (0), .int .i64 (0)]) (cs' := #[.slice none 0 0, .slice none 0 0, .int .i64 (0), .int .i64 (0)]) (v := .agg #[.slice none 0 0, .slice none 0 0, .int .i64 (0), .int .i64 (0)]) rfl rfl rfl rfl rfl rfl rfl) ?_
  refine l_val (v := .slice none 0 0) rfl rfl rfl (e_assign) ?_
  refine l_val (v := .int .i64 (2)) rfl rfl rfl (e_assign) ?_
  refine l_nil ?_
  refine f_then ?_
  refine c_ret ?_
  refine f_then_ret ?_
  refine retG (l := [.cell 2 30, .tmp 3, .tmp 4]) (m := [.agg #[.slice none 0 0, .slice none 0 0, .int .i64 (0), .int .i64 (0)], .slice none 0 0, .int .i64 (2)]) (v := .tuple #[.agg #[.slice none 0 0, .slice none 0 0, .int .i64 (0), .int .i64 (0)], .slice none 0 0, .int .i64 (2)]) Tryz.results75 ⟨rd_cell tf86 (cs := [.slice none 0 0, .slice none 0 0, .int .i64 (0), .int .i64 (0)]) rfl (k_pt 0 (cs := #[.slice none 0 0, .slice none 0 0, .int .i64 (0), .int .i64 (0)]) (vs := [.slice none 0 0, .slice none 0 0, .int .i64 (0), .int .i64 (0)]) rfl rfl) rfl, rd_tmp (v := .slice none 0 0) rfl, rd_tmp (v := .int .i64 (2)) rfl, trivial⟩ rfl ?_
  intro w hw
  exact .inr ⟨hc3, rfl, st_mask [false, false] rfl hw⟩
 ·
  refine c_skip ?_
  refine f_then ?_
  refine c_seq ?_
  have hok := Decidable.not_not.1 hc3
  obtain ⟨o1, o2, o3, o4, o5, o6⟩ := hok
  refine c_any [⟨[], [], [], [19], fun f => f 19 = .slice (some ⟨(blk (f 19)), 0, none⟩) 0 0⟩, ⟨[], [], [0], [20], fun f => f 20 = .pointer (some ⟨b1, 0, none⟩)⟩, ⟨[1], [1], [], [21], fun f => f 21 = .slice va (bs.length) (vc)⟩, ⟨[0, 1, 2], [0, 2], [], [22], fun f => f 22 = .slice (sla (f 22)) (bs.length) (slc (f 22))⟩, ⟨[], [], [], [23], fun f => f 23 = .slice (some ⟨(blk (f 23)), 0, none⟩) 0 0⟩, ⟨[], [], [0], [24], fun f => f 24 = .pointer (some ⟨b1, 1, none⟩)⟩, ⟨[5], [5], [], [25], fun f => f 25 = .slice rva (rs.length) (rvc)⟩, ⟨[0, 1, 2, 3, 4, 5, 6], [4, 6], [], [26], fun f => f 26 = .slice (sla (f 26)) (rs.length) (slc (f 26))⟩, ⟨[], [], [0], [27], fun f => f 27 = .pointer (some ⟨b1, 2, none⟩)⟩, ⟨[8], [8], [], [28], fun f => f 28 = .agg #[Ix (gx), Ix (gy)]⟩, ⟨[0, 1, 2, 3, 4, 5, 6, 7, 8, 9], [3, 7, 9], [], [22, 26, 29], fun f => f 29 = .agg #[.slice (sla (f 22)) (bs.length) (slc (f 22)), .slice (sla (f 26)) (rs.length) (slc (f 26)), Ix (gx), Ix (gy)]⟩, ⟨[], [], [], [5], fun f => f 5 = .pointer (some ⟨(blk (f 5)), 0, none⟩)⟩, ⟨[0, 1, 2, 3, 4, 5, 6, 7, 8, 9, 10, 11], [11, 10], [], [], fun _ => True⟩] [⟨none, none, [], [], fun _ => pt b2 (.cells #[.slice none 0 0, .slice none 0 0, .int .i64 (0), .int .i64 (0)] 30)⟩, ⟨none, none, [2, 6, 9], [], fun _ => pt b1 (.cells #[.slice va (bs.length) (vc), .slice rva (rs.length) (rvc), Ix (gx), Ix (gy)] 30)⟩, ⟨(some 0), (some 3), [3], [19], fun f => pt (blk (f 19)) (.cells #[] 52)⟩, ⟨(some 3), none, [], [22], fun f => rowF BodyF 52 (sla (f 22)) (slc (f 22)) bs⟩, ⟨(some 4), (some 7), [7], [23], fun f => pt (blk (f 23)) (.cells #[] 78)⟩, ⟨(some 7), none, [], [26], fun f => rowF RopeF 78 (sla (f 26)) (slc (f 26)) rs⟩, ⟨(some 11), (some 12), [12], [5], fun f => pt (blk (f 5)) (.cells #[.slice none 0 0, .slice none 0 0, .int .i64 (0), .int .i64 (0)] 30)⟩, ⟨(some 12), none, [], [5, 22, 26], fun f => pt (blk (f 5)) (.cells #[.slice (sla (f 22)) (bs.length) (slc (f 22)), .slice (sla (f 26)) (rs.length) (slc (f 26)), Ix (gx), Ix (gy)] 30)⟩] [(1, .pointer (some ⟨b1, 0, none⟩)), (2, .pointer (some ⟨b2, 0, none⟩))] [0, 1] [] (by kernel_rfl) (by kernel_rfl) (by kernel_rfl) (by kernel_rfl) rfl ⟨rfl, rfl, trivial⟩ ⟨?_, ?_, ?_, ?_, ?_, ?_, ?_, ?_, ?_, ?_, ?_, ?_, ?_, trivial⟩ ?_
  ·rintro f M - -
   refine ob_start (L' := M) (by rfl) rfl ?_
   refine l_mv rfl rfl rfl (m_slice0 tf43) ?_
   rintro _ _ ⟨b5, rfl, rfl⟩
   refine l_nil ?_
   exact f_owes_d rfl rfl (perm_front 0 rfl)
  ·rintro f M - ⟨i0, -⟩
   have hs1 : f 1 = .pointer (some ⟨b1, 0, none⟩) := i0
   refine ob_start (L' := M) (by rfl) (up_cons rfl hs1) ?_
   refine l_val (v := .pointer (some ⟨b1, 0, none⟩)) rfl rfl rfl (e_fieldPt (b := b1) (o := 0) rfl tf49) ?_
   refine l_nil ?_
   exact f_owes_d (up_cons rfl hs1) rfl (List.Perm.refl _)
  ·rintro f M ⟨k0, -⟩ -
   have hs20 : f 20 = .pointer (some ⟨b1, 0, none⟩) := k0
   refine ob_start (L' := pt b1 (.cells #[.slice va (bs.length) (vc), .slice rva (rs.length) (rvc), Ix (gx), Ix (gy)] 30) :: M) (by rfl) (up_cons rfl hs20) ?_
   refine l_val (v := .slice va (bs.length) (vc)) rfl rfl rfl (e_load1 tf50 (v := .slice va (bs.length) (vc)) rfl (k_pt 0 (cs := #[.slice va (bs.length) (vc), .slice rva (rs.length) (rvc), Ix (gx), Ix (gy)]) (vs := [.slice va (bs.length) (vc)]) rfl rfl)) ?_
   refine l_nil ?_
   exact f_owes_d (up_cons rfl hs20) rfl (perm_front 0 rfl)
  ·rintro f M ⟨k0, k1, -⟩ -
   have hs19 : f 19 = .slice (some ⟨(blk (f 19)), 0, none⟩) 0 0 := k0
   have hs21 : f 21 = .slice va (bs.length) (vc) := k1
   refine ob_start (L' := pt (blk (f 19)) (.cells #[] 52) :: M) (by rfl) (up_cons (up_cons rfl hs19) hs21) ?_
   refine l_conseq 0 (r' := rowF BodyF 52 (some ⟨(blk (f 19)), 0, none⟩) 0 []) rfl (fun a h => pt_row (m := 0) (by decide) rfl a h) ?_
   refine l_mv rfl rfl rfl (m_appendFlN (F := BodyF) 0 tf43 tf83 (p := (some ⟨(blk (f 19)), 0, none⟩)) (m := 0) (xs := []) (ys := bs) (ao := va) (k := bs.length) (c := vc) rfl rfl rfl rfl rfl (Knows.of_base (Elems.mono _ _ _) ve) (by first | omega | simp only [List.length_nil, List.length_cons, List.length_append, List.length_set]; omega) (by first | omega | simp only [List.length_nil, List.length_cons, List.length_append, List.length_set]; omega)) ?_
   rintro _ _ ⟨rp8, rc9, rfl, rfl⟩
   refine l_nil ?_
   exact f_owes_d (up_cons (up_cons rfl hs19) hs21) rfl (perm_front 0 rfl)
  ·rintro f M - -
   refine ob_start (L' := M) (by rfl) rfl ?_
   refine l_mv rfl rfl rfl (m_slice0 tf46) ?_
   rintro _ _ ⟨b11, rfl, rfl⟩
   refine l_nil ?_
   exact f_owes_d rfl rfl (perm_front 0 rfl)
  ·rintro f M - ⟨i0, -⟩
   have hs1 : f 1 = .pointer (some ⟨b1, 0, none⟩) := i0
   refine ob_start (L' := M) (by rfl) (up_cons rfl hs1) ?_
   refine l_val (v := .pointer (some ⟨b1, 1, none⟩)) rfl rfl rfl (e_fieldPt (b := b1) (o := 0) rfl tf55) ?_
   refine l_nil ?_
   exact f_owes_d (up_cons rfl hs1) rfl (List.Perm.refl _)
  ·rintro f M ⟨k0, -⟩ -
   have hs24 : f 24 = .pointer (some ⟨b1, 1, none⟩) := k0
   refine ob_start (L' := pt b1 (.cells #[.slice va (bs.length) (vc), .slice rva (rs.length) (rvc), Ix (gx), Ix (gy)] 30) :: M) (by rfl) (up_cons rfl hs24) ?_
   refine l_val (v := .slice rva (rs.length) (rvc)) rfl rfl rfl (e_load1 tf56 (v := .slice rva (rs.length) (rvc)) rfl (k_pt 0 (cs := #[.slice va (bs.length) (vc), .slice rva (rs.length) (rvc), Ix (gx), Ix (gy)]) (vs := [.slice rva (rs.length) (rvc)]) rfl rfl)) ?_
   refine l_nil ?_
   exact f_owes_d (up_cons rfl hs24) rfl (perm_front 0 rfl)
  ·rintro f M ⟨k0, k1, -⟩ -
   have hs23 : f 23 = .slice (some ⟨(blk (f 23)), 0, none⟩) 0 0 := k0
   have hs25 : f 25 = .slice rva (rs.length) (rvc) := k1
   refine ob_start (L' := pt (blk (f 23)) (.cells #[] 78) :: M) (by rfl) (up_cons (up_cons rfl hs23) hs25) ?_
   refine l_conseq 0 (r' := rowF RopeF 78 (some ⟨(blk (f 23)), 0, none⟩) 0 []) rfl (fun a h => pt_row (m := 0) (by decide) rfl a h) ?_
   refine l_mv rfl rfl rfl (m_appendFlN (F := RopeF) 0 tf46 tf84 (p := (some ⟨(blk (f 23)), 0, none⟩)) (m := 0) (xs := []) (ys := rs) (ao := rva) (k := rs.length) (c := rvc) rfl rfl rfl rfl rfl (Knows.of_base (Elems.mono _ _ _) rve) (by first | omega | simp only [List.length_nil, List.length_cons, List.length_append, List.length_set]; omega) (by first | omega | simp only [List.length_nil, List.length_cons, List.length_append, List.length_set]; omega)) ?_
   rintro _ _ ⟨rp14, rc15, rfl, rfl⟩
   refine l_nil ?_
   exact f_owes_d (up_cons (up_cons rfl hs23) hs25) rfl (perm_front 0 rfl)
  ·rintro f M - ⟨i0, -⟩
   have hs1 : f 1 = .pointer (some ⟨b1, 0, none⟩) := i0
   refine ob_start (L' := M) (by rfl) (up_cons rfl hs1) ?_
   refine l_val (v := .pointer (some ⟨b1, 2, none⟩)) rfl rfl rfl (e_fieldPt (b := b1) (o := 0) rfl tf57) ?_
   refine l_nil ?_
   exact f_owes_d (up_cons rfl hs1) rfl (List.Perm.refl _)
  ·rintro f M ⟨k0, -⟩ -
   have hs27 : f 27 = .pointer (some ⟨b1, 2, none⟩) := k0
   refine ob_start (L' := pt b1 (.cells #[.slice va (bs.length) (vc), .slice rva (rs.length) (rvc), Ix (gx), Ix (gy)] 30) :: M) (by rfl) (up_cons rfl hs27) ?_
   refine l_val (v := .agg #[Ix (gx), Ix (gy)]) rfl rfl rfl (e_load tf15 (cs := [Ix (gx), Ix (gy)]) rfl (k_pt 0 (cs := #[.slice va (bs.length) (vc), .slice rva (rs.length) (rvc), Ix (gx), Ix (gy)]) (vs := [Ix (gx), Ix (gy)]) rfl rfl) rfl) ?_
   refine l_nil ?_
   exact f_owes_d (up_cons rfl hs27) rfl (perm_front 0 rfl)
  ·rintro f M ⟨k0, k1, k2, -⟩ -
   have hs22 : f 22 = .slice (sla (f 22)) (bs.length) (slc (f 22)) := k0
   have hs26 : f 26 = .slice (sla (f 26)) (rs.length) (slc (f 26)) := k1
   have hs28 : f 28 = .agg #[Ix (gx), Ix (gy)] := k2
   refine ob_start (L' := M) (by rfl) (up_cons (up_cons (up_cons rfl hs22) hs26) hs28) ?_
   refine l_val (v := .agg #[.slice (sla (f 22)) (bs.length) (slc (f 22)), .slice (sla (f 26)) (rs.length) (slc (f 26)), Ix (gx), Ix (gy)]) rfl rfl rfl (e_build tf85 tf88 (vs := [(0, .slice (sla (f 22)) (bs.length) (slc (f 22))), (1, .slice (sla (f 26)) (rs.length) (slc (f 26))), (2, .agg #[Ix (gx), Ix (gy)])]) (cells := #[.slice (sla (f 22)) (bs.length) (slc (f 22)), .slice (sla (f 26)) (rs.length) (slc (f 26)), Ix (gx), Ix (gy)]) rfl rfl) ?_
   refine l_nil ?_
   exact f_owes_d (up_cons (up_cons (up_cons rfl hs22) hs26) hs28) rfl (List.Perm.refl _)
  ·rintro f M - -
   refine ob_start (L' := M) (by rfl) rfl ?_
   refine l_mv rfl rfl rfl (m_alloc tf85) ?_
   rintro _ _ ⟨b17, rfl, rfl⟩
   refine l_nil ?_
   exact f_owes_d rfl rfl (perm_front 0 rfl)
  ·rintro f M ⟨k0, k1, -⟩ -
   have hs5 : f 5 = .pointer (some ⟨(blk (f 5)), 0, none⟩) := k0
   have hs29 : f 29 = .agg #[.slice (sla (f 22)) (bs.length) (slc (f 22)), .slice (sla (f 26)) (rs.length) (slc (f 26)), Ix (gx), Ix (gy)] := k1
   refine ob_start (L' := pt (blk (f 5)) (.cells #[.slice none 0 0, .slice none 0 0, .int .i64 (0), .int .i64 (0)] 30) :: M) (by rfl) (up_cons (up_cons rfl hs5) hs29) ?_
   refine l_mu rfl rfl (m_store 0 tf86 (b := (blk (f 5))) (o := 0) (T := 30) (cs := #[.slice none 0 0, .slice none 0 0, .int .i64 (0), .int .i64 (0)]) (cs' := #[.slice (sla (f 22)) (bs.length) (slc (f 22)), .slice (sla (f 26)) (rs.length) (slc (f 26)), Ix (gx), Ix (gy)]) (v := .agg #[.slice (sla (f 22)) (bs.length) (slc (f 22)), .slice (sla (f 26)) (rs.length) (slc (f 26)), Ix (gx), Ix (gy)]) rfl rfl rfl rfl rfl rfl rfl) ?_
   refine l_nil ?_
   exact f_owes_n (up_cons (up_cons rfl hs5) hs29) trivial (perm_front 0 rfl)
  rintro fa18 ⟨-, -, -, -, -, -, -, -, -, -, -, k11, -, -⟩ ⟨j0, j1, -⟩
  refine f_re (L' := [pt b2 (.cells #[.slice none 0 0, .slice none 0 0, .int .i64 (0), .int .i64 (0)] 30), pt b1 (.cells #[.slice va (bs.length) (vc), .slice rva (rs.length) (rvc), Ix (gx), Ix (gy)] 30), rowF BodyF 52 (sla (fa18 22)) (slc (fa18 22)) bs, rowF RopeF 78 (sla (fa18 26)) (slc (fa18 26)) rs, pt (blk (fa18 5)) (.cells #[.slice (sla (fa18 22)) (bs.length) (slc (fa18 22)), .slice (sla (fa18 26)) (rs.length) (slc (fa18 26)), Ix (gx), Ix (gy)] 30)]) (by rfl) ?_
  refine f_rebase (d := 1) (v := .pointer (some ⟨b1, 0, none⟩)) j0 ?_
  refine f_rebase (d := 2) (v := .pointer (some ⟨b2, 0, none⟩)) j1 ?_
  refine f_rebase (d := 5) (v := .pointer (some ⟨(blk (fa18 5)), 0, none⟩)) k11 ?_
  refine f_then ?_
  refine c_seq ?_
  generalize (sla (fa18 22)) = p1
  generalize (slc (fa18 22)) = c1
  generalize (sla (fa18 26)) = p2
  generalize (slc (fa18 26)) = c2
  refine c_region ?_
  refine l_val (v := .slice none 0 0) rfl rfl rfl (e_assign) ?_
  refine l_nil ?_
  refine f_then ?_
  refine c_seq ?_
  refine c_seq ?_
  refine c_emp (r := rowF StopF 55 none 0 []) (row_nil _ _ _) ?_
  refine c_region ?_
  refine l_val (v := .int .i64 (0)) rfl rfl rfl (e_assign) ?_
  refine l_nil ?_
  refine f_then ?_
  refine c_block ?_
  refine c_loop (fun (x_ : Nat × List KB × List KS × Option Addr × Nat) (f : Fm) (L : List Res) => match x_ with | (k, B, S, sp, sc) => (f 1 = .pointer (some ⟨b1, 0, none⟩) ∧ f 2 = .pointer (some ⟨b2, 0, none⟩) ∧ f 5 = .pointer (some ⟨(blk (fa18 5)), 0, none⟩) ∧ f 6 = .slice sp (S.length) sc ∧ f 7 = Nx (k)) ∧ L = [rowF StopF 55 sp sc S, pt b2 (.cells #[.slice none 0 0, .slice none 0 0, .int .i64 (0), .int .i64 (0)] 30), pt b1 (.cells #[.slice va (bs.length) (vc), .slice rva (rs.length) (rvc), Ix (gx), Ix (gy)] 30), rowF BodyF 52 p1 c1 B, rowF RopeF 78 p2 c2 rs, pt (blk (fa18 5)) (.cells #[.slice p1 (bs.length) c1, .slice p2 (rs.length) c2, Ix (gx), Ix (gy)] 30)] ∧ (k ≤ bs.length ∧ B = (stepsTo rs gx gy bs k).1 ∧ S = (stepsTo rs gx gy bs k).2 ∧ SameIds B bs ∧ (∀ o ∈ B, okB o) ∧ S.length ≤ 2 * k)) (fun (x_ : Nat × List KB × List KS × Option Addr × Nat) => match x_ with | (k, B, S, sp, sc) => bs.length - k) (0, bs, [], none, 0) ?_ ?_
  ·exact ⟨⟨rfl, rfl, rfl, rfl, rfl⟩, rfl, ⟨by omega, rfl, rfl, rfl, o4, by simp⟩⟩
  rintro ⟨k, B, S, sp, sc⟩ f0 L0 ⟨⟨hs1, hs2, hs5, hs6, hs7⟩, hL, ⟨hk, hB, hS, hid, hBok, hSl⟩⟩
  subst L0
  refine rebase (d := 1) hs1 ?_
  refine rebase (d := 2) hs2 ?_
  refine rebase (d := 5) hs5 ?_
  refine rebase (d := 6) hs6 ?_
  refine rebase (d := 7) hs7 ?_
  clear hs1 hs2 hs5 hs6 hs7
  have hl := hid.len
  refine c_seq ?_
  refine c_seq ?_
  refine c_region ?_
  refine l_val (v := Nx (k)) rfl rfl rfl (e_move) ?_
  refine l_val (v := .pointer (some ⟨(blk (fa18 5)), 0, none⟩)) rfl rfl rfl (e_fieldPt (b := (blk (fa18 5))) (o := 0) rfl tf49) ?_
  refine l_val (v := .slice p1 (bs.length) c1) rfl rfl rfl (e_load1 tf50 (v := .slice p1 (bs.length) c1) rfl (k_pt 5 (cs := #[.slice p1 (bs.length) c1, .slice p2 (rs.length) c2, Ix (gx), Ix (gy)]) (vs := [.slice p1 (bs.length) c1]) rfl rfl)) ?_
  refine l_val (v := Nx (bs.length)) rfl rfl rfl (e_len (a := p1) (n := bs.length) (c := c1) rfl tf40) ?_
  refine l_val (v := .bool (decide (((k : Nat) : Int) < ((bs.length : Nat) : Int)))) rfl rfl rfl (e_lss (a := ((k : Nat) : Int)) (b := ((bs.length : Nat) : Int)) rfl rfl) ?_
  refine l_nil ?_
  refine f_then ?_
  refine c_if (((k : Nat) : Int) < ((bs.length : Nat) : Int)) rfl (fun hc19 => ?_) (fun hc19 => ?_)
  ·
   refine c_skip ?_
   refine f_then ?_
   refine c_seq ?_
   refine c_block ?_
   refine c_seq ?_
   refine c_seq ?_
   refine c_region ?_
   refine l_val (v := .pointer (some ⟨(blk (fa18 5)), 0, none⟩)) rfl rfl rfl (e_fieldPt (b := (blk (fa18 5))) (o := 0) rfl tf49) ?_
   refine l_val (v := .slice p1 (bs.length) c1) rfl rfl rfl (e_load1 tf50 (v := .slice p1 (bs.length) c1) rfl (k_pt 5 (cs := #[.slice p1 (bs.length) c1, .slice p2 (rs.length) c2, Ix (gx), Ix (gy)]) (vs := [.slice p1 (bs.length) c1]) rfl rfl)) ?_
   refine l_val (v := Nx (k)) rfl rfl rfl (e_move) ?_
   refine l_val (v := .pointer (some ((ba p1).add (k * 9)))) rfl rfl rfl (e_indexFlN 3 (F := BodyF) (j := k) (m := bs.length) (xs := B) rfl (by omega) rfl tf43 (by omega) rfl) ?_
   refine l_val (v := .pointer (some ((ba p1).add (k * 9 + 8)))) rfl rfl rfl (ev_eq (congrArg (fun z => Value.pointer (some z)) (show ((ba p1).add (k * 9) : Addr).add 8 = (ba p1).add (k * 9 + 8) by rw [Addr.add_add'])) (e_fieldAddr (a := (ba p1).add (k * 9)) rfl tf14)) ?_
   obtain ⟨x, hx⟩ : ∃ x_, B[k]? = some x_ := ⟨_, List.getElem?_eq_getElem (by omega)⟩
   refine l_val (v := .bool (x.fixed)) rfl rfl rfl (e_load1 tf13 (v := .bool (x.fixed)) rfl (k_flPart 3 (F := BodyF) (o := 8) (us := [.bool (x.fixed)]) rfl hx rfl)) ?_
   refine l_nil ?_
   refine f_then ?_
   refine c_ifb (x.fixed) rfl (fun hc20 => ?_) (fun hc20 => ?_)
   ·
    refine c_exit ?_
    refine f_then_exit ?_
    refine f_exit ?_
    refine f_then ?_
    refine c_region ?_
    refine l_val (v := Nx (k)) rfl rfl rfl (e_move) ?_
    refine l_val (v := Nx (k + 1)) rfl rfl rfl (e_add (a := ((k : Nat) : Int)) (b := (1 : Int)) rfl rfl (i64n (by omega) (by omega))) ?_
    refine l_val (v := Nx (k + 1)) rfl rfl rfl (e_assign) ?_
    refine l_nil ?_
    exact f_cut ⟨(k + 1, B, S, sp, sc), ⟨⟨rfl, rfl, rfl, rfl, rfl⟩, rfl, ⟨by omega, (next_fixed hB hS hx hc20).1, (next_fixed hB hS hx hc20).2, hid, hBok, by omega⟩⟩, (show bs.length - (k + 1) < bs.length - k from by omega)⟩
   ·
    refine c_skip ?_
    refine f_then ?_
    refine c_seq ?_
    refine c_any [⟨[], [], [0], [43], fun f => f 43 = .pointer (some ⟨(blk (fa18 5)), 0, none⟩)⟩, ⟨[0], [0], [], [44], fun f => f 44 = .slice p1 (bs.length) c1⟩, ⟨[], [], [1], [45], fun f => f 45 = Nx (k)⟩, ⟨[0, 1, 2], [1, 2], [], [46], fun f => f 46 = .pointer (some ((ba p1).add (k * 9)))⟩, ⟨[0, 1, 2, 3], [3], [], [47], fun f => f 47 = .agg (bC x)⟩, ⟨[], [], [2], [48], fun f => f 48 = .pointer (some ⟨b1, 2, none⟩)⟩, ⟨[5], [5], [], [49], fun f => f 49 = .agg #[Ix (gx), Ix (gy)]⟩, ⟨[0, 1, 2, 3, 4, 5, 6], [4, 6], [], [50], fun f => f 50 = .agg #[Ix (speedX x (gx) (gy)), Ix (speedY x (gx) (gy))]⟩, ⟨[], [], [], [8], fun f => f 8 = .pointer (some ⟨(blk (f 8)), 0, none⟩)⟩, ⟨[0, 1, 2, 3, 4, 5, 6, 7, 8], [8, 7], [], [], fun _ => True⟩] [⟨none, none, [], [], fun _ => rowF StopF 55 sp sc S⟩, ⟨none, none, [], [], fun _ => pt b2 (.cells #[.slice none 0 0, .slice none 0 0, .int .i64 (0), .int .i64 (0)] 30)⟩, ⟨none, none, [6], [], fun _ => pt b1 (.cells #[.slice va (bs.length) (vc), .slice rva (rs.length) (rvc), Ix (gx), Ix (gy)] 30)⟩, ⟨none, none, [3, 4], [], fun _ => rowF BodyF 52 p1 c1 B⟩, ⟨none, none, [], [], fun _ => rowF RopeF 78 p2 c2 rs⟩, ⟨none, none, [1], [], fun _ => pt (blk (fa18 5)) (.cells #[.slice p1 (bs.length) c1, .slice p2 (rs.length) c2, Ix (gx), Ix (gy)] 30)⟩, ⟨(some 8), (some 9), [9], [8], fun f => pt (blk (f 8)) (.cells #[.int .i64 (0), .int .i64 (0)] 28)⟩, ⟨(some 9), none, [], [8], fun f => pt (blk (f 8)) (.cells #[Ix (speedX x (gx) (gy)), Ix (speedY x (gx) (gy))] 28)⟩] [(5, .pointer (some ⟨(blk (fa18 5)), 0, none⟩)), (7, Nx (k)), (1, .pointer (some ⟨b1, 0, none⟩)), (2, .pointer (some ⟨b2, 0, none⟩)), (6, .slice sp (S.length) sc)] [2, 3, 0, 4, 1] [] (by kernel_rfl) (by kernel_rfl) (by kernel_rfl) (by kernel_rfl) rfl ⟨rfl, rfl, rfl, rfl, rfl, trivial⟩ ⟨?_, ?_, ?_, ?_, ?_, ?_, ?_, ?_, ?_, ?_, trivial⟩ ?_
    ·rintro f M - ⟨i0, -⟩
     have hs5 : f 5 = .pointer (some ⟨(blk (fa18 5)), 0, none⟩) := i0
     refine ob_start (L' := M) (by rfl) (up_cons rfl hs5) ?_
     refine l_val (v := .pointer (some ⟨(blk (fa18 5)), 0, none⟩)) rfl rfl rfl (e_fieldPt (b := (blk (fa18 5))) (o := 0) rfl tf49) ?_
     refine l_nil ?_
     exact f_owes_d (up_cons rfl hs5) rfl (List.Perm.refl _)
    ·rintro f M ⟨k0, -⟩ -
     have hs43 : f 43 = .pointer (some ⟨(blk (fa18 5)), 0, none⟩) := k0
     refine ob_start (L' := pt (blk (fa18 5)) (.cells #[.slice p1 (bs.length) c1, .slice p2 (rs.length) c2, Ix (gx), Ix (gy)] 30) :: M) (by rfl) (up_cons rfl hs43) ?_
     refine l_val (v := .slice p1 (bs.length) c1) rfl rfl rfl (e_load1 tf50 (v := .slice p1 (bs.length) c1) rfl (k_pt 0 (cs := #[.slice p1 (bs.length) c1, .slice p2 (rs.length) c2, Ix (gx), Ix (gy)]) (vs := [.slice p1 (bs.length) c1]) rfl rfl)) ?_
     refine l_nil ?_
     exact f_owes_d (up_cons rfl hs43) rfl (perm_front 0 rfl)
    ·rintro f M - ⟨i0, -⟩
     have hs7 : f 7 = Nx (k) := i0
     refine ob_start (L' := M) (by rfl) (up_cons rfl hs7) ?_
     refine l_val (v := Nx (k)) rfl rfl rfl (e_move) ?_
     refine l_nil ?_
     exact f_owes_d (up_cons rfl hs7) rfl (List.Perm.refl _)
    ·rintro f M ⟨k0, k1, -⟩ -
     have hs44 : f 44 = .slice p1 (bs.length) c1 := k0
     have hs45 : f 45 = Nx (k) := k1
     refine ob_start (L' := rowF BodyF 52 p1 c1 B :: M) (by rfl) (up_cons (up_cons rfl hs44) hs45) ?_
     refine l_val (v := .pointer (some ((ba p1).add (k * 9)))) rfl rfl rfl (e_indexFlN 0 (F := BodyF) (j := k) (m := bs.length) (xs := B) rfl (by omega) rfl tf43 (by omega) rfl) ?_
     refine l_nil ?_
     exact f_owes_d (up_cons (up_cons rfl hs44) hs45) rfl (perm_front 0 rfl)
    ·rintro f M ⟨k0, -⟩ -
     have hs46 : f 46 = .pointer (some ((ba p1).add (k * 9))) := k0
     refine ob_start (L' := rowF BodyF 52 p1 c1 B :: M) (by rfl) (up_cons rfl hs46) ?_
     refine l_val (v := .agg (bC x)) rfl rfl rfl (e_load tf22 (cs := (bodyE x)) rfl (k_flAt 0 (F := BodyF) rfl hx) rfl) ?_
     refine l_nil ?_
     exact f_owes_d (up_cons rfl hs46) rfl (perm_front 0 rfl)
    ·rintro f M - ⟨i0, -⟩
     have hs1 : f 1 = .pointer (some ⟨b1, 0, none⟩) := i0
     refine ob_start (L' := M) (by rfl) (up_cons rfl hs1) ?_
     refine l_val (v := .pointer (some ⟨b1, 2, none⟩)) rfl rfl rfl (e_fieldPt (b := b1) (o := 0) rfl tf57) ?_
     refine l_nil ?_
     exact f_owes_d (up_cons rfl hs1) rfl (List.Perm.refl _)
    ·rintro f M ⟨k0, -⟩ -
     have hs48 : f 48 = .pointer (some ⟨b1, 2, none⟩) := k0
     refine ob_start (L' := pt b1 (.cells #[.slice va (bs.length) (vc), .slice rva (rs.length) (rvc), Ix (gx), Ix (gy)] 30) :: M) (by rfl) (up_cons rfl hs48) ?_
     refine l_val (v := .agg #[Ix (gx), Ix (gy)]) rfl rfl rfl (e_load tf15 (cs := [Ix (gx), Ix (gy)]) rfl (k_pt 0 (cs := #[.slice va (bs.length) (vc), .slice rva (rs.length) (rvc), Ix (gx), Ix (gy)]) (vs := [Ix (gx), Ix (gy)]) rfl rfl) rfl) ?_
     refine l_nil ?_
     exact f_owes_d (up_cons rfl hs48) rfl (perm_front 0 rfl)
    ·rintro f M ⟨k0, k1, -⟩ -
     have hs47 : f 47 = .agg (bC x) := k0
     have hs49 : f 49 = .agg #[Ix (gx), Ix (gy)] := k1
     refine ob_start (L' := M) (by rfl) (up_cons (up_cons rfl hs47) hs49) ?_
     refine l_call rfl rfl rfl (cl_value (fst := []) (cap := []) (vs := [.agg (bC x), .agg #[Ix (gx), Ix (gy)]]) (all := [.agg (bC x), .agg #[Ix (gx), Ix (gy)]]) tf129 rfl rfl rfl) ?_
     intro w hw
     obtain ⟨β1, sb, kn, hw1, back⟩ := St.frame_all hw
     refine (speed7_ok β1 w hw1 x (gx) (gy)).mono ?_
     rintro e w' ⟨rfl, hw'⟩
     refine ⟨_, rfl, _, back _ _ hw', ?_⟩
     clear hw hw1 hw' back kn sb
     refine l_nil ?_
     exact f_owes_d (up_cons (up_cons rfl hs47) hs49) rfl (List.Perm.refl _)
    ·rintro f M - -
     refine ob_start (L' := M) (by rfl) rfl ?_
     refine l_mv rfl rfl rfl (m_alloc tf17) ?_
     rintro _ _ ⟨b22, rfl, rfl⟩
     refine l_nil ?_
     exact f_owes_d rfl rfl (perm_front 0 rfl)
    ·rintro f M ⟨k0, k1, -⟩ -
     have hs8 : f 8 = .pointer (some ⟨(blk (f 8)), 0, none⟩) := k0
     have hs50 : f 50 = .agg #[Ix (speedX x (gx) (gy)), Ix (speedY x (gx) (gy))] := k1
     refine ob_start (L' := pt (blk (f 8)) (.cells #[.int .i64 (0), .int .i64 (0)] 28) :: M) (by rfl) (up_cons (up_cons rfl hs8) hs50) ?_
     refine l_mu rfl rfl (m_store 0 tf15 (b := (blk (f 8))) (o := 0) (T := 28) (cs := #[.int .i64 (0), .int .i64 (0)]) (cs' := #[Ix (speedX x (gx) (gy)), Ix (speedY x (gx) (gy))]) (v := .agg #[Ix (speedX x (gx) (gy)), Ix (speedY x (gx) (gy))]) rfl rfl rfl rfl rfl rfl rfl) ?_
     refine l_nil ?_
     exact f_owes_n (up_cons (up_cons rfl hs8) hs50) trivial (perm_front 0 rfl)
    rintro fa23 ⟨-, -, -, -, -, -, -, -, k8, -, -⟩ ⟨j0, j1, j2, j3, j4, -⟩
    refine f_re (L' := [rowF StopF 55 sp sc S, pt b2 (.cells #[.slice none 0 0, .slice none 0 0, .int .i64 (0), .int .i64 (0)] 30), pt b1 (.cells #[.slice va (bs.length) (vc), .slice rva (rs.length) (rvc), Ix (gx), Ix (gy)] 30), rowF BodyF 52 p1 c1 B, rowF RopeF 78 p2 c2 rs, pt (blk (fa18 5)) (.cells #[.slice p1 (bs.length) c1, .slice p2 (rs.length) c2, Ix (gx), Ix (gy)] 30), pt (blk (fa23 8)) (.cells #[Ix (speedX x (gx) (gy)), Ix (speedY x (gx) (gy))] 28)]) (by rfl) ?_
    refine f_rebase (d := 1) (v := .pointer (some ⟨b1, 0, none⟩)) j0 ?_
    refine f_rebase (d := 2) (v := .pointer (some ⟨b2, 0, none⟩)) j1 ?_
    refine f_rebase (d := 5) (v := .pointer (some ⟨(blk (fa18 5)), 0, none⟩)) j2 ?_
    refine f_rebase (d := 6) (v := .slice sp (S.length) sc) j3 ?_
    refine f_rebase (d := 7) (v := Nx (k)) j4 ?_
    refine f_rebase (d := 8) (v := .pointer (some ⟨(blk (fa23 8)), 0, none⟩)) k8 ?_
    refine f_then ?_
    refine c_seq ?_
    obtain ⟨nx, hnx⟩ : ∃ z, z = speedX x gx gy := ⟨_, rfl⟩
    obtain ⟨ny, hny⟩ : ∃ z, z = speedY x gx gy := ⟨_, rfl⟩
    have hsp := speed_bd x gx gy
    rw [← hnx, ← hny] at hsp
    have hxok := hBok _ (List.mem_of_getElem? hx)
    rw [← hnx, ← hny]
    have hBo : ordB B := ordB_ids hid o5
    have hBr : ∀ r ∈ rs, okR B r := fun r hr => okR_ids hid (o6 r hr)
    refine c_region ?_
    refine l_val (v := .agg #[.slice p1 (bs.length) c1, .slice p2 (rs.length) c2, Ix (gx), Ix (gy)]) rfl rfl rfl (e_load tf86 (cs := [.slice p1 (bs.length) c1, .slice p2 (rs.length) c2, Ix (gx), Ix (gy)]) rfl (k_pt 5 (cs := #[.slice p1 (bs.length) c1, .slice p2 (rs.length) c2, Ix (gx), Ix (gy)]) (vs := [.slice p1 (bs.length) c1, .slice p2 (rs.length) c2, Ix (gx), Ix (gy)]) rfl rfl) rfl) ?_
    refine l_val (v := Nx (k)) rfl rfl rfl (e_move) ?_
    refine l_val (v := .pointer (some ⟨(blk (fa23 8)), 0, none⟩)) rfl rfl rfl (e_fieldPt (b := (blk (fa23 8))) (o := 0) rfl tf7) ?_
    refine l_val (v := Ix (nx)) rfl rfl rfl (e_load1 tf2 (v := Ix (nx)) rfl (k_pt 6 (cs := #[Ix (nx), Ix (ny)]) (vs := [Ix (nx)]) rfl rfl)) ?_
    refine l_call rfl rfl rfl (cl_value (fst := []) (cap := []) (vs := [.agg #[.slice p1 (bs.length) c1, .slice p2 (rs.length) c2, Ix (gx), Ix (gy)], Nx (k), .int .u8 (1), Ix (nx)]) (all := [.agg #[.slice p1 (bs.length) c1, .slice p2 (rs.length) c2, Ix (gx), Ix (gy)], Nx (k), .int .u8 (1), Ix (nx)]) tf130 rfl rfl rfl) ?_
    intro w hw
    obtain ⟨β1, sb, kn, hw1, back⟩ := St.frame_all hw
    obtain ⟨u, hu⟩ : ∃ z, runM B rs x false nx = z := ⟨_, rfl⟩
    obtain ⟨C1, hC1⟩ : ∃ z, sh false x (sgn nx * (u.1 : Nat)) = z := ⟨_, rfl⟩
    refine (moveU_ok β1 w hw1 _ _ gx gy B rs (kn _ (k_flN 3 (F := BodyF) (m := bs.length) (xs := B) rfl (by omega))) (kn _ (k_flN 4 (F := RopeF) (m := rs.length) (xs := rs) rfl rfl)) hBo hBok hBr k x hx false 1 rfl nx (by omega) u hu C1 hC1).mono ?_
    rintro e w' ⟨rfl, hw'⟩
    refine ⟨_, rfl, _, back _ _ hw', ?_⟩
    clear hw hw1 hw' back kn sb
    have hC1ok : okB C1 := by rw [← hC1, ← hu]; exact runM_ok hxok
    have hC1id : C1.id = x.id := by rw [← hC1, sh_id]
    have hC1f : C1.fixed = x.fixed := by rw [← hC1, (sh_vel _ _ _).2.2]
    refine l_val (v := .tuple #[.agg (bC C1), .bool (u.2.isSome), Ix (u.2.getD 0)]) rfl rfl rfl (e_move) ?_
    refine l_val (v := .agg (bC C1)) rfl rfl rfl (e_extract (vs := #[.agg (bC C1), .bool (u.2.isSome), Ix (u.2.getD 0)]) rfl rfl) ?_
    refine l_val (v := .bool (u.2.isSome)) rfl rfl rfl (e_extract (vs := #[.agg (bC C1), .bool (u.2.isSome), Ix (u.2.getD 0)]) rfl rfl) ?_
    refine l_val (v := Ix (u.2.getD 0)) rfl rfl rfl (e_extract (vs := #[.agg (bC C1), .bool (u.2.isSome), Ix (u.2.getD 0)]) rfl rfl) ?_
    refine l_mv rfl rfl rfl (m_alloc tf58) ?_
    rintro _ _ ⟨b24, rfl, rfl⟩
    refine l_mu rfl rfl (m_store 0 tf22 (b := b24) (o := 0) (T := 52) (cs := #[.int .i64 (0), .int .i64 (0), .int .i64 (0), .int .i64 (0), .int .i64 (0), .int .i64 (0), .int .i64 (0), .bool false, .bool false]) (cs' := (bC C1)) (v := .agg (bC C1)) rfl rfl rfl rfl rfl rfl rfl) ?_
    refine l_val (v := .bool (u.2.isSome)) rfl rfl rfl (e_assign) ?_
    refine l_val (v := Ix (u.2.getD 0)) rfl rfl rfl (e_assign) ?_
    refine l_nil ?_
    refine f_then ?_
    refine c_seq_cut (fun (f : Fm) (L : List Res) => ∃ (S1 : List KS) (spa : Option Addr) (sca : Nat), (f 1 = .pointer (some ⟨b1, 0, none⟩) ∧ f 2 = .pointer (some ⟨b2, 0, none⟩) ∧ f 5 = .pointer (some ⟨(blk (fa18 5)), 0, none⟩) ∧ f 6 = .slice spa (S1.length) sca ∧ f 7 = Nx (k) ∧ f 8 = .pointer (some ⟨(blk (fa23 8)), 0, none⟩) ∧ f 9 = .pointer (some ⟨b24, 0, none⟩) ∧ f 10 = .bool (u.2.isSome)) ∧ L = [pt b24 (.cells (bC C1) 52), rowF StopF 55 spa sca S1, pt b2 (.cells #[.slice none 0 0, .slice none 0 0, .int .i64 (0), .int .i64 (0)] 30), pt b1 (.cells #[.slice va (bs.length) (vc), .slice rva (rs.length) (rvc), Ix (gx), Ix (gy)] 30), rowF BodyF 52 p1 c1 B, rowF RopeF 78 p2 c2 rs, pt (blk (fa18 5)) (.cells #[.slice p1 (bs.length) c1, .slice p2 (rs.length) c2, Ix (gx), Ix (gy)] 30), pt (blk (fa23 8)) (.cells #[Ix (nx), Ix (ny)] 28)] ∧ (S1 = S ++ stopL x.id 1 u.2 ∧ S1.length ≤ S.length + 1)) ?_ ?_
    ·
     refine c_seq ?_
     refine c_region ?_
     refine l_val (v := .bool (u.2.isSome)) rfl rfl rfl (e_move) ?_
     refine l_nil ?_
     refine f_then ?_
     refine c_ifb (u.2.isSome) rfl (fun hc25 => ?_) (fun hc25 => ?_)
     ·
      refine c_region ?_
      refine l_val (v := .slice sp (S.length) sc) rfl rfl rfl (e_move) ?_
      refine l_val (v := .pointer (some ⟨b24, 0, none⟩)) rfl rfl rfl (e_fieldPt (b := b24) (o := 0) rfl tf3) ?_
      refine l_val (v := Ix (C1.id)) rfl rfl rfl (e_load1 tf2 (v := Ix (C1.id)) rfl (k_pt 0 (cs := (bC C1)) (vs := [Ix (C1.id)]) rfl rfl)) ?_
      refine l_val (v := Ix (u.2.getD 0)) rfl rfl rfl (e_move) ?_
      refine l_val (v := .agg #[Ix (C1.id), .int .u8 (1), Ix (u.2.getD 0)]) rfl rfl rfl (e_build tf99 tf98 (vs := [(0, Ix (C1.id)), (1, .int .u8 (1)), (2, Ix (u.2.getD 0))]) (cells := #[Ix (C1.id), .int .u8 (1), Ix (u.2.getD 0)]) rfl rfl) ?_
      refine l_mv rfl rfl rfl (m_slices tf100 tf99 (vs := [(0, .agg #[Ix (C1.id), .int .u8 (1), Ix (u.2.getD 0)])]) (cells := #[Ix (C1.id), .int .u8 (1), Ix (u.2.getD 0)]) rfl rfl rfl rfl) ?_
      rintro _ _ ⟨b26, rfl, rfl⟩
      refine l_mv rfl rfl rfl (m_appendFlN (F := StopF) 2 tf100 tf101 (p := sp) (m := S.length) (xs := S) (ys := [(⟨C1.id, 1, u.2.getD 0⟩ : KS)]) (ao := (some ⟨b26, 0, none⟩)) (k := 1) (c := 1) rfl rfl rfl rfl rfl (k_ptFl (z := (⟨C1.id, 1, u.2.getD 0⟩ : KS)) 0 rfl rfl) (by first | omega | simp only [List.length_nil, List.length_cons, List.length_append, List.length_set]; omega) (by first | omega | simp only [List.length_nil, List.length_cons, List.length_append, List.length_set]; omega)) ?_
      rintro _ _ ⟨rp27, rc28, rfl, rfl⟩
      refine l_val (v := .slice rp27 ((S ++ [(⟨C1.id, 1, u.2.getD 0⟩ : KS)]).length) rc28) rfl rfl rfl (e_assign) ?_
      refine l_nil ?_
      refine f_mask (L' := [pt b24 (.cells (bC C1) 52), rowF StopF 55 rp27 rc28 (S ++ [(⟨C1.id, 1, u.2.getD 0⟩ : KS)]), pt b2 (.cells #[.slice none 0 0, .slice none 0 0, .int .i64 (0), .int .i64 (0)] 30), pt b1 (.cells #[.slice va (bs.length) (vc), .slice rva (rs.length) (rvc), Ix (gx), Ix (gy)] 30), rowF BodyF 52 p1 c1 B, rowF RopeF 78 p2 c2 rs, pt (blk (fa18 5)) (.cells #[.slice p1 (bs.length) c1, .slice p2 (rs.length) c2, Ix (gx), Ix (gy)] 30), pt (blk (fa23 8)) (.cells #[Ix (nx), Ix (ny)] 28)]) [false, true, true, true, true, true, true, true, true] rfl ?_
      exact f_cut ⟨(S ++ [(⟨C1.id, 1, u.2.getD 0⟩ : KS)]), rp27, rc28, ⟨rfl, rfl, rfl, rfl, rfl, rfl, rfl, rfl⟩, rfl, ⟨by rw [stop_yes hc25 hC1id], by simp⟩⟩
     ·
      refine c_skip ?_
      exact f_cut ⟨S, sp, sc, ⟨rfl, rfl, rfl, rfl, rfl, rfl, rfl, rfl⟩, rfl, ⟨by rw [stop_none hc25, List.append_nil], by omega⟩⟩
    rintro f0 L0 ⟨S1, spa, sca, ⟨hs1, hs2, hs5, hs6, hs7, hs8, hs9, hs10⟩, hL, ⟨hS1, hS1l⟩⟩
    subst L0
    refine rebase (d := 1) hs1 ?_
    refine rebase (d := 2) hs2 ?_
    refine rebase (d := 5) hs5 ?_
    refine rebase (d := 6) hs6 ?_
    refine rebase (d := 7) hs7 ?_
    refine rebase (d := 8) hs8 ?_
    refine rebase (d := 9) hs9 ?_
    refine rebase (d := 10) hs10 ?_
    clear hs1 hs2 hs5 hs6 hs7 hs8 hs9 hs10
    refine c_seq ?_
    refine c_region ?_
    refine l_val (v := .pointer (some ⟨(blk (fa18 5)), 0, none⟩)) rfl rfl rfl (e_fieldPt (b := (blk (fa18 5))) (o := 0) rfl tf49) ?_
    refine l_val (v := .slice p1 (bs.length) c1) rfl rfl rfl (e_load1 tf50 (v := .slice p1 (bs.length) c1) rfl (k_pt 6 (cs := #[.slice p1 (bs.length) c1, .slice p2 (rs.length) c2, Ix (gx), Ix (gy)]) (vs := [.slice p1 (bs.length) c1]) rfl rfl)) ?_
    refine l_val (v := Nx (k)) rfl rfl rfl (e_move) ?_
    refine l_val (v := .agg (bC C1)) rfl rfl rfl (e_load tf22 (cs := (bodyE C1)) rfl (k_pt 0 (cs := (bC C1)) (vs := (bodyE C1)) rfl rfl) rfl) ?_
    refine l_val (v := .pointer (some ((ba p1).add (k * 9)))) rfl rfl rfl (e_indexFlN 4 (F := BodyF) (j := k) (m := bs.length) (xs := B) rfl (by omega) rfl tf43 (by omega) rfl) ?_
    refine l_mu rfl rfl (m_storeFl 4 (F := BodyF) (p := p1) (k := k) (xs := B) (z := C1) tf22 rfl rfl rfl rfl (by omega)) ?_
    refine l_nil ?_
    refine f_then ?_
    refine c_seq ?_
    have hsC := hid.set hx hC1id
    have hBok1 := okB_set (k := k) hBok hC1ok
    have hBo1 : ordB (B.set k C1) := ordB_ids hsC o5
    have hBr1 : ∀ r ∈ rs, okR (B.set k C1) r := fun r hr => okR_ids hsC (o6 r hr)
    have hsk := get_set (xs := B) C1 (by omega : k < B.length)
    refine c_region ?_
    refine l_val (v := .agg #[.slice p1 (bs.length) c1, .slice p2 (rs.length) c2, Ix (gx), Ix (gy)]) rfl rfl rfl (e_load tf86 (cs := [.slice p1 (bs.length) c1, .slice p2 (rs.length) c2, Ix (gx), Ix (gy)]) rfl (k_pt 6 (cs := #[.slice p1 (bs.length) c1, .slice p2 (rs.length) c2, Ix (gx), Ix (gy)]) (vs := [.slice p1 (bs.length) c1, .slice p2 (rs.length) c2, Ix (gx), Ix (gy)]) rfl rfl) rfl) ?_
    refine l_val (v := Nx (k)) rfl rfl rfl (e_move) ?_
    refine l_val (v := .pointer (some ⟨(blk (fa23 8)), 1, none⟩)) rfl rfl rfl (e_fieldPt (b := (blk (fa23 8))) (o := 0) rfl tf8) ?_
    refine l_val (v := Ix (ny)) rfl rfl rfl (e_load1 tf2 (v := Ix (ny)) rfl (k_pt 7 (cs := #[Ix (nx), Ix (ny)]) (vs := [Ix (ny)]) rfl rfl)) ?_
    refine l_call rfl rfl rfl (cl_value (fst := []) (cap := []) (vs := [.agg #[.slice p1 (bs.length) c1, .slice p2 (rs.length) c2, Ix (gx), Ix (gy)], Nx (k), .int .u8 (2), Ix (ny)]) (all := [.agg #[.slice p1 (bs.length) c1, .slice p2 (rs.length) c2, Ix (gx), Ix (gy)], Nx (k), .int .u8 (2), Ix (ny)]) tf130 rfl rfl rfl) ?_
    intro w hw
    obtain ⟨β1, sb, kn, hw1, back⟩ := St.frame_all hw
    obtain ⟨v, hv⟩ : ∃ z, runM (B.set k C1) rs C1 true ny = z := ⟨_, rfl⟩
    obtain ⟨C2, hC2⟩ : ∃ z, sh true C1 (sgn ny * (v.1 : Nat)) = z := ⟨_, rfl⟩
    refine (moveU_ok β1 w hw1 _ _ gx gy (B.set k C1) rs (kn _ (k_flN 4 (F := BodyF) (m := bs.length) (xs := (B.set k C1)) rfl (by rw [List.length_set]; omega))) (kn _ (k_flN 5 (F := RopeF) (m := rs.length) (xs := rs) rfl rfl)) hBo1 hBok1 hBr1 k C1 hsk true 2 rfl ny (by omega) v hv C2 hC2).mono ?_
    rintro e w' ⟨rfl, hw'⟩
    refine ⟨_, rfl, _, back _ _ hw', ?_⟩
    clear hw hw1 hw' back kn sb
    have hC2ok : okB C2 := by rw [← hC2, ← hv]; exact runM_ok hC1ok
    have hC2id : C2.id = x.id := by rw [← hC2, sh_id]; exact hC1id
    have hC2f : C2.fixed = x.fixed := by rw [← hC2, (sh_vel _ _ _).2.2]; exact hC1f
    refine l_val (v := .tuple #[.agg (bC C2), .bool (v.2.isSome), Ix (v.2.getD 0)]) rfl rfl rfl (e_move) ?_
    refine l_val (v := .agg (bC C2)) rfl rfl rfl (e_extract (vs := #[.agg (bC C2), .bool (v.2.isSome), Ix (v.2.getD 0)]) rfl rfl) ?_
    refine l_val (v := .bool (v.2.isSome)) rfl rfl rfl (e_extract (vs := #[.agg (bC C2), .bool (v.2.isSome), Ix (v.2.getD 0)]) rfl rfl) ?_
    refine l_val (v := Ix (v.2.getD 0)) rfl rfl rfl (e_extract (vs := #[.agg (bC C2), .bool (v.2.isSome), Ix (v.2.getD 0)]) rfl rfl) ?_
    refine l_mv rfl rfl rfl (m_alloc tf58) ?_
    rintro _ _ ⟨b29, rfl, rfl⟩
    refine l_mu rfl rfl (m_store 0 tf22 (b := b29) (o := 0) (T := 52) (cs := #[.int .i64 (0), .int .i64 (0), .int .i64 (0), .int .i64 (0), .int .i64 (0), .int .i64 (0), .int .i64 (0), .bool false, .bool false]) (cs' := (bC C2)) (v := .agg (bC C2)) rfl rfl rfl rfl rfl rfl rfl) ?_
    refine l_val (v := .bool (v.2.isSome)) rfl rfl rfl (e_assign) ?_
    refine l_val (v := Ix (v.2.getD 0)) rfl rfl rfl (e_assign) ?_
    refine l_nil ?_
    refine f_then ?_
    refine c_seq_cut (fun (f : Fm) (L : List Res) => ∃ (S2 : List KS) (spb : Option Addr) (scb : Nat), (f 1 = .pointer (some ⟨b1, 0, none⟩) ∧ f 2 = .pointer (some ⟨b2, 0, none⟩) ∧ f 5 = .pointer (some ⟨(blk (fa18 5)), 0, none⟩) ∧ f 6 = .slice spb (S2.length) scb ∧ f 7 = Nx (k) ∧ f 8 = .pointer (some ⟨(blk (fa23 8)), 0, none⟩) ∧ f 10 = .bool (u.2.isSome) ∧ f 12 = .pointer (some ⟨b29, 0, none⟩) ∧ f 13 = .bool (v.2.isSome)) ∧ L = [pt b29 (.cells (bC C2) 52), pt b24 (.cells (bC C1) 52), rowF StopF 55 spb scb S2, pt b2 (.cells #[.slice none 0 0, .slice none 0 0, .int .i64 (0), .int .i64 (0)] 30), pt b1 (.cells #[.slice va (bs.length) (vc), .slice rva (rs.length) (rvc), Ix (gx), Ix (gy)] 30), rowF BodyF 52 p1 c1 (B.set k C1), rowF RopeF 78 p2 c2 rs, pt (blk (fa18 5)) (.cells #[.slice p1 (bs.length) c1, .slice p2 (rs.length) c2, Ix (gx), Ix (gy)] 30), pt (blk (fa23 8)) (.cells #[Ix (nx), Ix (ny)] 28)] ∧ (S2 = S1 ++ stopL x.id 2 v.2 ∧ S2.length ≤ S1.length + 1)) ?_ ?_
    ·
     refine c_seq ?_
     refine c_region ?_
     refine l_val (v := .bool (v.2.isSome)) rfl rfl rfl (e_move) ?_
     refine l_nil ?_
     refine f_then ?_
     refine c_ifb (v.2.isSome) rfl (fun hc30 => ?_) (fun hc30 => ?_)
     ·
      refine c_region ?_
      refine l_val (v := .slice spa (S1.length) sca) rfl rfl rfl (e_move) ?_
      refine l_val (v := .pointer (some ⟨b24, 0, none⟩)) rfl rfl rfl (e_fieldPt (b := b24) (o := 0) rfl tf3) ?_
      refine l_val (v := Ix (C1.id)) rfl rfl rfl (e_load1 tf2 (v := Ix (C1.id)) rfl (k_pt 1 (cs := (bC C1)) (vs := [Ix (C1.id)]) rfl rfl)) ?_
      refine l_val (v := Ix (v.2.getD 0)) rfl rfl rfl (e_move) ?_
      refine l_val (v := .agg #[Ix (C1.id), .int .u8 (2), Ix (v.2.getD 0)]) rfl rfl rfl (e_build tf99 tf98 (vs := [(0, Ix (C1.id)), (1, .int .u8 (2)), (2, Ix (v.2.getD 0))]) (cells := #[Ix (C1.id), .int .u8 (2), Ix (v.2.getD 0)]) rfl rfl) ?_
      refine l_mv rfl rfl rfl (m_slices tf100 tf99 (vs := [(0, .agg #[Ix (C1.id), .int .u8 (2), Ix (v.2.getD 0)])]) (cells := #[Ix (C1.id), .int .u8 (2), Ix (v.2.getD 0)]) rfl rfl rfl rfl) ?_
      rintro _ _ ⟨b31, rfl, rfl⟩
      refine l_mv rfl rfl rfl (m_appendFlN (F := StopF) 3 tf100 tf101 (p := spa) (m := S1.length) (xs := S1) (ys := [(⟨C1.id, 2, v.2.getD 0⟩ : KS)]) (ao := (some ⟨b31, 0, none⟩)) (k := 1) (c := 1) rfl rfl rfl rfl rfl (k_ptFl (z := (⟨C1.id, 2, v.2.getD 0⟩ : KS)) 0 rfl rfl) (by first | omega | simp only [List.length_nil, List.length_cons, List.length_append, List.length_set]; omega) (by first | omega | simp only [List.length_nil, List.length_cons, List.length_append, List.length_set]; omega)) ?_
      rintro _ _ ⟨rp32, rc33, rfl, rfl⟩
      refine l_val (v := .slice rp32 ((S1 ++ [(⟨C1.id, 2, v.2.getD 0⟩ : KS)]).length) rc33) rfl rfl rfl (e_assign) ?_
      refine l_nil ?_
      refine f_mask (L' := [pt b29 (.cells (bC C2) 52), pt b24 (.cells (bC C1) 52), rowF StopF 55 rp32 rc33 (S1 ++ [(⟨C1.id, 2, v.2.getD 0⟩ : KS)]), pt b2 (.cells #[.slice none 0 0, .slice none 0 0, .int .i64 (0), .int .i64 (0)] 30), pt b1 (.cells #[.slice va (bs.length) (vc), .slice rva (rs.length) (rvc), Ix (gx), Ix (gy)] 30), rowF BodyF 52 p1 c1 (B.set k C1), rowF RopeF 78 p2 c2 rs, pt (blk (fa18 5)) (.cells #[.slice p1 (bs.length) c1, .slice p2 (rs.length) c2, Ix (gx), Ix (gy)] 30), pt (blk (fa23 8)) (.cells #[Ix (nx), Ix (ny)] 28)]) [false, true, true, true, true, true, true, true, true, true] rfl ?_
      exact f_cut ⟨(S1 ++ [(⟨C1.id, 2, v.2.getD 0⟩ : KS)]), rp32, rc33, ⟨rfl, rfl, rfl, rfl, rfl, rfl, rfl, rfl, rfl⟩, rfl, ⟨by rw [stop_yes hc30 hC1id], by simp⟩⟩
     ·
      refine c_skip ?_
      exact f_cut ⟨S1, spa, sca, ⟨rfl, rfl, rfl, rfl, rfl, rfl, rfl, rfl, rfl⟩, rfl, ⟨by rw [stop_none hc30, List.append_nil], by omega⟩⟩
    rintro f0 L0 ⟨S2, spb, scb, ⟨hs1, hs2, hs5, hs6, hs7, hs8, hs10, hs12, hs13⟩, hL, ⟨hS2, hS2l⟩⟩
    subst L0
    refine rebase (d := 1) hs1 ?_
    refine rebase (d := 2) hs2 ?_
    refine rebase (d := 5) hs5 ?_
    refine rebase (d := 6) hs6 ?_
    refine rebase (d := 7) hs7 ?_
    refine rebase (d := 8) hs8 ?_
    refine rebase (d := 10) hs10 ?_
    refine rebase (d := 12) hs12 ?_
    refine rebase (d := 13) hs13 ?_
    clear hs1 hs2 hs5 hs6 hs7 hs8 hs10 hs12 hs13
    refine c_seq_cut (fun (f : Fm) (L : List Res) => ∃ (wx : Int), (f 1 = .pointer (some ⟨b1, 0, none⟩) ∧ f 2 = .pointer (some ⟨b2, 0, none⟩) ∧ f 5 = .pointer (some ⟨(blk (fa18 5)), 0, none⟩) ∧ f 6 = .slice spb (S2.length) scb ∧ f 7 = Nx (k) ∧ f 8 = .pointer (some ⟨(blk (fa23 8)), 0, none⟩) ∧ f 12 = .pointer (some ⟨b29, 0, none⟩) ∧ f 13 = .bool (v.2.isSome)) ∧ L = [pt b29 (.cells (bC C2) 52), pt b24 (.cells (bC C1) 52), rowF StopF 55 spb scb S2, pt b2 (.cells #[.slice none 0 0, .slice none 0 0, .int .i64 (0), .int .i64 (0)] 30), pt b1 (.cells #[.slice va (bs.length) (vc), .slice rva (rs.length) (rvc), Ix (gx), Ix (gy)] 30), rowF BodyF 52 p1 c1 (B.set k C1), rowF RopeF 78 p2 c2 rs, pt (blk (fa18 5)) (.cells #[.slice p1 (bs.length) c1, .slice p2 (rs.length) c2, Ix (gx), Ix (gy)] 30), pt (blk (fa23 8)) (.cells #[Ix (wx), Ix (ny)] 28)] ∧ (wx = keepV nx u.2)) ?_ ?_
    ·
     refine c_seq ?_
     refine c_region ?_
     refine l_val (v := .bool (u.2.isSome)) rfl rfl rfl (e_move) ?_
     refine l_nil ?_
     refine f_then ?_
     refine c_ifb (u.2.isSome) rfl (fun hc34 => ?_) (fun hc34 => ?_)
     ·
      refine c_region ?_
      refine l_val (v := .pointer (some ⟨(blk (fa23 8)), 0, none⟩)) rfl rfl rfl (e_fieldPt (b := (blk (fa23 8))) (o := 0) rfl tf7) ?_
      refine l_mu rfl rfl (m_store 8 tf2 (b := (blk (fa23 8))) (o := 0) (T := 28) (cs := #[Ix (nx), Ix (ny)]) (cs' := #[.int .i64 (0), Ix (ny)]) (v := .int .i64 (0)) rfl rfl rfl rfl rfl rfl rfl) ?_
      refine l_nil ?_
      exact f_cut ⟨0, ⟨rfl, rfl, rfl, rfl, rfl, rfl, rfl, rfl⟩, rfl, (keep_yes hc34)⟩
     ·
      refine c_skip ?_
      exact f_cut ⟨nx, ⟨rfl, rfl, rfl, rfl, rfl, rfl, rfl, rfl⟩, rfl, (keep_no hc34)⟩
    rintro f0 L0 ⟨wx, ⟨hs1, hs2, hs5, hs6, hs7, hs8, hs12, hs13⟩, hL, hwx⟩
    subst L0
    refine rebase (d := 1) hs1 ?_
    refine rebase (d := 2) hs2 ?_
    refine rebase (d := 5) hs5 ?_
    refine rebase (d := 6) hs6 ?_
    refine rebase (d := 7) hs7 ?_
    refine rebase (d := 8) hs8 ?_
    refine rebase (d := 12) hs12 ?_
    refine rebase (d := 13) hs13 ?_
    clear hs1 hs2 hs5 hs6 hs7 hs8 hs12 hs13
    refine c_seq_cut (fun (f : Fm) (L : List Res) => ∃ (wy : Int), (f 1 = .pointer (some ⟨b1, 0, none⟩) ∧ f 2 = .pointer (some ⟨b2, 0, none⟩) ∧ f 5 = .pointer (some ⟨(blk (fa18 5)), 0, none⟩) ∧ f 6 = .slice spb (S2.length) scb ∧ f 7 = Nx (k) ∧ f 8 = .pointer (some ⟨(blk (fa23 8)), 0, none⟩) ∧ f 12 = .pointer (some ⟨b29, 0, none⟩)) ∧ L = [pt b29 (.cells (bC C2) 52), pt b24 (.cells (bC C1) 52), rowF StopF 55 spb scb S2, pt b2 (.cells #[.slice none 0 0, .slice none 0 0, .int .i64 (0), .int .i64 (0)] 30), pt b1 (.cells #[.slice va (bs.length) (vc), .slice rva (rs.length) (rvc), Ix (gx), Ix (gy)] 30), rowF BodyF 52 p1 c1 (B.set k C1), rowF RopeF 78 p2 c2 rs, pt (blk (fa18 5)) (.cells #[.slice p1 (bs.length) c1, .slice p2 (rs.length) c2, Ix (gx), Ix (gy)] 30), pt (blk (fa23 8)) (.cells #[Ix (wx), Ix (wy)] 28)] ∧ (wy = keepV ny v.2)) ?_ ?_
    ·
     refine c_seq ?_
     refine c_region ?_
     refine l_val (v := .bool (v.2.isSome)) rfl rfl rfl (e_move) ?_
     refine l_nil ?_
     refine f_then ?_
     refine c_ifb (v.2.isSome) rfl (fun hc35 => ?_) (fun hc35 => ?_)
     ·
      refine c_region ?_
      refine l_val (v := .pointer (some ⟨(blk (fa23 8)), 1, none⟩)) rfl rfl rfl (e_fieldPt (b := (blk (fa23 8))) (o := 0) rfl tf8) ?_
      refine l_mu rfl rfl (m_store 8 tf2 (b := (blk (fa23 8))) (o := 1) (T := 28) (cs := #[Ix (wx), Ix (ny)]) (cs' := #[Ix (wx), .int .i64 (0)]) (v := .int .i64 (0)) rfl rfl rfl rfl rfl rfl rfl) ?_
      refine l_nil ?_
      exact f_cut ⟨0, ⟨rfl, rfl, rfl, rfl, rfl, rfl, rfl⟩, rfl, (keep_yes hc35)⟩
     ·
      refine c_skip ?_
      exact f_cut ⟨ny, ⟨rfl, rfl, rfl, rfl, rfl, rfl, rfl⟩, rfl, (keep_no hc35)⟩
    rintro f0 L0 ⟨wy, ⟨hs1, hs2, hs5, hs6, hs7, hs8, hs12⟩, hL, hwy⟩
    subst L0
    refine rebase (d := 1) hs1 ?_
    refine rebase (d := 2) hs2 ?_
    refine rebase (d := 5) hs5 ?_
    refine rebase (d := 6) hs6 ?_
    refine rebase (d := 7) hs7 ?_
    refine rebase (d := 8) hs8 ?_
    refine rebase (d := 12) hs12 ?_
    clear hs1 hs2 hs5 hs6 hs7 hs8 hs12
    refine c_seq ?_
    refine c_region ?_
    refine l_val (v := .agg #[Ix (wx), Ix (wy)]) rfl rfl rfl (e_load tf15 (cs := [Ix (wx), Ix (wy)]) rfl (k_pt 8 (cs := #[Ix (wx), Ix (wy)]) (vs := [Ix (wx), Ix (wy)]) rfl rfl) rfl) ?_
    refine l_val (v := .pointer (some ⟨b29, 3, none⟩)) rfl rfl rfl (e_fieldPt (b := b29) (o := 0) rfl tf9) ?_
    refine l_mu rfl rfl (m_store 0 tf15 (b := b29) (o := 3) (T := 52) (cs := (bC C2)) (cs' := #[Ix (C2.id), Ix (C2.x), Ix (C2.y), Ix (wx), Ix (wy), Ix (C2.w), Ix (C2.h), .bool (C2.round), .bool (C2.fixed)]) (v := .agg #[Ix (wx), Ix (wy)]) rfl rfl rfl rfl rfl rfl rfl) ?_
    refine l_nil ?_
    refine f_then ?_
    refine c_region ?_
    refine l_val (v := .pointer (some ⟨(blk (fa18 5)), 0, none⟩)) rfl rfl rfl (e_fieldPt (b := (blk (fa18 5))) (o := 0) rfl tf49) ?_
    refine l_val (v := .slice p1 (bs.length) c1) rfl rfl rfl (e_load1 tf50 (v := .slice p1 (bs.length) c1) rfl (k_pt 7 (cs := #[.slice p1 (bs.length) c1, .slice p2 (rs.length) c2, Ix (gx), Ix (gy)]) (vs := [.slice p1 (bs.length) c1]) rfl rfl)) ?_
    refine l_val (v := Nx (k)) rfl rfl rfl (e_move) ?_
    refine l_val (v := .agg #[Ix (C2.id), Ix (C2.x), Ix (C2.y), Ix (wx), Ix (wy), Ix (C2.w), Ix (C2.h), .bool (C2.round), .bool (C2.fixed)]) rfl rfl rfl (e_load tf22 (cs := [Ix (C2.id), Ix (C2.x), Ix (C2.y), Ix (wx), Ix (wy), Ix (C2.w), Ix (C2.h), .bool (C2.round), .bool (C2.fixed)]) rfl (k_pt 0 (cs := #[Ix (C2.id), Ix (C2.x), Ix (C2.y), Ix (wx), Ix (wy), Ix (C2.w), Ix (C2.h), .bool (C2.round), .bool (C2.fixed)]) (vs := [Ix (C2.id), Ix (C2.x), Ix (C2.y), Ix (wx), Ix (wy), Ix (C2.w), Ix (C2.h), .bool (C2.round), .bool (C2.fixed)]) rfl rfl) rfl) ?_
    refine l_val (v := .pointer (some ((ba p1).add (k * 9)))) rfl rfl rfl (e_indexFlN 5 (F := BodyF) (j := k) (m := bs.length) (xs := (B.set k C1)) rfl (by rw [List.length_set]; omega) rfl tf43 (by omega) rfl) ?_
    refine l_mu rfl rfl (m_storeFl 5 (F := BodyF) (p := p1) (k := k) (xs := (B.set k C1)) (z := (withV C2 wx wy)) tf22 rfl rfl rfl rfl (by rw [List.length_set]; omega)) ?_
    refine l_re (L' := [pt b29 (.cells #[Ix (C2.id), Ix (C2.x), Ix (C2.y), Ix (wx), Ix (wy), Ix (C2.w), Ix (C2.h), .bool (C2.round), .bool (C2.fixed)] 52), pt b24 (.cells (bC C1) 52), rowF StopF 55 spb scb S2, pt b2 (.cells #[.slice none 0 0, .slice none 0 0, .int .i64 (0), .int .i64 (0)] 30), pt b1 (.cells #[.slice va (bs.length) (vc), .slice rva (rs.length) (rvc), Ix (gx), Ix (gy)] 30), rowF BodyF 52 p1 c1 (B.set k (withV C2 wx wy)), rowF RopeF 78 p2 c2 rs, pt (blk (fa18 5)) (.cells #[.slice p1 (bs.length) c1, .slice p2 (rs.length) c2, Ix (gx), Ix (gy)] 30), pt (blk (fa23 8)) (.cells #[Ix (wx), Ix (wy)] 28)]) (by show (_ :: _ : List Res) = _; simp only [List.set_set, List.set_cons_zero, List.set_cons_succ]) ?_
    refine l_nil ?_
    refine f_block ?_
    refine f_then ?_
    refine c_region ?_
    refine l_val (v := Nx (k)) rfl rfl rfl (e_move) ?_
    refine l_val (v := Nx (k + 1)) rfl rfl rfl (e_add (a := ((k : Nat) : Int)) (b := (1 : Int)) rfl rfl (i64n (by omega) (by omega))) ?_
    refine l_val (v := Nx (k + 1)) rfl rfl rfl (e_assign) ?_
    refine l_nil ?_
    refine f_mask (L' := [rowF StopF 55 spb scb S2, pt b2 (.cells #[.slice none 0 0, .slice none 0 0, .int .i64 (0), .int .i64 (0)] 30), pt b1 (.cells #[.slice va (bs.length) (vc), .slice rva (rs.length) (rvc), Ix (gx), Ix (gy)] 30), rowF BodyF 52 p1 c1 (B.set k (withV C2 wx wy)), rowF RopeF 78 p2 c2 rs, pt (blk (fa18 5)) (.cells #[.slice p1 (bs.length) c1, .slice p2 (rs.length) c2, Ix (gx), Ix (gy)] 30)]) [false, false, true, true, true, true, true, true, false] rfl ?_
    have hnext := next8 (T := S2) hB hS hx hc20 hnx hny hu hC1 hv hC2 hwx hwy (by rw [hS2, hS1])
    have hwxb := keepV_bd u.2 hsp.1
    have hwyb := keepV_bd v.2 hsp.2
    rw [← hwx] at hwxb
    rw [← hwy] at hwyb
    exact f_cut ⟨(k + 1, (B.set k (withV C2 wx wy)), S2, spb, scb), ⟨⟨rfl, rfl, rfl, rfl, rfl⟩, rfl, ⟨by omega, hnext.1, hnext.2, hid.set hx (show (withV C2 wx wy).id = x.id from hC2id), okB_set hBok (okB_withV hC2ok (by rw [hC2f]; exact hc20) hwxb hwyb), by omega⟩⟩, (show bs.length - (k + 1) < bs.length - k from by omega)⟩
  ·
   refine c_exit ?_
   refine f_then_exit ?_
   refine f_then_exit ?_
   refine f_exit ?_
   refine f_then ?_
   refine c_seq ?_
   refine c_region ?_
   refine l_val (v := .agg #[.slice p1 (bs.length) c1, .slice p2 (rs.length) c2, Ix (gx), Ix (gy)]) rfl rfl rfl (e_load tf86 (cs := [.slice p1 (bs.length) c1, .slice p2 (rs.length) c2, Ix (gx), Ix (gy)]) rfl (k_pt 5 (cs := #[.slice p1 (bs.length) c1, .slice p2 (rs.length) c2, Ix (gx), Ix (gy)]) (vs := [.slice p1 (bs.length) c1, .slice p2 (rs.length) c2, Ix (gx), Ix (gy)]) rfl rfl) rfl) ?_
   refine l_val (v := .slice sp (S.length) sc) rfl rfl rfl (e_move) ?_
   refine l_mu rfl rfl (m_store 1 tf86 (b := b2) (o := 0) (T := 30) (cs := #[.slice none 0 0, .slice none 0 0, .int .i64 (0), .int .i64 (0)]) (cs' := #[.slice p1 (bs.length) c1, .slice p2 (rs.length) c2, Ix (gx), Ix (gy)]) (v := .agg #[.slice p1 (bs.length) c1, .slice p2 (rs.length) c2, Ix (gx), Ix (gy)]) rfl rfl rfl rfl rfl rfl rfl) ?_
   refine l_val (v := .slice sp (S.length) sc) rfl rfl rfl (e_assign) ?_
   refine l_val (v := .int .i64 (0)) rfl rfl rfl (e_assign) ?_
   refine l_nil ?_
   refine f_then ?_
   refine c_ret ?_
   refine retG (l := [.cell 2 30, .tmp 3, .tmp 4]) (m := [.agg #[.slice p1 (bs.length) c1, .slice p2 (rs.length) c2, Ix (gx), Ix (gy)], .slice sp (S.length) sc, .int .i64 (0)]) (v := .tuple #[.agg #[.slice p1 (bs.length) c1, .slice p2 (rs.length) c2, Ix (gx), Ix (gy)], .slice sp (S.length) sc, .int .i64 (0)]) Tryz.results75 ⟨rd_cell tf86 (cs := [.slice p1 (bs.length) c1, .slice p2 (rs.length) c2, Ix (gx), Ix (gy)]) rfl (k_pt 1 (cs := #[.slice p1 (bs.length) c1, .slice p2 (rs.length) c2, Ix (gx), Ix (gy)]) (vs := [.slice p1 (bs.length) c1, .slice p2 (rs.length) c2, Ix (gx), Ix (gy)]) rfl rfl) rfl, rd_tmp (v := .slice sp (S.length) sc) rfl, rd_tmp (v := .int .i64 (0)) rfl, trivial⟩ rfl ?_
   intro w hw
   obtain rfl : k = bs.length := by omega
   subst hS
   refine .inl ⟨⟨o1, o2, o3, o4, o5, o6⟩, p1, c1, p2, c2, sp, sc, rfl, ?_⟩
   have hw2 := st_mask (L' := [rowF StopF 55 sp sc ((stepsTo rs gx gy bs bs.length).2), rowF BodyF 52 p1 c1 B, rowF RopeF 78 p2 c2 rs]) [true, false, false, true, true, false] rfl hw
   rw [hB] at hw2
   exact hw2.perm (perm_ix [1, 2, 0] 3 rfl (by kernel_rfl) (by kernel_rfl))
end Go.Proofs
