/-
 The reference's links, numbers that are lent: walked. Printed by a program of my own.
-/
import Derived.Test.YtoijanalppaplaaGreatIs12
import Derived.Test.YtoijanalppaplaaGreatIsSt2
import Derived.Test.YtoijanalppaplaaGreatSlC
namespace Go.Isl
open Go.Sl Go.Brd Go.Stp Go.Proofs
def ropeP (a b : KB) (r : KR) : Prop := (r.a = a.id ∧ r.b = b.id) ∨ (r.a = b.id ∧ r.b = a.id)
instance (a b : KB) (r : KR) : Decidable (ropeP a b r) := by unfold ropeP; infer_instance
/-- two bodies are linked, as the reference says it -/
def lkP (rs : List KR) (gx gy : Int) (a b : KB) : Prop := (∃ r ∈ rs, ropeP a b r) ∨ meetA (reachA a gx gy) (reachA b gx gy)
instance (rs : List KR) (gx gy : Int) (a b : KB) : Decidable (lkP rs gx gy a b) := by unfold lkP; infer_instance
theorem comR_yes {a b : KA} (h : meetA a b) : comR a b = comA a b := if_pos h
theorem comR_no {a b : KA} (h : ¬ meetA a b) : comR a b = zeroA := if_neg h
end Go.Isl
namespace Go.Proofs
open Go Go.Sl Go.Brd Go.Stp Go.Isl
theorem tf95 : cfB Tryz.prog 125 = true := by kernel_rfl
theorem tf96 : cfB Tryz.prog 80 = true := by kernel_rfl
theorem tf97 : cfB Tryz.prog 50 = true := by kernel_rfl
set_option maxHeartbeats 4000000 in
theorem rcommon_ok (β : Base) (w : World) (hw : St β [] w) (a b : KA) : Calls Tryz.prog 125 #[.agg (aC a), .agg (aC b)] w fun r w' => r = .returned (.tuple #[.agg (aC (comR a b)), .bool (decide (meetA a b))]) ∧ St β [] w' := by
 refine enter (n := 52) Tryz.func125 rfl Tryz.ntmps125 rfl ?_ hw
 refine csr ?_
 refine l_mv rfl rfl rfl (m_box (v := .agg (aC a)) rfl) ?_
 rintro _ _ ⟨b1, rfl, rfl⟩
 refine l_mv rfl rfl rfl (m_box (v := .agg (aC b)) rfl) ?_
 rintro _ _ ⟨b2, rfl, rfl⟩
 refine l_mv rfl rfl rfl (m_alloc tf0) ?_
 rintro _ _ ⟨b3, rfl, rfl⟩
 refine lv (v := .bool false) e_assign ?_
 refine lnf ?_
 refine cs2 ?_
 refine c_region ?_
 refine lv (v := .agg (aC a)) (e_load tf4 rfl (k_pt 2 rfl rfl) rfl) ?_
 refine lcf (cl0 (vs := [.agg (aC a)]) tf84 rfl rfl) rfl fun w β1 sb kn hw1 back => (rvalid_ok β1 w hw1 a).mono ?_
 rintro e w' ⟨rfl, hw'⟩
 refine ⟨_, rfl, _, back _ _ hw', ?_⟩
 clear hw1 hw' back kn sb
 refine lv (v := .bool (decide (¬ (okA a)))) (e_not_p (p := okA a) rfl) ?_
 refine lv (v := .bool (decide (¬ (okA a)))) e_move ?_
 refine l_split (s := 10) (p := ¬ (okA a)) rfl (fun hg4 => ?_) (fun hg4 => ?_)
 ·refine l_skip rfl rfl rfl rfl rfl rfl ?_
  refine l_skip rfl rfl rfl rfl rfl rfl ?_
  refine l_skip rfl rfl rfl rfl rfl rfl ?_
  refine lv (v := .bool true) (e_pick_t rfl) ?_
  refine lnf ?_
  refine c_yes rfl ?_
  refine csr ?_
  refine lv (v := .agg #[.int .i64 (0), .int .i64 (0), .int .i64 (0), .int .i64 (0)]) (e_build tf0 tf3 (vs := []) (cells := #[.int .i64 (0), .int .i64 (0), .int .i64 (0), .int .i64 (0)]) rfl rfl) ?_
  refine lu (m_store 0 tf4 (cs' := #[.int .i64 (0), .int .i64 (0), .int .i64 (0), .int .i64 (0)]) rfl rfl rfl rfl rfl rfl rfl) ?_
  refine lv (v := .bool false) e_assign ?_
  refine lnf ?_
  refine c_ret ?_
  refine f_then_ret ?_
  refine retG (m := [.agg #[.int .i64 (0), .int .i64 (0), .int .i64 (0), .int .i64 (0)], .bool false]) Tryz.results125 ⟨rd_cell tf4 rfl (k_pt 0 rfl rfl) rfl, rd_tmp (v := .bool false) rfl, trivial⟩ rfl ?_
  intro w hw
  have hm : ¬ meetA a b := fun q => hg4 q.1
  exact ⟨by rw [comR_no hm, decide_eq_false hm] <;> rfl, st_mask [false, false, false] rfl hw⟩
 refine g_val (v := .agg (aC b)) rfl rfl rfl rfl rfl (e_load tf4 rfl (k_pt 1 rfl rfl) rfl) ?_
 refine g_call rfl rfl rfl rfl rfl (cl0 (vs := [.agg (aC b)]) tf84 rfl rfl) ?_
 intro w hw
 obtain ⟨β1, sb, kn, hw1, back⟩ := St.frame_all hw
 refine (rvalid_ok β1 w hw1 b).mono ?_
 rintro e w' ⟨rfl, hw'⟩
 refine ⟨_, rfl, _, back _ _ hw', ?_⟩
 clear hw hw1 hw' back kn sb
 refine g_val (v := .bool (decide (¬ (okA b)))) rfl rfl rfl rfl rfl (e_not_p (p := okA b) rfl) ?_
 refine lv (v := .bool (decide (¬ (okA b)))) (e_pick_f rfl) ?_
 refine lnf ?_
 refine c_if (¬ (okA b)) rfl (fun hc5 => ?_) (fun hc5 => ?_)
 ·refine csr ?_
  refine lv (v := .agg #[.int .i64 (0), .int .i64 (0), .int .i64 (0), .int .i64 (0)]) (e_build tf0 tf3 (vs := []) (cells := #[.int .i64 (0), .int .i64 (0), .int .i64 (0), .int .i64 (0)]) rfl rfl) ?_
  refine lu (m_store 0 tf4 (cs' := #[.int .i64 (0), .int .i64 (0), .int .i64 (0), .int .i64 (0)]) rfl rfl rfl rfl rfl rfl rfl) ?_
  refine lv (v := .bool false) e_assign ?_
  refine lnf ?_
  refine c_ret ?_
  refine f_then_ret ?_
  refine retG (m := [.agg #[.int .i64 (0), .int .i64 (0), .int .i64 (0), .int .i64 (0)], .bool false]) Tryz.results125 ⟨rd_cell tf4 rfl (k_pt 0 rfl rfl) rfl, rd_tmp (v := .bool false) rfl, trivial⟩ rfl ?_
  intro w hw
  have hm : ¬ meetA a b := fun q => hc5 q.2.1
  exact ⟨by rw [comR_no hm, decide_eq_false hm] <;> rfl, st_mask [false, false, false] rfl hw⟩
 refine csk ?_
 refine csr ?_
 refine lv (v := pp b1 0) (e_fieldPt rfl tf81) ?_
 refine lv (v := pp b1 0) (e_fieldPt rfl tf10) ?_
 refine lv (v := Ix (a.lx)) (e_load1 tf11 rfl (k_pt 2 rfl rfl)) ?_
 refine lv (v := pp b2 0) (e_fieldPt rfl tf81) ?_
 refine lv (v := pp b2 0) (e_fieldPt rfl tf10) ?_
 refine lv (v := Ix (b.lx)) (e_load1 tf11 rfl (k_pt 1 rfl rfl)) ?_
 refine lv (v := Ix (max (a.lx) (b.lx))) (e_max (a := (a.lx)) (b := (b.lx)) rfl rfl) ?_
 refine lv (v := pp b1 0) (e_fieldPt rfl tf81) ?_
 refine lv (v := pp b1 1) (e_fieldPt rfl tf12) ?_
 refine lv (v := Ix (a.ly)) (e_load1 tf11 rfl (k_pt 2 rfl rfl)) ?_
 refine lv (v := pp b2 0) (e_fieldPt rfl tf81) ?_
 refine lv (v := pp b2 1) (e_fieldPt rfl tf12) ?_
 refine lv (v := Ix (b.ly)) (e_load1 tf11 rfl (k_pt 1 rfl rfl)) ?_
 refine lv (v := Ix (max (a.ly) (b.ly))) (e_max (a := (a.ly)) (b := (b.ly)) rfl rfl) ?_
 refine lv (v := .agg #[Ix (max (a.lx) (b.lx)), Ix (max (a.ly) (b.ly))]) (e_build tf8 tf13 (vs := [(0, Ix (max (a.lx) (b.lx))), (1, Ix (max (a.ly) (b.ly)))]) (cells := #[Ix (max (a.lx) (b.lx)), Ix (max (a.ly) (b.ly))]) rfl rfl) ?_
 refine lv (v := pp b1 2) (e_fieldPt rfl tf83) ?_
 refine lv (v := pp b1 2) (e_fieldPt rfl tf10) ?_
 refine lv (v := Ix (a.hx)) (e_load1 tf11 rfl (k_pt 2 rfl rfl)) ?_
 refine lv (v := pp b2 2) (e_fieldPt rfl tf83) ?_
 refine lv (v := pp b2 2) (e_fieldPt rfl tf10) ?_
 refine lv (v := Ix (b.hx)) (e_load1 tf11 rfl (k_pt 1 rfl rfl)) ?_
 refine lv (v := Ix (min (a.hx) (b.hx))) (e_min (a := (a.hx)) (b := (b.hx)) rfl rfl) ?_
 refine lv (v := pp b1 2) (e_fieldPt rfl tf83) ?_
 refine lv (v := pp b1 3) (e_fieldPt rfl tf12) ?_
 refine lv (v := Ix (a.hy)) (e_load1 tf11 rfl (k_pt 2 rfl rfl)) ?_
 refine lv (v := pp b2 2) (e_fieldPt rfl tf83) ?_
 refine lv (v := pp b2 3) (e_fieldPt rfl tf12) ?_
 refine lv (v := Ix (b.hy)) (e_load1 tf11 rfl (k_pt 1 rfl rfl)) ?_
 refine lv (v := Ix (min (a.hy) (b.hy))) (e_min (a := (a.hy)) (b := (b.hy)) rfl rfl) ?_
 refine lv (v := .agg #[Ix (min (a.hx) (b.hx)), Ix (min (a.hy) (b.hy))]) (e_build tf8 tf13 (vs := [(0, Ix (min (a.hx) (b.hx))), (1, Ix (min (a.hy) (b.hy)))]) (cells := #[Ix (min (a.hx) (b.hx)), Ix (min (a.hy) (b.hy))]) rfl rfl) ?_
 refine lv (v := .agg #[Ix (max (a.lx) (b.lx)), Ix (max (a.ly) (b.ly)), Ix (min (a.hx) (b.hx)), Ix (min (a.hy) (b.hy))]) (e_build tf0 tf3 (vs := [(0, .agg #[Ix (max (a.lx) (b.lx)), Ix (max (a.ly) (b.ly))]), (1, .agg #[Ix (min (a.hx) (b.hx)), Ix (min (a.hy) (b.hy))])]) (cells := #[Ix (max (a.lx) (b.lx)), Ix (max (a.ly) (b.ly)), Ix (min (a.hx) (b.hx)), Ix (min (a.hy) (b.hy))]) rfl rfl) ?_
 refine l_mv rfl rfl rfl (m_alloc tf0) ?_
 rintro _ _ ⟨b6, rfl, rfl⟩
 refine lu (m_store 0 tf4 (cs' := #[Ix (max (a.lx) (b.lx)), Ix (max (a.ly) (b.ly)), Ix (min (a.hx) (b.hx)), Ix (min (a.hy) (b.hy))]) rfl rfl rfl rfl rfl rfl rfl) ?_
 refine lnf ?_
 refine cs2 ?_
 refine c_region ?_
 refine lv (v := .agg #[Ix (max (a.lx) (b.lx)), Ix (max (a.ly) (b.ly)), Ix (min (a.hx) (b.hx)), Ix (min (a.hy) (b.hy))]) (e_load tf4 rfl (k_pt 0 rfl rfl) rfl) ?_
 refine lcf (cl0 (vs := [.agg #[Ix (max (a.lx) (b.lx)), Ix (max (a.ly) (b.ly)), Ix (min (a.hx) (b.hx)), Ix (min (a.hy) (b.hy))]]) tf84 rfl rfl) rfl fun w β1 sb kn hw1 back => (rvalid_ok β1 w hw1 (comA a b)).mono ?_
 rintro e w' ⟨rfl, hw'⟩
 refine ⟨_, rfl, _, back _ _ hw', ?_⟩
 clear hw1 hw' back kn sb
 refine lv (v := .bool (decide (¬ (okA (comA a b))))) (e_not_p (p := okA (comA a b)) rfl) ?_
 refine lnf ?_
 refine c_if (¬ (okA (comA a b))) rfl (fun hc7 => ?_) (fun hc7 => ?_)
 ·refine csr ?_
  refine lv (v := .agg #[.int .i64 (0), .int .i64 (0), .int .i64 (0), .int .i64 (0)]) (e_build tf0 tf3 (vs := []) (cells := #[.int .i64 (0), .int .i64 (0), .int .i64 (0), .int .i64 (0)]) rfl rfl) ?_
  refine lu (m_store 1 tf4 (cs' := #[.int .i64 (0), .int .i64 (0), .int .i64 (0), .int .i64 (0)]) rfl rfl rfl rfl rfl rfl rfl) ?_
  refine lv (v := .bool false) e_assign ?_
  refine lnf ?_
  refine c_ret ?_
  refine f_then_ret ?_
  refine retG (m := [.agg #[.int .i64 (0), .int .i64 (0), .int .i64 (0), .int .i64 (0)], .bool false]) Tryz.results125 ⟨rd_cell tf4 rfl (k_pt 1 rfl rfl) rfl, rd_tmp (v := .bool false) rfl, trivial⟩ rfl ?_
  intro w hw
  have hm : ¬ meetA a b := fun q => hc7 q.2.2
  exact ⟨by rw [comR_no hm, decide_eq_false hm] <;> rfl, st_mask [false, false, false, false] rfl hw⟩
 refine csk ?_
 refine csr ?_
 refine lv (v := .agg #[Ix (max (a.lx) (b.lx)), Ix (max (a.ly) (b.ly)), Ix (min (a.hx) (b.hx)), Ix (min (a.hy) (b.hy))]) (e_load tf4 rfl (k_pt 0 rfl rfl) rfl) ?_
 refine lu (m_store 1 tf4 (cs' := #[Ix (max (a.lx) (b.lx)), Ix (max (a.ly) (b.ly)), Ix (min (a.hx) (b.hx)), Ix (min (a.hy) (b.hy))]) rfl rfl rfl rfl rfl rfl rfl) ?_
 refine lv (v := .bool true) e_assign ?_
 refine lnf ?_
 refine c_ret ?_
 refine retG (m := [.agg #[Ix (max (a.lx) (b.lx)), Ix (max (a.ly) (b.ly)), Ix (min (a.hx) (b.hx)), Ix (min (a.hy) (b.hy))], .bool true]) Tryz.results125 ⟨rd_cell tf4 rfl (k_pt 1 rfl rfl) rfl, rd_tmp (v := .bool true) rfl, trivial⟩ rfl ?_
 intro w hw
 have hm : meetA a b := ⟨(Decidable.not_not.1 hg4), (Decidable.not_not.1 hc5), (Decidable.not_not.1 hc7)⟩
 exact ⟨by rw [comR_yes hm, decide_eq_true hm] <;> rfl, st_mask [false, false, false, false] rfl hw⟩
theorem rmeet_ok (β : Base) (w : World) (hw : St β [] w) (a b : KA) : Calls Tryz.prog 80 #[.agg (aC a), .agg (aC b)] w fun r w' => r = .returned (.bool (decide (meetA a b))) ∧ St β [] w' := by
 refine enter (n := 14) Tryz.func80 rfl Tryz.ntmps80 rfl ?_ hw
 refine csr ?_
 refine l_mv rfl rfl rfl (m_box (v := .agg (aC a)) rfl) ?_
 rintro _ _ ⟨b1, rfl, rfl⟩
 refine l_mv rfl rfl rfl (m_box (v := .agg (aC b)) rfl) ?_
 rintro _ _ ⟨b2, rfl, rfl⟩
 refine lv (v := .bool false) e_assign ?_
 refine lnc ?_
 refine lv (v := .agg (aC a)) (e_load tf4 rfl (k_pt 1 rfl rfl) rfl) ?_
 refine lv (v := .agg (aC b)) (e_load tf4 rfl (k_pt 0 rfl rfl) rfl) ?_
 refine lcf (cl0 (vs := [.agg (aC a), .agg (aC b)]) tf95 rfl rfl) rfl fun w β1 sb kn hw1 back => (rcommon_ok β1 w hw1 a b).mono ?_
 rintro e w' ⟨rfl, hw'⟩
 refine ⟨_, rfl, _, back _ _ hw', ?_⟩
 clear hw1 hw' back kn sb
 refine lv (v := .tuple #[.agg (aC (comR a b)), .bool (decide (meetA a b))]) e_move ?_
 refine lv (v := .agg (aC (comR a b))) (e_extract (vs := #[.agg (aC (comR a b)), .bool (decide (meetA a b))]) rfl rfl) ?_
 refine lv (v := .bool (decide (meetA a b))) (e_extract (vs := #[.agg (aC (comR a b)), .bool (decide (meetA a b))]) rfl rfl) ?_
 refine l_mv rfl rfl rfl (m_alloc tf0) ?_
 rintro _ _ ⟨b3, rfl, rfl⟩
 refine lu (m_store 0 tf4 (cs' := (aC (comR a b))) rfl rfl rfl rfl rfl rfl rfl) ?_
 refine lv (v := .bool (decide (meetA a b))) e_assign ?_
 refine lnc ?_
 refine lv (v := .bool (decide (meetA a b))) e_move ?_
 refine lv (v := .bool (decide (meetA a b))) e_assign ?_
 refine lnf ?_
 refine c_ret ?_
 refine ret1 Tryz.results80 (v := .bool (decide (meetA a b))) rfl ?_
 intro w hw
 exact ⟨rfl, st_mask [false, false, false] rfl hw⟩
set_option maxHeartbeats 4000000 in
theorem linked_ok (β : Base) (w : World) (hw : St β [] w) (v u : Value) (gx gy : Int) (bs : List KB) (rs : List KR) (hs : Sl KBR β.heap v bs) (hr : Sl KRR β.heap u rs) (a b : KB) (hgx : -9223372036854775808 ≤ gx ∧ gx ≤ 9223372036854775807) (hgy : -9223372036854775808 ≤ gy ∧ gy ≤ 9223372036854775807) : Calls Tryz.prog 51 #[.agg #[v, u, Ix gx, Ix gy], .agg (bC a), .agg (bC b)] w fun r w' => r = .returned (.bool (decide (lkP rs gx gy a b))) ∧ St β [] w' := by
 obtain ⟨va, vc, rfl, vl, vm, ve⟩ := hs.get
 obtain ⟨ua, uc, rfl, ul, um, ue⟩ := hr.get
 refine enter (n := 66) Tryz.func51 rfl Tryz.ntmps51 rfl ?_ hw
 refine csr ?_
 refine l_mv rfl rfl rfl (m_box (v := .agg #[sB va bs (vc), sB ua rs (uc), Ix (gx), Ix (gy)]) rfl) ?_
 rintro _ _ ⟨b1, rfl, rfl⟩
 refine l_mv rfl rfl rfl (m_box (v := .agg (bC a)) rfl) ?_
 rintro _ _ ⟨b2, rfl, rfl⟩
 refine l_mv rfl rfl rfl (m_box (v := .agg (bC b)) rfl) ?_
 rintro _ _ ⟨b3, rfl, rfl⟩
 refine lv (v := .bool false) e_assign ?_
 refine lnf ?_
 refine cs2 ?_
 refine c_region ?_
 refine l_val (v := .int .i64 (0)) rfl rfl rfl e_assign ?_
 refine lnf ?_
 refine c_block ?_
 refine c_loop (fun (k : Nat) (f : Fm) (L : List Res) => (f 3 = pp b1 0 ∧ f 4 = pp b2 0 ∧ f 5 = pp b3 0 ∧ f 7 = Nx (k)) ∧ L = [pt b3 (.cells (bC b) 33), pt b2 (.cells (bC a) 33), pt b1 (.cells #[sB va bs (vc), sB ua rs (uc), Ix (gx), Ix (gy)] 27)] ∧ (k ≤ rs.length ∧ ∀ r ∈ rs.take k, ¬ ropeP a b r)) (fun (k : Nat) => rs.length - k) 0 ?_ ?_
 ·exact ⟨⟨rfl, rfl, rfl, rfl⟩, rfl, ⟨by omega, fun y hy => by simp at hy⟩⟩
 rintro k f0 L0 ⟨⟨hs3, hs4, hs5, hs7⟩, hL, ⟨hk, hno⟩⟩
 subst L0
 refine rebase (d := 3) hs3 ?_
 refine rebase (d := 4) hs4 ?_
 refine rebase (d := 5) hs5 ?_
 refine rebase (d := 7) hs7 ?_
 clear hs3 hs4 hs5 hs7
 refine cs2 ?_
 refine c_region ?_
 refine lv (v := Nx (k)) e_move ?_
 refine lv (v := pp b1 1) (e_fieldPt rfl tf52) ?_
 refine lv (v := sB ua rs (uc)) (e_load1 tf53 rfl (k_pt 2 rfl rfl)) ?_
 refine lv (v := Nx (rs.length)) (e_len (a := ua) (n := rs.length) (c := uc) rfl tf54) ?_
 refine lv (e_lss (a := ((k : Nat) : Int)) (b := ((rs.length : Nat) : Int)) rfl rfl) ?_
 refine lnf ?_
 refine c_if (((k : Nat) : Int) < ((rs.length : Nat) : Int)) rfl (fun hc4 => ?_) (fun hc4 => ?_)
 ·refine csk ?_
  refine c_seq ?_
  refine c_block ?_
  refine c_seq ?_
  refine c_quiet (by kernel_rfl) (by kernel_rfl) ?_
  refine q_val (v := pp b1 1) rfl rfl rfl (e_fieldPt rfl tf52) ?_
  refine q_val (v := sB ua rs (uc)) rfl rfl rfl (e_load1 tf53 rfl (k_pt 2 rfl rfl)) ?_
  refine q_val (v := Nx (k)) rfl rfl rfl e_move ?_
  obtain ⟨x5, hx6⟩ : ∃ x_, (rs)[k]? = some x_ := ⟨_, List.getElem?_eq_getElem (by omega)⟩
  obtain ⟨ha7, cs8, hc9, rfl⟩ := ue _ _ hx6
  refine q_val (v := .pointer (some ((ba ua).add (k * 3)))) rfl rfl rfl (e_indexAddr (k := k) (len := rs.length) (cap := uc) (a := ua) rfl rfl tf55 (by omega) ha7) ?_
  refine q_val (v := .pointer (some (((ba ua).add (k * 3) : Addr).add 0))) rfl rfl rfl (e_fieldAddr (a := (ba ua).add (k * 3)) rfl tf58) ?_
  refine q_val (v := Ix (x5.a)) rfl rfl rfl (e_load1 tf11 rfl (Knows.imp (kB hc9) (fun _ h => Cs.sub (vs := [Ix (x5.a)]) 0 h rfl))) ?_
  refine q_val (v := pp b2 0) rfl rfl rfl (e_fieldPt rfl tf27) ?_
  refine q_val (v := Ix (a.id)) rfl rfl rfl (e_load1 tf11 rfl (k_pt 1 rfl rfl)) ?_
  refine q_val rfl rfl rfl (e_eql (a := (x5.a)) (b := (a.id)) rfl rfl) ?_
  refine q_val (v := .bool (decide ((x5.a) = (a.id)))) rfl rfl rfl e_move ?_
  refine q_split (s := 24) (p := (x5.a) = (a.id)) rfl (fun hg11 => ?_) (fun hg11 => ?_)
  ·refine qg_val (v := pp b1 1) rfl rfl rfl rfl rfl (e_fieldPt rfl tf52) ?_
   refine qg_val (v := sB ua rs (uc)) rfl rfl rfl rfl rfl (e_load1 tf53 rfl (k_pt 2 rfl rfl)) ?_
   refine qg_val (v := Nx (k)) rfl rfl rfl rfl rfl e_move ?_
   refine qg_val (v := .pointer (some ((ba ua).add (k * 3)))) rfl rfl rfl rfl rfl (e_indexAddr (k := k) (len := rs.length) (cap := uc) (a := ua) rfl rfl tf55 (by omega) ha7) ?_
   refine qg_val (v := .pointer (some (((ba ua).add (k * 3) : Addr).add 1))) rfl rfl rfl rfl rfl (e_fieldAddr (a := (ba ua).add (k * 3)) rfl tf60) ?_
   refine qg_val (v := Ix (x5.b)) rfl rfl rfl rfl rfl (e_load1 tf11 rfl (Knows.imp (kB hc9) (fun _ h => Cs.sub (vs := [Ix (x5.b)]) 1 h rfl))) ?_
   refine qg_val (v := pp b3 0) rfl rfl rfl rfl rfl (e_fieldPt rfl tf27) ?_
   refine qg_val (v := Ix (b.id)) rfl rfl rfl rfl rfl (e_load1 tf11 rfl (k_pt 0 rfl rfl)) ?_
   refine qg_val rfl rfl rfl rfl rfl (e_eql (a := (x5.b)) (b := (b.id)) rfl rfl) ?_
   refine q_val (v := .bool (decide ((x5.b) = (b.id)))) rfl rfl rfl (e_pick_t rfl) ?_
   refine q_val (v := .bool (decide ((x5.b) = (b.id)))) rfl rfl rfl e_move ?_
   refine q_split (s := 35) (p := (x5.b) = (b.id)) rfl (fun hg12 => ?_) (fun hg12 => ?_)
   ·refine q_skip rfl rfl rfl rfl rfl rfl ?_
    refine q_skip rfl rfl rfl rfl rfl rfl ?_
    refine q_skip rfl rfl rfl rfl rfl rfl ?_
    refine q_skip rfl rfl rfl rfl rfl rfl ?_
    refine q_skip rfl rfl rfl rfl rfl rfl ?_
    refine q_skip rfl rfl rfl rfl rfl rfl ?_
    refine q_skip rfl rfl rfl rfl rfl rfl ?_
    refine q_skip rfl rfl rfl rfl rfl rfl ?_
    refine q_skip rfl rfl rfl rfl rfl rfl ?_
    refine q_skip rfl rfl rfl rfl rfl rfl ?_
    refine q_skip_u rfl rfl rfl rfl rfl ?_
    refine q_skip_u rfl rfl rfl rfl rfl ?_
    refine q_skip_u rfl rfl rfl rfl rfl ?_
    refine q_skip_u rfl rfl rfl rfl rfl ?_
    refine q_skip_u rfl rfl rfl rfl rfl ?_
    refine q_skip_u rfl rfl rfl rfl rfl ?_
    refine q_skip_u rfl rfl rfl rfl rfl ?_
    refine q_skip_u rfl rfl rfl rfl rfl ?_
    refine q_skip_u rfl rfl rfl rfl rfl ?_
    refine q_skip rfl rfl rfl rfl rfl rfl ?_
    refine q_val (v := .bool true) rfl rfl rfl (e_pick_t rfl) ?_
    refine q_nil ?_
    refine f_then ?_
    refine c_yes rfl ?_
    refine csr ?_
    refine l_val (v := .bool true) rfl rfl rfl e_assign ?_
    refine lnf ?_
    refine c_ret ?_
    refine f_block_ret ?_
    refine f_then_ret ?_
    refine f_then_ret ?_
    refine f_block_ret ?_
    refine f_then_ret ?_
    refine ret1 Tryz.results51 (v := .bool true) rfl ?_
    intro w hw
    exact ⟨congrArg (fun b : Bool => Ending.returned (.bool b)) (decide_eq_true (.inl ⟨_, List.mem_of_getElem? hx6, by unfold ropeP; omega⟩)).symm, st_mask [false, false, false] rfl hw⟩
   refine qg_val (v := pp b1 1) rfl rfl rfl rfl rfl (e_fieldPt rfl tf52) ?_
   refine qg_val (v := sB ua rs (uc)) rfl rfl rfl rfl rfl (e_load1 tf53 rfl (k_pt 2 rfl rfl)) ?_
   refine qg_val (v := Nx (k)) rfl rfl rfl rfl rfl e_move ?_
   refine qg_val (v := .pointer (some ((ba ua).add (k * 3)))) rfl rfl rfl rfl rfl (e_indexAddr (k := k) (len := rs.length) (cap := uc) (a := ua) rfl rfl tf55 (by omega) ha7) ?_
   refine qg_val (v := .pointer (some (((ba ua).add (k * 3) : Addr).add 0))) rfl rfl rfl rfl rfl (e_fieldAddr (a := (ba ua).add (k * 3)) rfl tf58) ?_
   refine qg_val (v := Ix (x5.a)) rfl rfl rfl rfl rfl (e_load1 tf11 rfl (Knows.imp (kB hc9) (fun _ h => Cs.sub (vs := [Ix (x5.a)]) 0 h rfl))) ?_
   refine qg_val (v := pp b3 0) rfl rfl rfl rfl rfl (e_fieldPt rfl tf27) ?_
   refine qg_val (v := Ix (b.id)) rfl rfl rfl rfl rfl (e_load1 tf11 rfl (k_pt 0 rfl rfl)) ?_
   refine qg_val rfl rfl rfl rfl rfl (e_eql (a := (x5.a)) (b := (b.id)) rfl rfl) ?_
   refine qg_val (v := .bool (decide ((x5.a) = (b.id)))) rfl rfl rfl rfl rfl e_move ?_
   refine q_split (s := 45) (p := (x5.a) = (b.id)) rfl (fun hg13 => ?_) (fun hg13 => ?_)
   ·refine qg_val (v := pp b1 1) rfl rfl rfl rfl rfl (e_fieldPt rfl tf52) ?_
    refine qg_val (v := sB ua rs (uc)) rfl rfl rfl rfl rfl (e_load1 tf53 rfl (k_pt 2 rfl rfl)) ?_
    refine qg_val (v := Nx (k)) rfl rfl rfl rfl rfl e_move ?_
    refine qg_val (v := .pointer (some ((ba ua).add (k * 3)))) rfl rfl rfl rfl rfl (e_indexAddr (k := k) (len := rs.length) (cap := uc) (a := ua) rfl rfl tf55 (by omega) ha7) ?_
    refine qg_val (v := .pointer (some (((ba ua).add (k * 3) : Addr).add 1))) rfl rfl rfl rfl rfl (e_fieldAddr (a := (ba ua).add (k * 3)) rfl tf60) ?_
    refine qg_val (v := Ix (x5.b)) rfl rfl rfl rfl rfl (e_load1 tf11 rfl (Knows.imp (kB hc9) (fun _ h => Cs.sub (vs := [Ix (x5.b)]) 1 h rfl))) ?_
    refine qg_val (v := pp b2 0) rfl rfl rfl rfl rfl (e_fieldPt rfl tf27) ?_
    refine qg_val (v := Ix (a.id)) rfl rfl rfl rfl rfl (e_load1 tf11 rfl (k_pt 1 rfl rfl)) ?_
    refine qg_val rfl rfl rfl rfl rfl (e_eql (a := (x5.b)) (b := (a.id)) rfl rfl) ?_
    refine qg_val (v := .bool (decide ((x5.b) = (a.id)))) rfl rfl rfl rfl rfl (e_pick_t rfl) ?_
    refine q_val (v := .bool (decide ((x5.b) = (a.id)))) rfl rfl rfl (e_pick_f rfl) ?_
    refine q_nil ?_
    refine f_then ?_
    refine c_if ((x5.b) = (a.id)) rfl (fun hc14 => ?_) (fun hc14 => ?_)
    ·refine csr ?_
     refine l_val (v := .bool true) rfl rfl rfl e_assign ?_
     refine lnf ?_
     refine c_ret ?_
     refine f_block_ret ?_
     refine f_then_ret ?_
     refine f_then_ret ?_
     refine f_block_ret ?_
     refine f_then_ret ?_
     refine ret1 Tryz.results51 (v := .bool true) rfl ?_
     intro w hw
     exact ⟨congrArg (fun b : Bool => Ending.returned (.bool b)) (decide_eq_true (.inl ⟨_, List.mem_of_getElem? hx6, by unfold ropeP; omega⟩)).symm, st_mask [false, false, false] rfl hw⟩
    refine c_skip ?_
    refine f_block ?_
    refine f_then ?_
    refine c_region ?_
    refine lv (v := Nx (k)) e_move ?_
    refine lv (v := Nx (k + 1)) (e_add (a := ((k : Nat) : Int)) (b := (1 : Int)) rfl rfl (i64n (by omega) (by omega))) ?_
    refine lv (v := Nx (k + 1)) e_assign ?_
    refine l_nil ?_
    exact f_cut ⟨k + 1, ⟨⟨rfl, rfl, rfl, rfl⟩, rfl, ⟨by omega, al_next hx6 hno (fun q => by unfold ropeP at q; omega)⟩⟩, (show rs.length - (k + 1) < rs.length - k from by omega)⟩
   refine q_skip rfl rfl rfl rfl rfl rfl ?_
   refine q_skip rfl rfl rfl rfl rfl rfl ?_
   refine q_skip rfl rfl rfl rfl rfl rfl ?_
   refine q_skip rfl rfl rfl rfl rfl rfl ?_
   refine q_skip rfl rfl rfl rfl rfl rfl ?_
   refine q_skip rfl rfl rfl rfl rfl rfl ?_
   refine q_skip rfl rfl rfl rfl rfl rfl ?_
   refine q_skip rfl rfl rfl rfl rfl rfl ?_
   refine q_skip rfl rfl rfl rfl rfl rfl ?_
   refine qg_val (v := .bool false) rfl rfl rfl rfl rfl (e_pick_f rfl) ?_
   refine q_val (v := .bool false) rfl rfl rfl (e_pick_f rfl) ?_
   refine q_nil ?_
   refine f_then ?_
   refine c_no rfl ?_
   refine c_skip ?_
   refine f_block ?_
   refine f_then ?_
   refine c_region ?_
   refine lv (v := Nx (k)) e_move ?_
   refine lv (v := Nx (k + 1)) (e_add (a := ((k : Nat) : Int)) (b := (1 : Int)) rfl rfl (i64n (by omega) (by omega))) ?_
   refine lv (v := Nx (k + 1)) e_assign ?_
   refine l_nil ?_
   exact f_cut ⟨k + 1, ⟨⟨rfl, rfl, rfl, rfl⟩, rfl, ⟨by omega, al_next hx6 hno (fun q => by unfold ropeP at q; omega)⟩⟩, (show rs.length - (k + 1) < rs.length - k from by omega)⟩
  refine q_skip rfl rfl rfl rfl rfl rfl ?_
  refine q_skip rfl rfl rfl rfl rfl rfl ?_
  refine q_skip rfl rfl rfl rfl rfl rfl ?_
  refine q_skip rfl rfl rfl rfl rfl rfl ?_
  refine q_skip rfl rfl rfl rfl rfl rfl ?_
  refine q_skip rfl rfl rfl rfl rfl rfl ?_
  refine q_skip rfl rfl rfl rfl rfl rfl ?_
  refine q_skip rfl rfl rfl rfl rfl rfl ?_
  refine q_skip rfl rfl rfl rfl rfl rfl ?_
  refine q_val (v := .bool false) rfl rfl rfl (e_pick_f rfl) ?_
  refine q_val (v := .bool false) rfl rfl rfl e_move ?_
  refine qg_val (v := pp b1 1) rfl rfl rfl rfl rfl (e_fieldPt rfl tf52) ?_
  refine qg_val (v := sB ua rs (uc)) rfl rfl rfl rfl rfl (e_load1 tf53 rfl (k_pt 2 rfl rfl)) ?_
  refine qg_val (v := Nx (k)) rfl rfl rfl rfl rfl e_move ?_
  refine qg_val (v := .pointer (some ((ba ua).add (k * 3)))) rfl rfl rfl rfl rfl (e_indexAddr (k := k) (len := rs.length) (cap := uc) (a := ua) rfl rfl tf55 (by omega) ha7) ?_
  refine qg_val (v := .pointer (some (((ba ua).add (k * 3) : Addr).add 0))) rfl rfl rfl rfl rfl (e_fieldAddr (a := (ba ua).add (k * 3)) rfl tf58) ?_
  refine qg_val (v := Ix (x5.a)) rfl rfl rfl rfl rfl (e_load1 tf11 rfl (Knows.imp (kB hc9) (fun _ h => Cs.sub (vs := [Ix (x5.a)]) 0 h rfl))) ?_
  refine qg_val (v := pp b3 0) rfl rfl rfl rfl rfl (e_fieldPt rfl tf27) ?_
  refine qg_val (v := Ix (b.id)) rfl rfl rfl rfl rfl (e_load1 tf11 rfl (k_pt 0 rfl rfl)) ?_
  refine qg_val rfl rfl rfl rfl rfl (e_eql (a := (x5.a)) (b := (b.id)) rfl rfl) ?_
  refine qg_val (v := .bool (decide ((x5.a) = (b.id)))) rfl rfl rfl rfl rfl e_move ?_
  refine q_split (s := 45) (p := (x5.a) = (b.id)) rfl (fun hg15 => ?_) (fun hg15 => ?_)
  ·refine qg_val (v := pp b1 1) rfl rfl rfl rfl rfl (e_fieldPt rfl tf52) ?_
   refine qg_val (v := sB ua rs (uc)) rfl rfl rfl rfl rfl (e_load1 tf53 rfl (k_pt 2 rfl rfl)) ?_
   refine qg_val (v := Nx (k)) rfl rfl rfl rfl rfl e_move ?_
   refine qg_val (v := .pointer (some ((ba ua).add (k * 3)))) rfl rfl rfl rfl rfl (e_indexAddr (k := k) (len := rs.length) (cap := uc) (a := ua) rfl rfl tf55 (by omega) ha7) ?_
   refine qg_val (v := .pointer (some (((ba ua).add (k * 3) : Addr).add 1))) rfl rfl rfl rfl rfl (e_fieldAddr (a := (ba ua).add (k * 3)) rfl tf60) ?_
   refine qg_val (v := Ix (x5.b)) rfl rfl rfl rfl rfl (e_load1 tf11 rfl (Knows.imp (kB hc9) (fun _ h => Cs.sub (vs := [Ix (x5.b)]) 1 h rfl))) ?_
   refine qg_val (v := pp b2 0) rfl rfl rfl rfl rfl (e_fieldPt rfl tf27) ?_
   refine qg_val (v := Ix (a.id)) rfl rfl rfl rfl rfl (e_load1 tf11 rfl (k_pt 1 rfl rfl)) ?_
   refine qg_val rfl rfl rfl rfl rfl (e_eql (a := (x5.b)) (b := (a.id)) rfl rfl) ?_
   refine qg_val (v := .bool (decide ((x5.b) = (a.id)))) rfl rfl rfl rfl rfl (e_pick_t rfl) ?_
   refine q_val (v := .bool (decide ((x5.b) = (a.id)))) rfl rfl rfl (e_pick_f rfl) ?_
   refine q_nil ?_
   refine f_then ?_
   refine c_if ((x5.b) = (a.id)) rfl (fun hc16 => ?_) (fun hc16 => ?_)
   ·refine csr ?_
    refine l_val (v := .bool true) rfl rfl rfl e_assign ?_
    refine lnf ?_
    refine c_ret ?_
    refine f_block_ret ?_
    refine f_then_ret ?_
    refine f_then_ret ?_
    refine f_block_ret ?_
    refine f_then_ret ?_
    refine ret1 Tryz.results51 (v := .bool true) rfl ?_
    intro w hw
    exact ⟨congrArg (fun b : Bool => Ending.returned (.bool b)) (decide_eq_true (.inl ⟨_, List.mem_of_getElem? hx6, by unfold ropeP; omega⟩)).symm, st_mask [false, false, false] rfl hw⟩
   refine c_skip ?_
   refine f_block ?_
   refine f_then ?_
   refine c_region ?_
   refine lv (v := Nx (k)) e_move ?_
   refine lv (v := Nx (k + 1)) (e_add (a := ((k : Nat) : Int)) (b := (1 : Int)) rfl rfl (i64n (by omega) (by omega))) ?_
   refine lv (v := Nx (k + 1)) e_assign ?_
   refine l_nil ?_
   exact f_cut ⟨k + 1, ⟨⟨rfl, rfl, rfl, rfl⟩, rfl, ⟨by omega, al_next hx6 hno (fun q => by unfold ropeP at q; omega)⟩⟩, (show rs.length - (k + 1) < rs.length - k from by omega)⟩
  refine q_skip rfl rfl rfl rfl rfl rfl ?_
  refine q_skip rfl rfl rfl rfl rfl rfl ?_
  refine q_skip rfl rfl rfl rfl rfl rfl ?_
  refine q_skip rfl rfl rfl rfl rfl rfl ?_
  refine q_skip rfl rfl rfl rfl rfl rfl ?_
  refine q_skip rfl rfl rfl rfl rfl rfl ?_
  refine q_skip rfl rfl rfl rfl rfl rfl ?_
  refine q_skip rfl rfl rfl rfl rfl rfl ?_
  refine q_skip rfl rfl rfl rfl rfl rfl ?_
  refine qg_val (v := .bool false) rfl rfl rfl rfl rfl (e_pick_f rfl) ?_
  refine q_val (v := .bool false) rfl rfl rfl (e_pick_f rfl) ?_
  refine q_nil ?_
  refine f_then ?_
  refine c_no rfl ?_
  refine c_skip ?_
  refine f_block ?_
  refine f_then ?_
  refine c_region ?_
  refine lv (v := Nx (k)) e_move ?_
  refine lv (v := Nx (k + 1)) (e_add (a := ((k : Nat) : Int)) (b := (1 : Int)) rfl rfl (i64n (by omega) (by omega))) ?_
  refine lv (v := Nx (k + 1)) e_assign ?_
  refine l_nil ?_
  exact f_cut ⟨k + 1, ⟨⟨rfl, rfl, rfl, rfl⟩, rfl, ⟨by omega, al_next hx6 hno (fun q => by unfold ropeP at q; omega)⟩⟩, (show rs.length - (k + 1) < rs.length - k from by omega)⟩
 refine c_exit ?_
 refine f_then_exit ?_
 refine f_then_exit ?_
 refine f_exit ?_
 refine fts ?_
 refine c_quiet (by kernel_rfl) (by kernel_rfl) ?_
 refine q_val (v := .agg (bC a)) rfl rfl rfl (e_load tf1 rfl (k_pt 1 rfl rfl) rfl) ?_
 refine q_val (v := pp b1 2) rfl rfl rfl (e_fieldPt rfl tf40) ?_
 refine q_val (v := .agg #[Ix (gx), Ix (gy)]) rfl rfl rfl (e_load tf5 rfl (k_pt 2 rfl rfl) rfl) ?_
 refine q_call (v := .agg (aC (reachA a gx gy))) rfl rfl rfl (cl0 (vs := [.agg (bC a), .agg #[Ix (gx), Ix (gy)]]) tf93 rfl rfl) (fun w hw => ?_) ?_
 ·obtain ⟨β1, sb, kn, hw1, back⟩ := St.frame_all hw
  exact (rreach_ok β1 w hw1 a gx gy (by omega) (by omega)).mono (fun e w' ⟨he, hw'⟩ => ⟨he, st_mask [true, true, true] rfl (back _ _ hw')⟩)
 refine q_val (v := .agg (bC b)) rfl rfl rfl (e_load tf1 rfl (k_pt 0 rfl rfl) rfl) ?_
 refine q_val (v := pp b1 2) rfl rfl rfl (e_fieldPt rfl tf40) ?_
 refine q_val (v := .agg #[Ix (gx), Ix (gy)]) rfl rfl rfl (e_load tf5 rfl (k_pt 2 rfl rfl) rfl) ?_
 refine q_call (v := .agg (aC (reachA b gx gy))) rfl rfl rfl (cl0 (vs := [.agg (bC b), .agg #[Ix (gx), Ix (gy)]]) tf93 rfl rfl) (fun w hw => ?_) ?_
 ·obtain ⟨β1, sb, kn, hw1, back⟩ := St.frame_all hw
  exact (rreach_ok β1 w hw1 b gx gy (by omega) (by omega)).mono (fun e w' ⟨he, hw'⟩ => ⟨he, st_mask [true, true, true] rfl (back _ _ hw')⟩)
 refine q_call (v := .bool (decide (meetA (reachA a gx gy) (reachA b gx gy)))) rfl rfl rfl (cl0 (vs := [.agg (aC (reachA a gx gy)), .agg (aC (reachA b gx gy))]) tf96 rfl rfl) (fun w hw => ?_) ?_
 ·obtain ⟨β1, sb, kn, hw1, back⟩ := St.frame_all hw
  exact (rmeet_ok β1 w hw1 (reachA a gx gy) (reachA b gx gy)).mono (fun e w' ⟨he, hw'⟩ => ⟨he, st_mask [true, true, true] rfl (back _ _ hw')⟩)
 refine q_val (v := .bool (decide (meetA (reachA a gx gy) (reachA b gx gy)))) rfl rfl rfl e_assign ?_
 refine q_nil ?_
 refine ftr ?_
 refine ret1 Tryz.results51 (v := .bool (decide (meetA (reachA a gx gy) (reachA b gx gy)))) rfl ?_
 intro w hw
 exact ⟨congrArg (fun b : Bool => Ending.returned (.bool b)) (decide_eq_decide.2 ⟨.inr, fun q => q.resolve_left fun ⟨r, hr, hq⟩ => hno r (by rw [List.take_of_length_le (by omega)]; exact hr) hq⟩), st_mask [false, false, false] rfl hw⟩
set_option maxHeartbeats 4000000 in
theorem lentI_ok (β : Base) (w : World) (hw : St β [] w) (v : Value) (xs : List Int) (hs : Sl IntF.R β.heap v xs) (hn : xs.length ≤ 1048576) : Calls Tryz.prog 17 #[v] w fun r w' => ∃ p c, r = .returned (sB p xs c) ∧ St β [rowF IntF 3 p c (lentL (markN 1) xs)] w' := by
 obtain ⟨va, vc, rfl, vl, vm, ve⟩ := hs.get
 refine enter (n := 25) Tryz.func17 rfl Tryz.ntmps17 rfl ?_ hw
 refine csr ?_
 refine l_val (v := .slice none 0 0) rfl rfl rfl e_assign ?_
 refine lnc ?_
 refine lv (v := sB va xs (vc)) e_move ?_
 refine lv (v := Nx (xs.length)) (e_len (a := va) (n := xs.length) (c := vc) rfl tf28) ?_
 refine lv (v := Nx (xs.length + 12)) (e_add (a := ((xs.length : Nat) : Int)) (b := (12 : Int)) rfl rfl (i64n (by omega) (by omega))) ?_
 refine l_mv rfl rfl rfl (m_make0 (c := xs.length + 12) tf23 tf25 tf24 rfl rfl (by omega) (by unfold maxLen; omega) (by omega)) ?_
 rintro _ _ ⟨b1, rfl, rfl⟩
 refine l_re (L' := [rowF IntF 3 (some ⟨b1, 0, none⟩) (xs.length + 12) []]) (by rfl) ?_
 refine lv (v := .slice (some ⟨b1, 0, none⟩) (0) (xs.length + 12)) e_assign ?_
 refine lnc ?_
 refine lv (v := .slice (some ⟨b1, 0, none⟩) (0) (xs.length + 12)) e_move ?_
 refine lv (v := sB va xs (vc)) e_move ?_
 refine l_mv rfl rfl rfl (m_appendFlN (F := IntF) 0 tf23 tf25 (p := (some ⟨b1, 0, none⟩)) (m := 0) (xs := []) (ys := xs) (ao := va) (k := xs.length) (c := vc) rfl rfl rfl rfl rfl (Knows.of_base (Elems.mono _ _ _) ve) (by first | omega | simp only [List.length_nil, List.length_cons, List.length_append, List.length_set]; omega) (by first | omega | simp only [List.length_nil, List.length_cons, List.length_append, List.length_set]; omega)) ?_
 rintro _ _ ⟨rp2, rc3, rfl, rfl⟩
 refine lv (v := sB rp2 xs rc3) e_assign ?_
 refine lnf ?_
 refine cs2 ?_
 refine c_region ?_
 refine l_val (v := .int .i64 (0)) rfl rfl rfl e_assign ?_
 refine lnf ?_
 refine c_block ?_
 refine c_loop (fun (x_ : Nat × List Int × Option Addr × Nat) (f : Fm) (L : List Res) => match x_ with | (k, ys, p, c) => (f 0 = sB va xs (vc) ∧ f 3 = sB p ys c ∧ f 4 = Nx (k)) ∧ L = [rowF IntF 3 p c ys] ∧ (k ≤ 12 ∧ ys = (xs ++ (List.range k).map fun i => markN 1 (i : Nat)))) (fun (x_ : Nat × List Int × Option Addr × Nat) => match x_ with | (k, ys, p, c) => 12 - k) (0, xs, rp2, rc3) ?_ ?_
 ·exact ⟨⟨rfl, rfl, rfl⟩, rfl, ⟨by omega, by simp⟩⟩
 rintro ⟨k, ys, p, c⟩ f0 L0 ⟨⟨hs0, hs3, hs4⟩, hL, ⟨hk, hys⟩⟩
 subst L0
 refine rebase (d := 0) hs0 ?_
 refine rebase (d := 3) hs3 ?_
 refine rebase (d := 4) hs4 ?_
 clear hs0 hs3 hs4
 have hyl : ys.length = xs.length + k := by rw [hys]; simp
 refine cs2 ?_
 refine c_region ?_
 refine lv (v := Nx (k)) e_move ?_
 refine lv (e_lss (a := ((k : Nat) : Int)) (b := (12 : Int)) rfl rfl) ?_
 refine lnf ?_
 refine c_if (((k : Nat) : Int) < (12 : Int)) rfl (fun hc4 => ?_) (fun hc4 => ?_)
 ·refine csk ?_
  refine c_seq ?_
  refine c_block ?_
  refine c_region ?_
  refine lv (v := sB p ys c) e_move ?_
  refine lv (v := Nx (k)) e_move ?_
  refine lcf (cl0 (vs := [.int .i64 (1), Nx (k)]) tf97 rfl rfl) rfl fun w β1 sb kn hw1 back => (mark_ok β1 w hw1 (1 : Int) ((k : Nat) : Int) (by omega) (by omega)).mono ?_
  rintro e w' ⟨rfl, hw'⟩
  refine ⟨_, rfl, _, back _ _ hw', ?_⟩
  clear hw1 hw' back kn sb
  refine l_mv rfl rfl rfl (m_slices tf23 tf24 (cells := #[Ix (markN 1 ((k : Nat) : Int))]) rfl rfl rfl rfl) ?_
  rintro _ _ ⟨b5, rfl, rfl⟩
  refine l_mv rfl rfl rfl (m_appendFlN (F := IntF) 1 tf23 tf25 (p := p) (m := ys.length) (xs := ys) (ys := [(markN 1 ((k : Nat) : Int))]) (ao := (some ⟨b5, 0, none⟩)) (k := 1) (c := 1) rfl rfl rfl rfl rfl (k_ptFl (z := (markN 1 ((k : Nat) : Int))) 0 rfl rfl) (by first | omega | simp only [List.length_nil, List.length_cons, List.length_append, List.length_set]; omega) (by first | omega | simp only [List.length_nil, List.length_cons, List.length_append, List.length_set]; omega)) ?_
  rintro _ _ ⟨rp6, rc7, rfl, rfl⟩
  refine lv (v := sB rp6 (ys ++ [(markN 1 ((k : Nat) : Int))]) rc7) e_assign ?_
  refine l_nil ?_
  refine f_block ?_
  refine f_then ?_
  refine c_region ?_
  refine lv (v := Nx (k)) e_move ?_
  refine lv (v := Nx (k + 1)) (e_add (a := ((k : Nat) : Int)) (b := (1 : Int)) rfl rfl (i64n (by omega) (by omega))) ?_
  refine lv (v := Nx (k + 1)) e_assign ?_
  refine l_nil ?_
  refine f_mask (L' := [rowF IntF 3 rp6 rc7 (ys ++ [(markN 1 ((k : Nat) : Int))])]) [false, true] rfl ?_
  exact f_cut ⟨(k + 1, (ys ++ [(markN 1 ((k : Nat) : Int))]), rp6, rc7), ⟨⟨rfl, rfl, rfl⟩, rfl, ⟨by omega, by rw [hys]; exact lentL_next (markN 1) xs k⟩⟩, (show 12 - (k + 1) < 12 - k from by omega)⟩
 refine c_exit ?_
 refine f_then_exit ?_
 refine f_then_exit ?_
 refine f_exit ?_
 refine fts ?_
 refine c_rowcap 0 rfl (fun hcl hcm => ?_)
 have hyl : ys.length = xs.length + k := by rw [hys]; simp
 refine c_region ?_
 refine lv (v := sB p ys c) e_move ?_
 refine lv (v := sB va xs (vc)) e_move ?_
 refine lv (v := Nx (xs.length)) (e_len (a := va) (n := xs.length) (c := vc) rfl tf28) ?_
 refine lv (v := sB p xs c) (e_slice_hi (a := p) (len := ys.length) (cap := c) (h := xs.length) tf23 rfl rfl (by omega)) ?_
 refine lv (v := sB p xs c) e_assign ?_
 refine lnf ?_
 refine c_ret ?_
 refine ret1 Tryz.results17 (v := sB p xs c) rfl ?_
 intro w hw
 obtain rfl : k = 12 := by omega
 have he : ys = lentL (markN 1) xs := hys
 subst he
 exact ⟨p, c, rfl, st_mask [true] rfl hw⟩
set_option maxHeartbeats 4000000 in
theorem keptI_ok (β : Base) (w : World) (hw : St β [] w) (p : Option Addr) (c : Nat) (v : Value) (xs : List Int) (hx : xs.length ≤ 1048576) (hs : Sl IntF.R β.heap (sB p (lentL (markN 1) xs) c) (lentL (markN 1) xs)) (hv : Sl IntF.R β.heap v xs) : Calls Tryz.prog 26 #[sB p xs c, v] w fun r w' => r = .returned (.bool true) ∧ St β [] w' := by
 obtain ⟨va, vc, rfl, vl, vm, ve⟩ := hv.get
 obtain ⟨_, hpl, hpm, hpe⟩ := hs.parts
 have hll := lentL_len (markN 1) xs
 refine enter (n := 58) Tryz.func26 rfl Tryz.ntmps26 rfl ?_ hw
 refine csr ?_
 refine l_val (v := .bool false) rfl rfl rfl e_assign ?_
 refine lnf ?_
 refine cs2 ?_
 refine c_region ?_
 refine lv (v := sB p xs (c)) e_move ?_
 refine lv (v := Nx (xs.length)) (e_len (a := p) (n := xs.length) (c := c) rfl tf28) ?_
 refine lv (v := sB va xs (vc)) e_move ?_
 refine lv (v := Nx (xs.length)) (e_len (a := va) (n := xs.length) (c := vc) rfl tf28) ?_
 refine lv (e_neq (a := ((xs.length : Nat) : Int)) (b := ((xs.length : Nat) : Int)) rfl rfl) ?_
 refine lnf ?_
 refine c_if (((xs.length : Nat) : Int) ≠ ((xs.length : Nat) : Int)) rfl (fun hc1 => ?_) (fun hc1 => ?_)
 ·exact absurd hc1 (by omega)
 refine csk ?_
 refine csr ?_
 refine lv (v := sB p xs (c)) e_move ?_
 refine lv (v := sB va xs (vc)) e_move ?_
 refine lv (v := Nx (xs.length)) (e_len (a := va) (n := xs.length) (c := vc) rfl tf28) ?_
 refine lv (v := Nx (xs.length + 12)) (e_add (a := ((xs.length : Nat) : Int)) (b := (12 : Int)) rfl rfl (i64n (by omega) (by omega))) ?_
 refine lv (v := .slice p (((lentL (markN 1) xs)).length) (c)) (ev_eq (by rw [lentL_len]) (e_slice_hi (a := p) (len := xs.length) (cap := c) (h := xs.length + 12) tf23 rfl rfl (by omega))) ?_
 refine lv (v := sB p ((lentL (markN 1) xs)) (c)) e_assign ?_
 refine lnf ?_
 refine cs2 ?_
 refine c_region ?_
 refine l_val (v := .int .i64 (0)) rfl rfl rfl e_assign ?_
 refine lnf ?_
 refine c_block ?_
 refine c_loop (fun (k : Nat) (f : Fm) (L : List Res) => (f 1 = sB va xs (vc) ∧ f 5 = sB p ((lentL (markN 1) xs)) (c) ∧ f 6 = Nx (k)) ∧ L = [] ∧ (k ≤ xs.length + 12)) (fun (k : Nat) => xs.length + 12 - k) 0 ?_ ?_
 ·exact ⟨⟨rfl, rfl, rfl⟩, rfl, (by omega)⟩
 rintro k f0 L0 ⟨⟨hs1, hs5, hs6⟩, hL, hk⟩
 subst L0
 refine rebase (d := 1) hs1 ?_
 refine rebase (d := 5) hs5 ?_
 refine rebase (d := 6) hs6 ?_
 clear hs1 hs5 hs6
 refine cs2 ?_
 refine c_region ?_
 refine lv (v := Nx (k)) e_move ?_
 refine lv (v := sB p ((lentL (markN 1) xs)) (c)) e_move ?_
 refine lv (v := Nx (((lentL (markN 1) xs)).length)) (e_len (a := p) (n := ((lentL (markN 1) xs)).length) (c := c) rfl tf28) ?_
 refine lv (e_lss (a := ((k : Nat) : Int)) (b := ((((lentL (markN 1) xs)).length : Nat) : Int)) rfl rfl) ?_
 refine lnf ?_
 refine c_if (((k : Nat) : Int) < ((((lentL (markN 1) xs)).length : Nat) : Int)) rfl (fun hc2 => ?_) (fun hc2 => ?_)
 ·refine csk ?_
  refine c_seq ?_
  refine c_block ?_
  refine c_seq ?_
  refine c_quiet (by kernel_rfl) (by kernel_rfl) ?_
  refine q_val (v := Nx (k)) rfl rfl rfl e_move ?_
  refine q_val (v := sB va xs (vc)) rfl rfl rfl e_move ?_
  refine q_val (v := Nx (xs.length)) rfl rfl rfl (e_len (a := va) (n := xs.length) (c := vc) rfl tf28) ?_
  refine q_val rfl rfl rfl (e_lss (a := ((k : Nat) : Int)) (b := ((xs.length : Nat) : Int)) rfl rfl) ?_
  refine q_val (v := .bool (decide (((k : Nat) : Int) < ((xs.length : Nat) : Int)))) rfl rfl rfl e_move ?_
  refine q_split (s := 27) (p := ((k : Nat) : Int) < ((xs.length : Nat) : Int)) rfl (fun hg3 => ?_) (fun hg3 => ?_)
  ·refine qg_val (v := sB p ((lentL (markN 1) xs)) (c)) rfl rfl rfl rfl rfl e_move ?_
   refine qg_val (v := Nx (k)) rfl rfl rfl rfl rfl e_move ?_
   obtain ⟨x4, hx5⟩ : ∃ x_, ((lentL (markN 1) xs))[k]? = some x_ := ⟨_, List.getElem?_eq_getElem (by omega)⟩
   obtain ⟨ha6, cs7, hc8, rfl⟩ := hpe _ _ hx5
   refine qg_val (v := .pointer (some ((ba p).add (k * 1)))) rfl rfl rfl rfl rfl (e_indexAddr (k := k) (len := ((lentL (markN 1) xs)).length) (cap := c) (a := p) rfl rfl tf23 (by omega) ha6) ?_
   refine qg_val (v := Ix (x4)) rfl rfl rfl rfl rfl (e_load1 tf11 rfl (kB hc8)) ?_
   refine qg_val (v := sB va xs (vc)) rfl rfl rfl rfl rfl e_move ?_
   refine qg_val (v := Nx (k)) rfl rfl rfl rfl rfl e_move ?_
   obtain ⟨x10, hx11⟩ : ∃ x_, (xs)[k]? = some x_ := ⟨_, List.getElem?_eq_getElem (by omega)⟩
   obtain ⟨ha12, cs13, hc14, rfl⟩ := ve _ _ hx11
   refine qg_val (v := .pointer (some ((ba va).add (k * 1)))) rfl rfl rfl rfl rfl (e_indexAddr (k := k) (len := xs.length) (cap := vc) (a := va) rfl rfl tf23 (by omega) ha12) ?_
   refine qg_val (v := Ix (x10)) rfl rfl rfl rfl rfl (e_load1 tf11 rfl (kB hc14)) ?_
   refine qg_val rfl rfl rfl rfl rfl (e_eql (a := (x4)) (b := (x10)) rfl rfl) ?_
   refine qg_val (v := .bool (decide (¬ ((x4) = (x10))))) rfl rfl rfl rfl rfl (e_not_p (p := (x4) = (x10)) rfl) ?_
   refine q_val (v := .bool (decide (¬ ((x4) = (x10))))) rfl rfl rfl (e_pick_t rfl) ?_
   refine q_val (v := .bool (decide (¬ ((x4) = (x10))))) rfl rfl rfl e_move ?_
   refine q_split (s := 39) (p := ¬ ((x4) = (x10))) rfl (fun h => ?_) (fun h => ?_)
   exact absurd h (Decidable.not_not.2 (lentL_lo hx5 hx11))
   refine qg_val (v := Nx (k)) rfl rfl rfl rfl rfl e_move ?_
   refine qg_val (v := sB va xs (vc)) rfl rfl rfl rfl rfl e_move ?_
   refine qg_val (v := Nx (xs.length)) rfl rfl rfl rfl rfl (e_len (a := va) (n := xs.length) (c := vc) rfl tf28) ?_
   refine qg_val rfl rfl rfl rfl rfl (e_geq (a := ((k : Nat) : Int)) (b := ((xs.length : Nat) : Int)) rfl rfl) ?_
   refine qg_val (v := .bool (decide (((xs.length : Nat) : Int) ≤ ((k : Nat) : Int)))) rfl rfl rfl rfl rfl e_move ?_
   refine q_split (s := 44) (p := ((xs.length : Nat) : Int) ≤ ((k : Nat) : Int)) rfl (fun hg16 => ?_) (fun hg16 => ?_)
   ·refine qg_val (v := sB p ((lentL (markN 1) xs)) (c)) rfl rfl rfl rfl rfl e_move ?_
    refine qg_val (v := Nx (k)) rfl rfl rfl rfl rfl e_move ?_
    refine qg_val (v := .pointer (some ((ba p).add (k * 1)))) rfl rfl rfl rfl rfl (e_indexAddr (k := k) (len := ((lentL (markN 1) xs)).length) (cap := c) (a := p) rfl rfl tf23 (by omega) ha6) ?_
    refine qg_val (v := Ix (x4)) rfl rfl rfl rfl rfl (e_load1 tf11 rfl (kB hc8)) ?_
    refine qg_val (v := Nx (k)) rfl rfl rfl rfl rfl e_move ?_
    refine qg_val (v := sB va xs (vc)) rfl rfl rfl rfl rfl e_move ?_
    refine qg_val (v := Nx (xs.length)) rfl rfl rfl rfl rfl (e_len (a := va) (n := xs.length) (c := vc) rfl tf28) ?_
    refine qg_val (v := Nx (k - xs.length)) rfl rfl rfl rfl rfl (ev_eq (congrArg (Value.int .i64) (by omega)) (e_sub (a := ((k : Nat) : Int)) (b := ((xs.length : Nat) : Int)) rfl rfl (i64w (by omega)))) ?_
    refine qg_call (v := Ix (markN 1 ((k - xs.length : Nat) : Int))) rfl rfl rfl rfl rfl (cl0 (vs := [.int .i64 (1), Nx (k - xs.length)]) tf97 rfl rfl) (fun w hw => ?_) ?_
    ·obtain ⟨β1, sb, kn, hw1, back⟩ := St.frame_all hw
     exact (mark_ok β1 w hw1 (1 : Int) ((k - xs.length : Nat) : Int) (by omega) (by omega)).mono (fun e w' ⟨he, hw'⟩ => ⟨he, st_mask [] rfl (back _ _ hw')⟩)
    refine qg_val rfl rfl rfl rfl rfl (e_eql (a := (x4)) (b := (markN 1 ((k - xs.length : Nat) : Int))) rfl rfl) ?_
    refine qg_val (v := .bool (decide (¬ ((x4) = (markN 1 ((k - xs.length : Nat) : Int)))))) rfl rfl rfl rfl rfl (e_not_p (p := (x4) = (markN 1 ((k - xs.length : Nat) : Int))) rfl) ?_
    refine qg_val (v := .bool (decide (¬ ((x4) = (markN 1 ((k - xs.length : Nat) : Int)))))) rfl rfl rfl rfl rfl (e_pick_t rfl) ?_
    refine q_val (v := .bool (decide (¬ ((x4) = (markN 1 ((k - xs.length : Nat) : Int)))))) rfl rfl rfl (e_pick_f rfl) ?_
    refine q_nil ?_
    refine f_then ?_
    refine c_if (¬ ((x4) = (markN 1 ((k - xs.length : Nat) : Int)))) rfl (fun hc17 => ?_) (fun hc17 => ?_)
    ·exact absurd hc17 (Decidable.not_not.2 (lentL_hi hx5 (by omega)))
    refine c_skip ?_
    refine f_block ?_
    refine f_then ?_
    refine c_region ?_
    refine lv (v := Nx (k)) e_move ?_
    refine lv (v := Nx (k + 1)) (e_add (a := ((k : Nat) : Int)) (b := (1 : Int)) rfl rfl (i64n (by omega) (by omega))) ?_
    refine lv (v := Nx (k + 1)) e_assign ?_
    refine l_nil ?_
    exact f_cut ⟨k + 1, ⟨⟨rfl, rfl, rfl⟩, rfl, (by omega)⟩, (show xs.length + 12 - (k + 1) < xs.length + 12 - k from by omega)⟩
   refine q_skip rfl rfl rfl rfl rfl rfl ?_
   refine q_skip rfl rfl rfl rfl rfl rfl ?_
   refine q_skip rfl rfl rfl rfl rfl rfl ?_
   refine q_skip rfl rfl rfl rfl rfl rfl ?_
   refine q_skip rfl rfl rfl rfl rfl rfl ?_
   refine q_skip rfl rfl rfl rfl rfl rfl ?_
   refine q_skip rfl rfl rfl rfl rfl rfl ?_
   refine q_skip rfl rfl rfl rfl rfl rfl ?_
   refine q_skip rfl rfl rfl rfl rfl rfl ?_
   refine q_skip rfl rfl rfl rfl rfl rfl ?_
   refine q_skip rfl rfl rfl rfl rfl rfl ?_
   refine qg_val (v := .bool false) rfl rfl rfl rfl rfl (e_pick_f rfl) ?_
   refine q_val (v := .bool false) rfl rfl rfl (e_pick_f rfl) ?_
   refine q_nil ?_
   refine f_then ?_
   refine c_no rfl ?_
   refine c_skip ?_
   refine f_block ?_
   refine f_then ?_
   refine c_region ?_
   refine lv (v := Nx (k)) e_move ?_
   refine lv (v := Nx (k + 1)) (e_add (a := ((k : Nat) : Int)) (b := (1 : Int)) rfl rfl (i64n (by omega) (by omega))) ?_
   refine lv (v := Nx (k + 1)) e_assign ?_
   refine l_nil ?_
   exact f_cut ⟨k + 1, ⟨⟨rfl, rfl, rfl⟩, rfl, (by omega)⟩, (show xs.length + 12 - (k + 1) < xs.length + 12 - k from by omega)⟩
  refine q_skip rfl rfl rfl rfl rfl rfl ?_
  refine q_skip rfl rfl rfl rfl rfl rfl ?_
  refine q_skip rfl rfl rfl rfl rfl rfl ?_
  refine q_skip rfl rfl rfl rfl rfl rfl ?_
  refine q_skip rfl rfl rfl rfl rfl rfl ?_
  refine q_skip rfl rfl rfl rfl rfl rfl ?_
  refine q_skip rfl rfl rfl rfl rfl rfl ?_
  refine q_skip rfl rfl rfl rfl rfl rfl ?_
  refine q_skip rfl rfl rfl rfl rfl rfl ?_
  refine q_skip rfl rfl rfl rfl rfl rfl ?_
  refine q_val (v := .bool false) rfl rfl rfl (e_pick_f rfl) ?_
  refine q_val (v := .bool false) rfl rfl rfl e_move ?_
  refine qg_val (v := Nx (k)) rfl rfl rfl rfl rfl e_move ?_
  refine qg_val (v := sB va xs (vc)) rfl rfl rfl rfl rfl e_move ?_
  refine qg_val (v := Nx (xs.length)) rfl rfl rfl rfl rfl (e_len (a := va) (n := xs.length) (c := vc) rfl tf28) ?_
  refine qg_val rfl rfl rfl rfl rfl (e_geq (a := ((k : Nat) : Int)) (b := ((xs.length : Nat) : Int)) rfl rfl) ?_
  refine qg_val (v := .bool (decide (((xs.length : Nat) : Int) ≤ ((k : Nat) : Int)))) rfl rfl rfl rfl rfl e_move ?_
  refine q_split (s := 44) (p := ((xs.length : Nat) : Int) ≤ ((k : Nat) : Int)) rfl (fun hg18 => ?_) (fun hg18 => ?_)
  ·refine qg_val (v := sB p ((lentL (markN 1) xs)) (c)) rfl rfl rfl rfl rfl e_move ?_
   refine qg_val (v := Nx (k)) rfl rfl rfl rfl rfl e_move ?_
   obtain ⟨x19, hx20⟩ : ∃ x_, ((lentL (markN 1) xs))[k]? = some x_ := ⟨_, List.getElem?_eq_getElem (by omega)⟩
   obtain ⟨ha21, cs22, hc23, rfl⟩ := hpe _ _ hx20
   refine qg_val (v := .pointer (some ((ba p).add (k * 1)))) rfl rfl rfl rfl rfl (e_indexAddr (k := k) (len := ((lentL (markN 1) xs)).length) (cap := c) (a := p) rfl rfl tf23 (by omega) ha21) ?_
   refine qg_val (v := Ix (x19)) rfl rfl rfl rfl rfl (e_load1 tf11 rfl (kB hc23)) ?_
   refine qg_val (v := Nx (k)) rfl rfl rfl rfl rfl e_move ?_
   refine qg_val (v := sB va xs (vc)) rfl rfl rfl rfl rfl e_move ?_
   refine qg_val (v := Nx (xs.length)) rfl rfl rfl rfl rfl (e_len (a := va) (n := xs.length) (c := vc) rfl tf28) ?_
   refine qg_val (v := Nx (k - xs.length)) rfl rfl rfl rfl rfl (ev_eq (congrArg (Value.int .i64) (by omega)) (e_sub (a := ((k : Nat) : Int)) (b := ((xs.length : Nat) : Int)) rfl rfl (i64w (by omega)))) ?_
   refine qg_call (v := Ix (markN 1 ((k - xs.length : Nat) : Int))) rfl rfl rfl rfl rfl (cl0 (vs := [.int .i64 (1), Nx (k - xs.length)]) tf97 rfl rfl) (fun w hw => ?_) ?_
   ·obtain ⟨β1, sb, kn, hw1, back⟩ := St.frame_all hw
    exact (mark_ok β1 w hw1 (1 : Int) ((k - xs.length : Nat) : Int) (by omega) (by omega)).mono (fun e w' ⟨he, hw'⟩ => ⟨he, st_mask [] rfl (back _ _ hw')⟩)
   refine qg_val rfl rfl rfl rfl rfl (e_eql (a := (x19)) (b := (markN 1 ((k - xs.length : Nat) : Int))) rfl rfl) ?_
   refine qg_val (v := .bool (decide (¬ ((x19) = (markN 1 ((k - xs.length : Nat) : Int)))))) rfl rfl rfl rfl rfl (e_not_p (p := (x19) = (markN 1 ((k - xs.length : Nat) : Int))) rfl) ?_
   refine qg_val (v := .bool (decide (¬ ((x19) = (markN 1 ((k - xs.length : Nat) : Int)))))) rfl rfl rfl rfl rfl (e_pick_t rfl) ?_
   refine q_val (v := .bool (decide (¬ ((x19) = (markN 1 ((k - xs.length : Nat) : Int)))))) rfl rfl rfl (e_pick_f rfl) ?_
   refine q_nil ?_
   refine f_then ?_
   refine c_if (¬ ((x19) = (markN 1 ((k - xs.length : Nat) : Int)))) rfl (fun hc25 => ?_) (fun hc25 => ?_)
   ·exact absurd hc25 (Decidable.not_not.2 (lentL_hi hx20 (by omega)))
   refine c_skip ?_
   refine f_block ?_
   refine f_then ?_
   refine c_region ?_
   refine lv (v := Nx (k)) e_move ?_
   refine lv (v := Nx (k + 1)) (e_add (a := ((k : Nat) : Int)) (b := (1 : Int)) rfl rfl (i64n (by omega) (by omega))) ?_
   refine lv (v := Nx (k + 1)) e_assign ?_
   refine l_nil ?_
   exact f_cut ⟨k + 1, ⟨⟨rfl, rfl, rfl⟩, rfl, (by omega)⟩, (show xs.length + 12 - (k + 1) < xs.length + 12 - k from by omega)⟩
  refine q_skip rfl rfl rfl rfl rfl rfl ?_
  refine q_skip rfl rfl rfl rfl rfl rfl ?_
  refine q_skip rfl rfl rfl rfl rfl rfl ?_
  refine q_skip rfl rfl rfl rfl rfl rfl ?_
  refine q_skip rfl rfl rfl rfl rfl rfl ?_
  refine q_skip rfl rfl rfl rfl rfl rfl ?_
  refine q_skip rfl rfl rfl rfl rfl rfl ?_
  refine q_skip rfl rfl rfl rfl rfl rfl ?_
  refine q_skip rfl rfl rfl rfl rfl rfl ?_
  refine q_skip rfl rfl rfl rfl rfl rfl ?_
  refine q_skip rfl rfl rfl rfl rfl rfl ?_
  refine qg_val (v := .bool false) rfl rfl rfl rfl rfl (e_pick_f rfl) ?_
  refine q_val (v := .bool false) rfl rfl rfl (e_pick_f rfl) ?_
  refine q_nil ?_
  refine f_then ?_
  refine c_no rfl ?_
  refine c_skip ?_
  refine f_block ?_
  refine f_then ?_
  refine c_region ?_
  refine lv (v := Nx (k)) e_move ?_
  refine lv (v := Nx (k + 1)) (e_add (a := ((k : Nat) : Int)) (b := (1 : Int)) rfl rfl (i64n (by omega) (by omega))) ?_
  refine lv (v := Nx (k + 1)) e_assign ?_
  refine l_nil ?_
  exact f_cut ⟨k + 1, ⟨⟨rfl, rfl, rfl⟩, rfl, (by omega)⟩, (show xs.length + 12 - (k + 1) < xs.length + 12 - k from by omega)⟩
 refine c_exit ?_
 refine f_then_exit ?_
 refine f_then_exit ?_
 refine f_exit ?_
 refine ftc ?_
 refine lv (v := .bool true) e_assign ?_
 refine lnf ?_
 refine c_ret ?_
 refine ret1 Tryz.results26 (v := .bool true) rfl ?_
 intro w hw
 exact ⟨rfl, st_mask [] rfl hw⟩
theorem overI_ok (β : Base) (w : World) (p : Option Addr) (c n : Nat) (ys : List Int) (hyl : ys.length = n + 12) (hn : n ≤ 1000000) (hw : St β [rowF IntF 3 p c ys] w) : Calls Tryz.prog 28 #[.slice p n c] w fun r w' => ∃ zs, r = .returned (.tuple #[]) ∧ St β [rowF IntF 3 p c zs] w' := by
 refine enter (n := 23) Tryz.func28 rfl Tryz.ntmps28 rfl ?_ hw
 refine c_seq ?_
 refine c_rowcap 0 rfl (fun hcl hcm => ?_)
 have hcm2 : c ≤ 9223372036854775807 := by unfold maxLen at hcm; omega
 refine c_region ?_
 refine lv (v := .slice p (n) c) e_move ?_
 refine lv (v := .slice p (n) c) e_move ?_
 refine lv (v := Nx (c)) (e_cap (a := p) (n := n) (c := c) rfl tf28) ?_
 refine lv (v := .slice p (n) c) e_move ?_
 refine lv (v := Nx (n)) (e_len (a := p) (n := n) (c := c) rfl tf28) ?_
 refine lv (v := Nx (n + 12)) (e_add (a := ((n : Nat) : Int)) (b := (12 : Int)) rfl rfl (i64n (by omega) (by omega))) ?_
 refine lv (v := Nx (min c (n + 12))) (ev_eq (congrArg (Value.int .i64) (by omega)) (e_min (a := ((c : Nat) : Int)) (b := ((n + 12 : Nat) : Int)) rfl rfl)) ?_
 refine lv (v := .slice p (min c (n + 12)) c) (e_slice_hi (a := p) (len := n) (cap := c) (h := min c (n + 12)) tf23 rfl rfl (by omega)) ?_
 refine lv (v := .slice p (min c (n + 12)) c) e_assign ?_
 refine lnc ?_
 refine lv (v := .int .i64 (0)) e_assign ?_
 refine lnf ?_
 refine c_block ?_
 refine c_loop (fun (x_ : Nat × List Int) (f : Fm) (L : List Res) => match x_ with | (k, zs) => (f 2 = .slice p (min c (n + 12)) c ∧ f 3 = Nx (k)) ∧ L = [rowF IntF 3 p c zs] ∧ (k ≤ min c (n + 12) ∧ zs.length = n + 12)) (fun (x_ : Nat × List Int) => match x_ with | (k, zs) => min c (n + 12) - k) (0, ys) ?_ ?_
 ·exact ⟨⟨rfl, rfl⟩, rfl, ⟨by omega, hyl⟩⟩
 rintro ⟨k, zs⟩ f0 L0 ⟨⟨hs2, hs3⟩, hL, ⟨hk, hzl⟩⟩
 subst L0
 refine rebase (d := 2) hs2 ?_
 refine rebase (d := 3) hs3 ?_
 clear hs2 hs3
 refine cs2 ?_
 refine c_region ?_
 refine lv (v := Nx (k)) e_move ?_
 refine lv (v := .slice p (min c (n + 12)) c) e_move ?_
 refine lv (v := Nx (min c (n + 12))) (e_len (a := p) (n := min c (n + 12)) (c := c) rfl tf28) ?_
 refine lv (e_lss (a := ((k : Nat) : Int)) (b := ((min c (n + 12) : Nat) : Int)) rfl rfl) ?_
 refine lnf ?_
 refine c_if (((k : Nat) : Int) < ((min c (n + 12) : Nat) : Int)) rfl (fun hc1 => ?_) (fun hc1 => ?_)
 ·refine csk ?_
  refine c_seq ?_
  refine c_block ?_
  refine c_region ?_
  refine lv (v := .slice p (min c (n + 12)) c) e_move ?_
  refine lv (v := Nx (k)) e_move ?_
  refine lv (v := Nx (k)) e_move ?_
  refine lcf (cl0 (vs := [.int .i64 (2), Nx (k)]) tf97 rfl rfl) rfl fun w β1 sb kn hw1 back => (mark_ok β1 w hw1 (2 : Int) ((k : Nat) : Int) (by omega) (by omega)).mono ?_
  rintro e w' ⟨rfl, hw'⟩
  refine ⟨_, rfl, _, back _ _ hw', ?_⟩
  clear hw1 hw' back kn sb
  refine lv (v := .pointer (some ((ba p).add (k * 1)))) (e_indexFlN 0 (F := IntF) (j := k) (m := min c (n + 12)) (xs := zs) rfl (by omega) rfl tf23 (by omega) rfl) ?_
  refine lu (m_storeFl 0 (F := IntF) (p := p) (k := k) (xs := zs) (z := (markN 2 ((k : Nat) : Int))) tf11 rfl rfl rfl rfl (by omega)) ?_
  refine l_nil ?_
  refine f_block ?_
  refine f_then ?_
  refine c_region ?_
  refine lv (v := Nx (k)) e_move ?_
  refine lv (v := Nx (k + 1)) (e_add (a := ((k : Nat) : Int)) (b := (1 : Int)) rfl rfl (i64n (by omega) (by omega))) ?_
  refine lv (v := Nx (k + 1)) e_assign ?_
  refine l_nil ?_
  exact f_cut ⟨(k + 1, (zs.set k (markN 2 ((k : Nat) : Int)))), ⟨⟨rfl, rfl⟩, rfl, ⟨by omega, by simp only [sB, List.length_set]; exact hzl⟩⟩, (show min c (n + 12) - (k + 1) < min c (n + 12) - k from by omega)⟩
 refine c_exit ?_
 refine f_then_exit ?_
 refine f_then_exit ?_
 refine f_exit ?_
 refine end0 Tryz.results28 ?_
 intro w hw
 exact ⟨zs, rfl, st_mask [true] rfl hw⟩
end Go.Proofs
