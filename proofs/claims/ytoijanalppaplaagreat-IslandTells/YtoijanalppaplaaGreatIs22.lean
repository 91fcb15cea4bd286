/-
 IslandTells: walked. Printed by a program of my own.
-/
import Derived.Test.YtoijanalppaplaaGreatIs21
import Derived.Test.YtoijanalppaplaaGreatSlC
namespace Go.Proofs
open Go Go.Sl Go.Brd Go.Stp Go.Isl
theorem tf239 : cfB Tryz.prog 6 = true := by kernel_rfl
theorem tf240 : cfB Tryz.prog 7 = true := by kernel_rfl
set_option maxHeartbeats 4000000 in
theorem few_ok (β : Base) (w : World) (hw : St β [] w) (v u : Value) (gx gy : Int) (bs : List KB) (rs : List KR) (hs_ : Sl KBR β.heap v bs) (hr_ : Sl KRR β.heap u rs) : Calls Tryz.prog 6 #[.agg #[v, u, Ix gx, Ix gy]] w fun r w' => ∃ b, r = .returned (.bool b) ∧ (b = true → bs.length ≤ 1000 ∧ rs.length ≤ 1000) ∧ St β [] w' := by
 obtain ⟨va, vc, rfl, vl, vm, ve⟩ := hs_.get
 obtain ⟨ua, uc, rfl, ul, um, ue⟩ := hr_.get
 refine enter (n := 37) Tryz.func6 rfl Tryz.ntmps6 rfl ?_ hw
 refine csr ?_
 refine l_mv rfl rfl rfl (m_box (v := .agg #[sB va bs (vc), sB ua rs (uc), Ix (gx), Ix (gy)]) rfl) ?_
 rintro _ _ ⟨b1, rfl, rfl⟩
 refine lv (v := .bool false) e_assign ?_
 refine lnc ?_
 refine lv (v := pp b1 0) (e_fieldPt rfl tf33) ?_
 refine lv (v := sB va bs (vc)) (e_load1 tf26 rfl (k_pt 0 rfl rfl)) ?_
 refine lv (v := Nx (bs.length)) (e_len (a := va) (n := bs.length) (c := vc) rfl tf15) ?_
 refine lv (e_leq (a := ((bs.length : Nat) : Int)) (b := (20 : Int)) rfl rfl) ?_
 refine lv (v := .bool (decide (((bs.length : Nat) : Int) ≤ (20 : Int)))) e_move ?_
 refine l_split (s := 7) (p := ((bs.length : Nat) : Int) ≤ (20 : Int)) rfl (fun hg2 => ?_) (fun hg2 => ?_)
 ·refine l_skip rfl rfl rfl rfl rfl rfl ?_
  refine l_skip rfl rfl rfl rfl rfl rfl ?_
  refine l_skip rfl rfl rfl rfl rfl rfl ?_
  refine l_skip rfl rfl rfl rfl rfl rfl ?_
  refine l_skip rfl rfl rfl rfl rfl rfl ?_
  refine l_skip_u rfl rfl rfl rfl rfl ?_
  refine l_skip_u rfl rfl rfl rfl rfl ?_
  refine l_skip_u rfl rfl rfl rfl rfl ?_
  refine l_skip_u rfl rfl rfl rfl rfl ?_
  refine l_skip rfl rfl rfl rfl rfl rfl ?_
  refine lv (v := .bool true) (e_pick_t rfl) ?_
  refine lv (v := .bool true) e_move ?_
  refine g_val (v := pp b1 1) rfl rfl rfl rfl rfl (e_fieldPt rfl tf52) ?_
  refine g_val (v := sB ua rs (uc)) rfl rfl rfl rfl rfl (e_load1 tf53 rfl (k_pt 0 rfl rfl)) ?_
  refine g_val (v := Nx (rs.length)) rfl rfl rfl rfl rfl (e_len (a := ua) (n := rs.length) (c := uc) rfl tf54) ?_
  refine g_val rfl rfl rfl rfl rfl (e_leq (a := ((rs.length : Nat) : Int)) (b := (10 : Int)) rfl rfl) ?_
  refine g_val (v := .bool (decide (((rs.length : Nat) : Int) ≤ (10 : Int)))) rfl rfl rfl rfl rfl e_move ?_
  refine l_split (s := 24) (p := ((rs.length : Nat) : Int) ≤ (10 : Int)) rfl (fun hg3 => ?_) (fun hg3 => ?_)
  ·refine l_skip rfl rfl rfl rfl rfl rfl ?_
   refine l_skip rfl rfl rfl rfl rfl rfl ?_
   refine l_skip rfl rfl rfl rfl rfl rfl ?_
   refine l_skip rfl rfl rfl rfl rfl rfl ?_
   refine l_skip rfl rfl rfl rfl rfl rfl ?_
   refine l_skip_u rfl rfl rfl rfl rfl ?_
   refine l_skip_u rfl rfl rfl rfl rfl ?_
   refine l_skip_u rfl rfl rfl rfl rfl ?_
   refine l_skip_u rfl rfl rfl rfl rfl ?_
   refine l_skip rfl rfl rfl rfl rfl rfl ?_
   refine g_val (v := .bool true) rfl rfl rfl rfl rfl (e_pick_t rfl) ?_
   refine lv (v := .bool true) (e_pick_t rfl) ?_
   refine lv (v := .bool true) e_assign ?_
   refine lnf ?_
   refine c_ret ?_
   refine ret1 Tryz.results6 (v := .bool true) rfl ?_
   intro w hw
   exact ⟨_, rfl, (fun hq => ⟨by first | omega | (simp at hq; omega), by first | omega | (simp at hq; omega)⟩), st_mask [false] rfl hw⟩
  refine g_val (v := pp b1 1) rfl rfl rfl rfl rfl (e_fieldPt rfl tf52) ?_
  refine g_val (v := sB ua rs (uc)) rfl rfl rfl rfl rfl (e_load1 tf53 rfl (k_pt 0 rfl rfl)) ?_
  refine g_val (v := Nx (rs.length)) rfl rfl rfl rfl rfl (e_len (a := ua) (n := rs.length) (c := uc) rfl tf54) ?_
  refine g_val rfl rfl rfl rfl rfl (e_gtr (a := ((rs.length : Nat) : Int)) (b := (32 : Int)) rfl rfl) ?_
  refine g_val (v := .bool (decide ((32 : Int) < ((rs.length : Nat) : Int)))) rfl rfl rfl rfl rfl e_move ?_
  refine l_split (s := 29) (p := (32 : Int) < ((rs.length : Nat) : Int)) rfl (fun hg4 => ?_) (fun hg4 => ?_)
  ·refine g_val (v := pp b1 1) rfl rfl rfl rfl rfl (e_fieldPt rfl tf52) ?_
   refine g_val (v := sB ua rs (uc)) rfl rfl rfl rfl rfl (e_load1 tf53 rfl (k_pt 0 rfl rfl)) ?_
   refine g_val (v := Nx (rs.length)) rfl rfl rfl rfl rfl (e_len (a := ua) (n := rs.length) (c := uc) rfl tf54) ?_
   refine g_val rfl rfl rfl rfl rfl (e_lss (a := ((rs.length : Nat) : Int)) (b := (50 : Int)) rfl rfl) ?_
   refine g_val (v := .bool (decide (((rs.length : Nat) : Int) < (50 : Int)))) rfl rfl rfl rfl rfl (e_pick_t rfl) ?_
   refine g_val (v := .bool (decide (((rs.length : Nat) : Int) < (50 : Int)))) rfl rfl rfl rfl rfl (e_pick_f rfl) ?_
   refine lv (v := .bool (decide (((rs.length : Nat) : Int) < (50 : Int)))) (e_pick_t rfl) ?_
   refine lv (v := .bool (decide (((rs.length : Nat) : Int) < (50 : Int)))) e_assign ?_
   refine lnf ?_
   refine c_ret ?_
   refine ret1 Tryz.results6 (v := .bool (decide (((rs.length : Nat) : Int) < (50 : Int)))) rfl ?_
   intro w hw
   exact ⟨_, rfl, (fun hq => ⟨by first | omega | (simp at hq; omega), by first | omega | (simp at hq; omega)⟩), st_mask [false] rfl hw⟩
  refine l_skip rfl rfl rfl rfl rfl rfl ?_
  refine l_skip rfl rfl rfl rfl rfl rfl ?_
  refine l_skip rfl rfl rfl rfl rfl rfl ?_
  refine l_skip rfl rfl rfl rfl rfl rfl ?_
  refine g_val (v := .bool false) rfl rfl rfl rfl rfl (e_pick_f rfl) ?_
  refine g_val (v := .bool false) rfl rfl rfl rfl rfl (e_pick_f rfl) ?_
  refine lv (v := .bool false) (e_pick_t rfl) ?_
  refine lv (v := .bool false) e_assign ?_
  refine lnf ?_
  refine c_ret ?_
  refine ret1 Tryz.results6 (v := .bool false) rfl ?_
  intro w hw
  exact ⟨false, rfl, (fun h => by cases h), st_mask [false] rfl hw⟩
 refine g_val (v := pp b1 0) rfl rfl rfl rfl rfl (e_fieldPt rfl tf33) ?_
 refine g_val (v := sB va bs (vc)) rfl rfl rfl rfl rfl (e_load1 tf26 rfl (k_pt 0 rfl rfl)) ?_
 refine g_val (v := Nx (bs.length)) rfl rfl rfl rfl rfl (e_len (a := va) (n := bs.length) (c := vc) rfl tf15) ?_
 refine g_val rfl rfl rfl rfl rfl (e_gtr (a := ((bs.length : Nat) : Int)) (b := (64 : Int)) rfl rfl) ?_
 refine g_val (v := .bool (decide ((64 : Int) < ((bs.length : Nat) : Int)))) rfl rfl rfl rfl rfl e_move ?_
 refine l_split (s := 12) (p := (64 : Int) < ((bs.length : Nat) : Int)) rfl (fun hg5 => ?_) (fun hg5 => ?_)
 ·refine g_val (v := pp b1 0) rfl rfl rfl rfl rfl (e_fieldPt rfl tf33) ?_
  refine g_val (v := sB va bs (vc)) rfl rfl rfl rfl rfl (e_load1 tf26 rfl (k_pt 0 rfl rfl)) ?_
  refine g_val (v := Nx (bs.length)) rfl rfl rfl rfl rfl (e_len (a := va) (n := bs.length) (c := vc) rfl tf15) ?_
  refine g_val rfl rfl rfl rfl rfl (e_lss (a := ((bs.length : Nat) : Int)) (b := (80 : Int)) rfl rfl) ?_
  refine g_val (v := .bool (decide (((bs.length : Nat) : Int) < (80 : Int)))) rfl rfl rfl rfl rfl (e_pick_t rfl) ?_
  refine lv (v := .bool (decide (((bs.length : Nat) : Int) < (80 : Int)))) (e_pick_f rfl) ?_
  refine lv (v := .bool (decide (((bs.length : Nat) : Int) < (80 : Int)))) e_move ?_
  refine l_split (s := 19) (p := ((bs.length : Nat) : Int) < (80 : Int)) rfl (fun hg6 => ?_) (fun hg6 => ?_)
  ·refine g_val (v := pp b1 1) rfl rfl rfl rfl rfl (e_fieldPt rfl tf52) ?_
   refine g_val (v := sB ua rs (uc)) rfl rfl rfl rfl rfl (e_load1 tf53 rfl (k_pt 0 rfl rfl)) ?_
   refine g_val (v := Nx (rs.length)) rfl rfl rfl rfl rfl (e_len (a := ua) (n := rs.length) (c := uc) rfl tf54) ?_
   refine g_val rfl rfl rfl rfl rfl (e_leq (a := ((rs.length : Nat) : Int)) (b := (10 : Int)) rfl rfl) ?_
   refine g_val (v := .bool (decide (((rs.length : Nat) : Int) ≤ (10 : Int)))) rfl rfl rfl rfl rfl e_move ?_
   refine l_split (s := 24) (p := ((rs.length : Nat) : Int) ≤ (10 : Int)) rfl (fun hg7 => ?_) (fun hg7 => ?_)
   ·refine l_skip rfl rfl rfl rfl rfl rfl ?_
    refine l_skip rfl rfl rfl rfl rfl rfl ?_
    refine l_skip rfl rfl rfl rfl rfl rfl ?_
    refine l_skip rfl rfl rfl rfl rfl rfl ?_
    refine l_skip rfl rfl rfl rfl rfl rfl ?_
    refine l_skip_u rfl rfl rfl rfl rfl ?_
    refine l_skip_u rfl rfl rfl rfl rfl ?_
    refine l_skip_u rfl rfl rfl rfl rfl ?_
    refine l_skip_u rfl rfl rfl rfl rfl ?_
    refine l_skip rfl rfl rfl rfl rfl rfl ?_
    refine g_val (v := .bool true) rfl rfl rfl rfl rfl (e_pick_t rfl) ?_
    refine lv (v := .bool true) (e_pick_t rfl) ?_
    refine lv (v := .bool true) e_assign ?_
    refine lnf ?_
    refine c_ret ?_
    refine ret1 Tryz.results6 (v := .bool true) rfl ?_
    intro w hw
    exact ⟨_, rfl, (fun hq => ⟨by first | omega | (simp at hq; omega), by first | omega | (simp at hq; omega)⟩), st_mask [false] rfl hw⟩
   refine g_val (v := pp b1 1) rfl rfl rfl rfl rfl (e_fieldPt rfl tf52) ?_
   refine g_val (v := sB ua rs (uc)) rfl rfl rfl rfl rfl (e_load1 tf53 rfl (k_pt 0 rfl rfl)) ?_
   refine g_val (v := Nx (rs.length)) rfl rfl rfl rfl rfl (e_len (a := ua) (n := rs.length) (c := uc) rfl tf54) ?_
   refine g_val rfl rfl rfl rfl rfl (e_gtr (a := ((rs.length : Nat) : Int)) (b := (32 : Int)) rfl rfl) ?_
   refine g_val (v := .bool (decide ((32 : Int) < ((rs.length : Nat) : Int)))) rfl rfl rfl rfl rfl e_move ?_
   refine l_split (s := 29) (p := (32 : Int) < ((rs.length : Nat) : Int)) rfl (fun hg8 => ?_) (fun hg8 => ?_)
   ·refine g_val (v := pp b1 1) rfl rfl rfl rfl rfl (e_fieldPt rfl tf52) ?_
    refine g_val (v := sB ua rs (uc)) rfl rfl rfl rfl rfl (e_load1 tf53 rfl (k_pt 0 rfl rfl)) ?_
    refine g_val (v := Nx (rs.length)) rfl rfl rfl rfl rfl (e_len (a := ua) (n := rs.length) (c := uc) rfl tf54) ?_
    refine g_val rfl rfl rfl rfl rfl (e_lss (a := ((rs.length : Nat) : Int)) (b := (50 : Int)) rfl rfl) ?_
    refine g_val (v := .bool (decide (((rs.length : Nat) : Int) < (50 : Int)))) rfl rfl rfl rfl rfl (e_pick_t rfl) ?_
    refine g_val (v := .bool (decide (((rs.length : Nat) : Int) < (50 : Int)))) rfl rfl rfl rfl rfl (e_pick_f rfl) ?_
    refine lv (v := .bool (decide (((rs.length : Nat) : Int) < (50 : Int)))) (e_pick_t rfl) ?_
    refine lv (v := .bool (decide (((rs.length : Nat) : Int) < (50 : Int)))) e_assign ?_
    refine lnf ?_
    refine c_ret ?_
    refine ret1 Tryz.results6 (v := .bool (decide (((rs.length : Nat) : Int) < (50 : Int)))) rfl ?_
    intro w hw
    exact ⟨_, rfl, (fun hq => ⟨by first | omega | (simp at hq; omega), by first | omega | (simp at hq; omega)⟩), st_mask [false] rfl hw⟩
   refine l_skip rfl rfl rfl rfl rfl rfl ?_
   refine l_skip rfl rfl rfl rfl rfl rfl ?_
   refine l_skip rfl rfl rfl rfl rfl rfl ?_
   refine l_skip rfl rfl rfl rfl rfl rfl ?_
   refine g_val (v := .bool false) rfl rfl rfl rfl rfl (e_pick_f rfl) ?_
   refine g_val (v := .bool false) rfl rfl rfl rfl rfl (e_pick_f rfl) ?_
   refine lv (v := .bool false) (e_pick_t rfl) ?_
   refine lv (v := .bool false) e_assign ?_
   refine lnf ?_
   refine c_ret ?_
   refine ret1 Tryz.results6 (v := .bool false) rfl ?_
   intro w hw
   exact ⟨false, rfl, (fun h => by cases h), st_mask [false] rfl hw⟩
  refine l_skip rfl rfl rfl rfl rfl rfl ?_
  refine l_skip rfl rfl rfl rfl rfl rfl ?_
  refine l_skip rfl rfl rfl rfl rfl rfl ?_
  refine l_skip rfl rfl rfl rfl rfl rfl ?_
  refine l_skip rfl rfl rfl rfl rfl rfl ?_
  refine l_skip_u rfl rfl rfl rfl rfl ?_
  refine l_skip_u rfl rfl rfl rfl rfl ?_
  refine l_skip_u rfl rfl rfl rfl rfl ?_
  refine l_skip_u rfl rfl rfl rfl rfl ?_
  refine l_skip_u rfl rfl rfl rfl rfl ?_
  refine l_skip_u rfl rfl rfl rfl rfl ?_
  refine l_skip_u rfl rfl rfl rfl rfl ?_
  refine l_skip_u rfl rfl rfl rfl rfl ?_
  refine l_skip_u rfl rfl rfl rfl rfl ?_
  refine l_skip_u rfl rfl rfl rfl rfl ?_
  refine l_skip rfl rfl rfl rfl rfl rfl ?_
  refine lv (v := .bool false) (e_pick_f rfl) ?_
  refine lv (v := .bool false) e_assign ?_
  refine lnf ?_
  refine c_ret ?_
  refine ret1 Tryz.results6 (v := .bool false) rfl ?_
  intro w hw
  exact ⟨false, rfl, (fun h => by cases h), st_mask [false] rfl hw⟩
 refine l_skip rfl rfl rfl rfl rfl rfl ?_
 refine l_skip rfl rfl rfl rfl rfl rfl ?_
 refine l_skip rfl rfl rfl rfl rfl rfl ?_
 refine l_skip rfl rfl rfl rfl rfl rfl ?_
 refine g_val (v := .bool false) rfl rfl rfl rfl rfl (e_pick_f rfl) ?_
 refine lv (v := .bool false) (e_pick_f rfl) ?_
 refine lv (v := .bool false) e_move ?_
 refine l_skip rfl rfl rfl rfl rfl rfl ?_
 refine l_skip rfl rfl rfl rfl rfl rfl ?_
 refine l_skip rfl rfl rfl rfl rfl rfl ?_
 refine l_skip rfl rfl rfl rfl rfl rfl ?_
 refine l_skip rfl rfl rfl rfl rfl rfl ?_
 refine l_skip_u rfl rfl rfl rfl rfl ?_
 refine l_skip_u rfl rfl rfl rfl rfl ?_
 refine l_skip_u rfl rfl rfl rfl rfl ?_
 refine l_skip_u rfl rfl rfl rfl rfl ?_
 refine l_skip_u rfl rfl rfl rfl rfl ?_
 refine l_skip_u rfl rfl rfl rfl rfl ?_
 refine l_skip_u rfl rfl rfl rfl rfl ?_
 refine l_skip_u rfl rfl rfl rfl rfl ?_
 refine l_skip_u rfl rfl rfl rfl rfl ?_
 refine l_skip_u rfl rfl rfl rfl rfl ?_
 refine l_skip rfl rfl rfl rfl rfl rfl ?_
 refine lv (v := .bool false) (e_pick_f rfl) ?_
 refine lv (v := .bool false) e_assign ?_
 refine lnf ?_
 refine c_ret ?_
 refine ret1 Tryz.results6 (v := .bool false) rfl ?_
 intro w hw
 exact ⟨false, rfl, (fun h => by cases h), st_mask [false] rfl hw⟩
set_option maxHeartbeats 4000000 in
theorem islandTells_ok (β : Base) (w : World) (hw : St β [] w) (v u l : Value) (gx gy : Int) (bs : List KB) (rs : List KR) (ids : List Int) (hs_ : Sl KBR β.heap v bs) (hr_ : Sl KRR β.heap u rs) (hi_ : Sl IntF.R β.heap l ids) (hgx : -9223372036854775808 ≤ gx ∧ gx ≤ 9223372036854775807) (hgy : -9223372036854775808 ≤ gy ∧ gy ≤ 9223372036854775807) : Calls Tryz.prog 3 #[.agg #[v, u, Ix gx, Ix gy], l] w fun r w' => r = .returned (.bool true) ∧ St β [] w' := by
 obtain ⟨va, vc, rfl, vl, vm, ve⟩ := hs_.get
 obtain ⟨ua, uc, rfl, ul, um, ue⟩ := hr_.get
 obtain ⟨la, lc, rfl, ll, lm, le⟩ := hi_.get
 refine enter (n := 21) Tryz.func3 rfl Tryz.ntmps3 rfl ?_ hw
 refine csr ?_
 refine l_mv rfl rfl rfl (m_box (v := .agg #[sB va bs (vc), sB ua rs (uc), Ix (gx), Ix (gy)]) rfl) ?_
 rintro _ _ ⟨b1, rfl, rfl⟩
 refine lv (v := .bool false) e_assign ?_
 refine lnc ?_
 refine lv (v := .agg #[sB va bs (vc), sB ua rs (uc), Ix (gx), Ix (gy)]) (e_load tf31 rfl (k_pt 0 rfl rfl) rfl) ?_
 refine lcf (cl0 (vs := [.agg #[sB va bs (vc), sB ua rs (uc), Ix (gx), Ix (gy)]]) tf239 rfl rfl) rfl fun w β1 sb kn hw1 back => (few_ok β1 w hw1 _ _ gx gy bs rs (Sl.mono _ _ _ _ _ sb (⟨⟨_, _, rfl, vl, vm, ve⟩⟩ : Sl KBR _ _ bs)) (Sl.mono _ _ _ _ _ sb (⟨⟨_, _, rfl, ul, um, ue⟩⟩ : Sl KRR _ _ rs))).mono ?_
 rintro e w' ⟨bf2, rfl, hf3, hw'⟩
 refine ⟨_, rfl, _, back _ _ hw', ?_⟩
 clear hw1 hw' back kn sb
 refine lv (v := .bool (!bf2)) (e_not rfl) ?_
 refine lv (v := .bool (!bf2)) e_move ?_
 refine l_splitb (s := 8) (b := !bf2) rfl (fun hg4 => ?_) (fun hg4 => ?_)
 ·refine l_skip rfl rfl rfl rfl rfl rfl ?_
  refine l_skip rfl rfl rfl rfl rfl rfl ?_
  refine l_skip rfl rfl rfl rfl rfl rfl ?_
  refine lv (v := .bool true) (e_pick_t rfl) ?_
  refine lv (v := .bool true) e_move ?_
  refine l_skip rfl rfl rfl rfl rfl rfl ?_
  refine l_skip rfl rfl rfl rfl rfl rfl ?_
  refine l_skip rfl rfl rfl rfl rfl rfl ?_
  refine lv (v := .bool true) (e_pick_t rfl) ?_
  refine lv (v := .bool true) e_move ?_
  refine g_call rfl rfl rfl rfl rfl (cl0 (vs := []) tf94 rfl rfl) ?_
  intro w hw
  obtain ⟨β1, sb, kn, hw1, back⟩ := St.frame_all hw
  refine (awake_ok β1 w hw1).mono ?_
  rintro e w' ⟨rfl, hw'⟩
  refine ⟨_, rfl, _, back _ _ hw', ?_⟩
  clear hw hw1 hw' back kn sb
  refine lv (v := .bool true) (e_pick_t rfl) ?_
  refine lv (v := .bool true) e_assign ?_
  refine lnf ?_
  refine c_ret ?_
  refine ret1 Tryz.results3 (v := .bool true) rfl ?_
  intro w hw
  exact ⟨rfl, st_mask [false] rfl hw⟩
 refine g_val (v := sB la ids (lc)) rfl rfl rfl rfl rfl e_move ?_
 refine g_val (v := Nx (ids.length)) rfl rfl rfl rfl rfl (e_len (a := la) (n := ids.length) (c := lc) rfl tf28) ?_
 refine g_val rfl rfl rfl rfl rfl (e_gtr (a := ((ids.length : Nat) : Int)) (b := (30 : Int)) rfl rfl) ?_
 refine lv (v := .bool (decide ((30 : Int) < ((ids.length : Nat) : Int)))) (e_pick_f rfl) ?_
 refine lv (v := .bool (decide ((30 : Int) < ((ids.length : Nat) : Int)))) e_move ?_
 refine l_split (s := 13) (p := (30 : Int) < ((ids.length : Nat) : Int)) rfl (fun hg5 => ?_) (fun hg5 => ?_)
 ·refine l_skip rfl rfl rfl rfl rfl rfl ?_
  refine l_skip rfl rfl rfl rfl rfl rfl ?_
  refine l_skip rfl rfl rfl rfl rfl rfl ?_
  refine lv (v := .bool true) (e_pick_t rfl) ?_
  refine lv (v := .bool true) e_move ?_
  refine g_call rfl rfl rfl rfl rfl (cl0 (vs := []) tf94 rfl rfl) ?_
  intro w hw
  obtain ⟨β1, sb, kn, hw1, back⟩ := St.frame_all hw
  refine (awake_ok β1 w hw1).mono ?_
  rintro e w' ⟨rfl, hw'⟩
  refine ⟨_, rfl, _, back _ _ hw', ?_⟩
  clear hw hw1 hw' back kn sb
  refine lv (v := .bool true) (e_pick_t rfl) ?_
  refine lv (v := .bool true) e_assign ?_
  refine lnf ?_
  refine c_ret ?_
  refine ret1 Tryz.results3 (v := .bool true) rfl ?_
  intro w hw
  exact ⟨rfl, st_mask [false] rfl hw⟩
 refine g_val (v := .agg #[sB va bs (vc), sB ua rs (uc), Ix (gx), Ix (gy)]) rfl rfl rfl rfl rfl (e_load tf31 rfl (k_pt 0 rfl rfl) rfl) ?_
 refine g_val (v := sB la ids (lc)) rfl rfl rfl rfl rfl e_move ?_
 refine g_call rfl rfl rfl rfl rfl (cl0 (vs := [.agg #[sB va bs (vc), sB ua rs (uc), Ix (gx), Ix (gy)], sB la ids (lc)]) tf240 rfl rfl) ?_
 intro w hw
 obtain ⟨β1, sb, kn, hw1, back⟩ := St.frame_all hw
 refine (tells_ok β1 w hw1 _ _ _ gx gy bs rs ids (Sl.mono _ _ _ _ _ sb (⟨⟨_, _, rfl, vl, vm, ve⟩⟩ : Sl KBR _ _ bs)) (Sl.mono _ _ _ _ _ sb (⟨⟨_, _, rfl, ul, um, ue⟩⟩ : Sl KRR _ _ rs)) (Sl.mono _ _ _ _ _ sb (⟨⟨_, _, rfl, ll, lm, le⟩⟩ : Sl IntF.R _ _ ids)) (by omega) (by omega) (hf3 (show bf2 = true from by simpa using hg4)).1 (hf3 (show bf2 = true from by simpa using hg4)).2 (by omega)).mono ?_
 rintro e w' ⟨rfl, hw'⟩
 refine ⟨_, rfl, _, back _ _ hw', ?_⟩
 clear hw hw1 hw' back kn sb
 refine lv (v := .bool true) (e_pick_f rfl) ?_
 refine lv (v := .bool true) e_move ?_
 refine g_call rfl rfl rfl rfl rfl (cl0 (vs := []) tf94 rfl rfl) ?_
 intro w hw
 obtain ⟨β1, sb, kn, hw1, back⟩ := St.frame_all hw
 refine (awake_ok β1 w hw1).mono ?_
 rintro e w' ⟨rfl, hw'⟩
 refine ⟨_, rfl, _, back _ _ hw', ?_⟩
 clear hw hw1 hw' back kn sb
 refine lv (v := .bool true) (e_pick_t rfl) ?_
 refine lv (v := .bool true) e_assign ?_
 refine lnf ?_
 refine c_ret ?_
 refine ret1 Tryz.results3 (v := .bool true) rfl ?_
 intro w hw
 exact ⟨rfl, st_mask [false] rfl hw⟩
end Go.Proofs
