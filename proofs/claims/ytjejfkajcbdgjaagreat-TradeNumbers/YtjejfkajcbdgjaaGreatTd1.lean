/-
 Amounts, owners: walked. Printed by a program of my own.
-/
import Derived.Test.YtjejfkajcbdgjaaGreatTdMap
import Derived.Test.YtjejfkajcbdgjaaGreatSlAnd
import Derived.Test.YtjejfkajcbdgjaaGreatTdArr
import Derived.Test.YtjejfkajcbdgjaaGreatSlApt
import Derived.Test.YtjejfkajcbdgjaaGreatSlFn
import Derived.Test.YtjejfkajcbdgjaaGreatSlB
namespace Go.Proofs
open Go Go.Sl Go.Td
theorem in_cases (n : Int) : (inA n = true ∧ (decide (n < (0 : Int)) || decide ((2147483647 : Int) < n)) = false) ∨ (inA n = false ∧ (decide (n < (0 : Int)) || decide ((2147483647 : Int) < n)) = true) := by
 unfold inA
 by_cases h1 : n < 0
 ·exact .inr (by simp [h1, Int.not_le.2 h1])
 ·by_cases h2 : 2147483647 < n
  ·exact .inr (by simp [h2, Int.not_le.2 h2])
  ·exact .inl (by simp [h1, h2]; omega)
theorem with_yes {a : KAm} (h0 : inA a.a0 = true) (h1 : inA a.a1 = true) (h2 : inA a.a2 = true) (h3 : inA a.a3 = true) : a.within = true := by unfold KAm.within; rw [h0, h1, h2, h3]; rfl
theorem with_no0 {a : KAm} (h : inA a.a0 = false) : a.within = false := by unfold KAm.within; rw [h]; rfl
theorem with_no1 {a : KAm} (h : inA a.a1 = false) : a.within = false := by unfold KAm.within; rw [h, Bool.and_false]; rfl
theorem with_no2 {a : KAm} (h : inA a.a2 = false) : a.within = false := by unfold KAm.within; rw [h, Bool.and_false]; rfl
theorem with_no3 {a : KAm} (h : inA a.a3 = false) : a.within = false := by unfold KAm.within; rw [h, Bool.and_false]
theorem tt0 : tyB Tryz.prog 44 true 4 = true := by kernel_rfl
theorem tt1 : arB Tryz.prog 44 4 3 1 = true := by kernel_rfl
theorem tt2 : tyB Tryz.prog 3 false 1 = true := by kernel_rfl
theorem tt3 : (Tryz.prog.info? 44).bind (·.zero) = some (.agg #[.int .i64 (0), .int .i64 (0), .int .i64 (0), .int .i64 (0)]) := by kernel_rfl
theorem owner_ok (β : Base) (w : World) (hw : St β [] w) (n : Int) : Calls Tryz.prog 101 #[Ix n] w fun r w' => r = .returned (.bool (ownB n)) ∧ St β [] w' := by
 refine enter (n := 9) Tryz.func101 rfl Tryz.ntmps101 rfl ?_ hw
 refine c_seq ?_
 refine c_region ?_
 refine l_val (v := .bool false) rfl rfl rfl (e_assign) ?_
 refine l_nil ?_
 refine f_then ?_
 refine c_seq ?_
 refine c_region ?_
 refine l_val (v := Ix (n)) rfl rfl rfl (e_move) ?_
 refine l_val (v := .bool (decide ((1 : Int) ≤ (n)))) rfl rfl rfl (e_geq (a := (n)) (b := (1 : Int)) rfl rfl) ?_
 refine l_and2 (decide ((1 : Int) ≤ (n))) (decide ((n) ≤ (65536 : Int))) rfl (fun hb1 hk1 => ?_) (fun z2 z3 => ?_)
 ·
  have hb1p := of_decide_eq_true hb1
  refine g_val (v := Ix (n)) rfl rfl rfl rfl rfl (e_move) ?_
  refine g_val (v := .bool (decide ((n) ≤ (65536 : Int)))) rfl rfl rfl rfl rfl (e_leq (a := (n)) (b := (65536 : Int)) rfl rfl) ?_
  refine l_val (v := .bool (decide ((n) ≤ (65536 : Int)))) rfl rfl rfl (e_pick_t rfl) ?_
  exact hk1 _ _
 refine l_val (v := .bool (((decide ((1 : Int) ≤ (n))) && (decide ((n) ≤ (65536 : Int)))))) rfl rfl rfl (e_assign) ?_
 refine l_nil ?_
 refine f_then ?_
 refine c_ret ?_
 refine ret1 Tryz.results101 (v := .bool (((decide ((1 : Int) ≤ (n))) && (decide ((n) ≤ (65536 : Int)))))) rfl ?_
 intro w hw
 exact ⟨rfl, st_mask [] rfl hw⟩
set_option maxHeartbeats 4000000 in
theorem within_ok (β : Base) (w : World) (hw : St β [] w) (a : KAm) : Calls Tryz.prog 102 #[.agg (amC a)] w fun r w' => r = .returned (.bool a.within) ∧ St β [] w' := by
 refine enter (n := 16) Tryz.func102 rfl Tryz.ntmps102 rfl ?_ hw
 refine c_seq ?_
 refine c_region ?_
 refine l_mv rfl rfl rfl (m_box (v := .agg (amC a)) rfl) ?_
 rintro _ _ ⟨b1, rfl, rfl⟩
 refine l_val (v := .bool false) rfl rfl rfl (e_assign) ?_
 refine l_nil ?_
 refine f_then ?_
 refine c_seq ?_
 refine c_seq ?_
 refine c_region ?_
 refine l_val (v := .agg (amC a)) rfl rfl rfl (e_load tt0 (cs := (amE a)) rfl (k_pt 0 (cs := (amC a)) (vs := (amE a)) rfl rfl) rfl) ?_
 refine l_val (v := .int .i64 (0)) rfl rfl rfl (e_move) ?_
 refine l_nil ?_
 refine f_then ?_
 refine c_block ?_
 refine c_unroll 5 ?_
 refine un_succ 4 ?_
 refine c_seq ?_
 refine c_region ?_
 refine l_val (v := .bool true) rfl rfl rfl (e_lss (a := (0 : Int)) (b := (4 : Int)) rfl rfl) ?_
 refine l_nil ?_
 refine f_then ?_
 refine c_seq ?_
 refine c_yes rfl ?_
 refine c_skip ?_
 refine f_then ?_
 refine c_seq ?_
 refine c_block ?_
 refine c_seq ?_
 refine c_region ?_
 refine l_val (v := Ix (a.a0)) rfl rfl rfl (e_index_a (cs := (amC a)) (k := 0) rfl rfl tt1 rfl (by decide) tt2) ?_
 refine l_val (v := Ix (a.a0)) rfl rfl rfl (e_assign) ?_
 refine l_nil ?_
 refine f_then ?_
 refine c_seq ?_
 rcases in_cases (a.a0) with hi0 | hi0
 ·
  refine c_region ?_
  refine l_val (v := Ix (a.a0)) rfl rfl rfl (e_move) ?_
  refine l_val (v := .bool (decide ((a.a0) < (0 : Int)))) rfl rfl rfl (e_lss (a := (a.a0)) (b := (0 : Int)) rfl rfl) ?_
  refine l_or2 (decide ((a.a0) < (0 : Int))) (decide ((2147483647 : Int) < (a.a0))) rfl (fun hb2 hk2 => ?_) (fun z3 z4 => ?_)
  ·
   have hb2p := of_decide_eq_false hb2
   refine g_val (v := Ix (a.a0)) rfl rfl rfl rfl rfl (e_move) ?_
   refine g_val (v := .bool (decide ((2147483647 : Int) < (a.a0)))) rfl rfl rfl rfl rfl (e_gtr (a := (a.a0)) (b := (2147483647 : Int)) rfl rfl) ?_
   refine l_val (v := .bool (decide ((2147483647 : Int) < (a.a0)))) rfl rfl rfl (e_pick_f rfl) ?_
   exact hk2 _ _
  refine l_nil ?_
  refine f_then ?_
  refine c_ifb (((decide ((a.a0) < (0 : Int))) || (decide ((2147483647 : Int) < (a.a0))))) rfl (fun hc5 => ?_) (fun hc5 => ?_)
  ·
   rw [hi0.2] at hc5; cases hc5
  ·
   refine c_skip ?_
   refine f_block ?_
   refine f_then ?_
   refine c_region ?_
   refine l_val (v := .int .i64 (1)) rfl rfl rfl (e_add (a := (0 : Int)) (b := (1 : Int)) rfl rfl (by decide)) ?_
   refine l_val (v := .int .i64 (1)) rfl rfl rfl (e_move) ?_
   refine l_nil ?_
   refine f_cut ?_
   refine un_succ 3 ?_
   refine c_seq ?_
   refine c_region ?_
   refine l_val (v := .bool true) rfl rfl rfl (e_lss (a := (1 : Int)) (b := (4 : Int)) rfl rfl) ?_
   refine l_nil ?_
   refine f_then ?_
   refine c_seq ?_
   refine c_yes rfl ?_
   refine c_skip ?_
   refine f_then ?_
   refine c_seq ?_
   refine c_block ?_
   refine c_seq ?_
   refine c_region ?_
   refine l_val (v := Ix (a.a1)) rfl rfl rfl (e_index_a (cs := (amC a)) (k := 1) rfl rfl tt1 rfl (by decide) tt2) ?_
   refine l_val (v := Ix (a.a1)) rfl rfl rfl (e_assign) ?_
   refine l_nil ?_
   refine f_then ?_
   refine c_seq ?_
   rcases in_cases (a.a1) with hi1 | hi1
   ·
    refine c_region ?_
    refine l_val (v := Ix (a.a1)) rfl rfl rfl (e_move) ?_
    refine l_val (v := .bool (decide ((a.a1) < (0 : Int)))) rfl rfl rfl (e_lss (a := (a.a1)) (b := (0 : Int)) rfl rfl) ?_
    refine l_or2 (decide ((a.a1) < (0 : Int))) (decide ((2147483647 : Int) < (a.a1))) rfl (fun hb6 hk6 => ?_) (fun z7 z8 => ?_)
    ·
     have hb6p := of_decide_eq_false hb6
     refine g_val (v := Ix (a.a1)) rfl rfl rfl rfl rfl (e_move) ?_
     refine g_val (v := .bool (decide ((2147483647 : Int) < (a.a1)))) rfl rfl rfl rfl rfl (e_gtr (a := (a.a1)) (b := (2147483647 : Int)) rfl rfl) ?_
     refine l_val (v := .bool (decide ((2147483647 : Int) < (a.a1)))) rfl rfl rfl (e_pick_f rfl) ?_
     exact hk6 _ _
    refine l_nil ?_
    refine f_then ?_
    refine c_ifb (((decide ((a.a1) < (0 : Int))) || (decide ((2147483647 : Int) < (a.a1))))) rfl (fun hc9 => ?_) (fun hc9 => ?_)
    ·
     rw [hi1.2] at hc9; cases hc9
    ·
     refine c_skip ?_
     refine f_block ?_
     refine f_then ?_
     refine c_region ?_
     refine l_val (v := .int .i64 (2)) rfl rfl rfl (e_add (a := (1 : Int)) (b := (1 : Int)) rfl rfl (by decide)) ?_
     refine l_val (v := .int .i64 (2)) rfl rfl rfl (e_move) ?_
     refine l_nil ?_
     refine f_cut ?_
     refine un_succ 2 ?_
     refine c_seq ?_
     refine c_region ?_
     refine l_val (v := .bool true) rfl rfl rfl (e_lss (a := (2 : Int)) (b := (4 : Int)) rfl rfl) ?_
     refine l_nil ?_
     refine f_then ?_
     refine c_seq ?_
     refine c_yes rfl ?_
     refine c_skip ?_
     refine f_then ?_
     refine c_seq ?_
     refine c_block ?_
     refine c_seq ?_
     refine c_region ?_
     refine l_val (v := Ix (a.a2)) rfl rfl rfl (e_index_a (cs := (amC a)) (k := 2) rfl rfl tt1 rfl (by decide) tt2) ?_
     refine l_val (v := Ix (a.a2)) rfl rfl rfl (e_assign) ?_
     refine l_nil ?_
     refine f_then ?_
     refine c_seq ?_
     rcases in_cases (a.a2) with hi2 | hi2
     ·
      refine c_region ?_
      refine l_val (v := Ix (a.a2)) rfl rfl rfl (e_move) ?_
      refine l_val (v := .bool (decide ((a.a2) < (0 : Int)))) rfl rfl rfl (e_lss (a := (a.a2)) (b := (0 : Int)) rfl rfl) ?_
      refine l_or2 (decide ((a.a2) < (0 : Int))) (decide ((2147483647 : Int) < (a.a2))) rfl (fun hb10 hk10 => ?_) (fun z11 z12 => ?_)
      ·
       have hb10p := of_decide_eq_false hb10
       refine g_val (v := Ix (a.a2)) rfl rfl rfl rfl rfl (e_move) ?_
       refine g_val (v := .bool (decide ((2147483647 : Int) < (a.a2)))) rfl rfl rfl rfl rfl (e_gtr (a := (a.a2)) (b := (2147483647 : Int)) rfl rfl) ?_
       refine l_val (v := .bool (decide ((2147483647 : Int) < (a.a2)))) rfl rfl rfl (e_pick_f rfl) ?_
       exact hk10 _ _
      refine l_nil ?_
      refine f_then ?_
      refine c_ifb (((decide ((a.a2) < (0 : Int))) || (decide ((2147483647 : Int) < (a.a2))))) rfl (fun hc13 => ?_) (fun hc13 => ?_)
      ·
       rw [hi2.2] at hc13; cases hc13
      ·
       refine c_skip ?_
       refine f_block ?_
       refine f_then ?_
       refine c_region ?_
       refine l_val (v := .int .i64 (3)) rfl rfl rfl (e_add (a := (2 : Int)) (b := (1 : Int)) rfl rfl (by decide)) ?_
       refine l_val (v := .int .i64 (3)) rfl rfl rfl (e_move) ?_
       refine l_nil ?_
       refine f_cut ?_
       refine un_succ 1 ?_
       refine c_seq ?_
       refine c_region ?_
       refine l_val (v := .bool true) rfl rfl rfl (e_lss (a := (3 : Int)) (b := (4 : Int)) rfl rfl) ?_
       refine l_nil ?_
       refine f_then ?_
       refine c_seq ?_
       refine c_yes rfl ?_
       refine c_skip ?_
       refine f_then ?_
       refine c_seq ?_
       refine c_block ?_
       refine c_seq ?_
       refine c_region ?_
       refine l_val (v := Ix (a.a3)) rfl rfl rfl (e_index_a (cs := (amC a)) (k := 3) rfl rfl tt1 rfl (by decide) tt2) ?_
       refine l_val (v := Ix (a.a3)) rfl rfl rfl (e_assign) ?_
       refine l_nil ?_
       refine f_then ?_
       refine c_seq ?_
       rcases in_cases (a.a3) with hi3 | hi3
       ·
        refine c_region ?_
        refine l_val (v := Ix (a.a3)) rfl rfl rfl (e_move) ?_
        refine l_val (v := .bool (decide ((a.a3) < (0 : Int)))) rfl rfl rfl (e_lss (a := (a.a3)) (b := (0 : Int)) rfl rfl) ?_
        refine l_or2 (decide ((a.a3) < (0 : Int))) (decide ((2147483647 : Int) < (a.a3))) rfl (fun hb14 hk14 => ?_) (fun z15 z16 => ?_)
        ·
         have hb14p := of_decide_eq_false hb14
         refine g_val (v := Ix (a.a3)) rfl rfl rfl rfl rfl (e_move) ?_
         refine g_val (v := .bool (decide ((2147483647 : Int) < (a.a3)))) rfl rfl rfl rfl rfl (e_gtr (a := (a.a3)) (b := (2147483647 : Int)) rfl rfl) ?_
         refine l_val (v := .bool (decide ((2147483647 : Int) < (a.a3)))) rfl rfl rfl (e_pick_f rfl) ?_
         exact hk14 _ _
        refine l_nil ?_
        refine f_then ?_
        refine c_ifb (((decide ((a.a3) < (0 : Int))) || (decide ((2147483647 : Int) < (a.a3))))) rfl (fun hc17 => ?_) (fun hc17 => ?_)
        ·
         rw [hi3.2] at hc17; cases hc17
        ·
         refine c_skip ?_
         refine f_block ?_
         refine f_then ?_
         refine c_region ?_
         refine l_val (v := .int .i64 (4)) rfl rfl rfl (e_add (a := (3 : Int)) (b := (1 : Int)) rfl rfl (by decide)) ?_
         refine l_val (v := .int .i64 (4)) rfl rfl rfl (e_move) ?_
         refine l_nil ?_
         refine f_cut ?_
         refine un_succ 0 ?_
         refine c_seq ?_
         refine c_region ?_
         refine l_val (v := .bool false) rfl rfl rfl (e_lss (a := (4 : Int)) (b := (4 : Int)) rfl rfl) ?_
         refine l_nil ?_
         refine f_then ?_
         refine c_seq ?_
         refine c_no rfl ?_
         refine c_exit ?_
         refine f_then_exit ?_
         refine f_then_exit ?_
         refine f_exit ?_
         refine f_then ?_
         refine c_seq ?_
         refine c_region ?_
         refine l_val (v := .bool true) rfl rfl rfl (e_assign) ?_
         refine l_nil ?_
         refine f_then ?_
         refine c_ret ?_
         refine ret1 Tryz.results102 (v := .bool true) rfl ?_
         intro w hw
         exact ⟨by rw [with_yes hi0.1 hi1.1 hi2.1 hi3.1], st_mask [false] rfl hw⟩
       ·
        refine c_region ?_
        refine l_val (v := Ix (a.a3)) rfl rfl rfl (e_move) ?_
        refine l_val (v := .bool (decide ((a.a3) < (0 : Int)))) rfl rfl rfl (e_lss (a := (a.a3)) (b := (0 : Int)) rfl rfl) ?_
        refine l_or2 (decide ((a.a3) < (0 : Int))) (decide ((2147483647 : Int) < (a.a3))) rfl (fun hb18 hk18 => ?_) (fun z19 z20 => ?_)
        ·
         have hb18p := of_decide_eq_false hb18
         refine g_val (v := Ix (a.a3)) rfl rfl rfl rfl rfl (e_move) ?_
         refine g_val (v := .bool (decide ((2147483647 : Int) < (a.a3)))) rfl rfl rfl rfl rfl (e_gtr (a := (a.a3)) (b := (2147483647 : Int)) rfl rfl) ?_
         refine l_val (v := .bool (decide ((2147483647 : Int) < (a.a3)))) rfl rfl rfl (e_pick_f rfl) ?_
         exact hk18 _ _
        refine l_nil ?_
        refine f_then ?_
        refine c_ifb (((decide ((a.a3) < (0 : Int))) || (decide ((2147483647 : Int) < (a.a3))))) rfl (fun hc21 => ?_) (fun hc21 => ?_)
        ·
         refine c_seq ?_
         refine c_region ?_
         refine l_val (v := .bool false) rfl rfl rfl (e_assign) ?_
         refine l_nil ?_
         refine f_then ?_
         refine c_ret ?_
         refine f_block_ret ?_
         refine f_then_ret ?_
         refine f_then_ret ?_
         refine f_block_ret ?_
         refine f_then_ret ?_
         refine ret1 Tryz.results102 (v := .bool false) rfl ?_
         intro w hw
         exact ⟨by rw [with_no3 hi3.1], st_mask [false] rfl hw⟩
        ·
         rw [hi3.2] at hc21; cases hc21
     ·
      refine c_region ?_
      refine l_val (v := Ix (a.a2)) rfl rfl rfl (e_move) ?_
      refine l_val (v := .bool (decide ((a.a2) < (0 : Int)))) rfl rfl rfl (e_lss (a := (a.a2)) (b := (0 : Int)) rfl rfl) ?_
      refine l_or2 (decide ((a.a2) < (0 : Int))) (decide ((2147483647 : Int) < (a.a2))) rfl (fun hb22 hk22 => ?_) (fun z23 z24 => ?_)
      ·
       have hb22p := of_decide_eq_false hb22
       refine g_val (v := Ix (a.a2)) rfl rfl rfl rfl rfl (e_move) ?_
       refine g_val (v := .bool (decide ((2147483647 : Int) < (a.a2)))) rfl rfl rfl rfl rfl (e_gtr (a := (a.a2)) (b := (2147483647 : Int)) rfl rfl) ?_
       refine l_val (v := .bool (decide ((2147483647 : Int) < (a.a2)))) rfl rfl rfl (e_pick_f rfl) ?_
       exact hk22 _ _
      refine l_nil ?_
      refine f_then ?_
      refine c_ifb (((decide ((a.a2) < (0 : Int))) || (decide ((2147483647 : Int) < (a.a2))))) rfl (fun hc25 => ?_) (fun hc25 => ?_)
      ·
       refine c_seq ?_
       refine c_region ?_
       refine l_val (v := .bool false) rfl rfl rfl (e_assign) ?_
       refine l_nil ?_
       refine f_then ?_
       refine c_ret ?_
       refine f_block_ret ?_
       refine f_then_ret ?_
       refine f_then_ret ?_
       refine f_block_ret ?_
       refine f_then_ret ?_
       refine ret1 Tryz.results102 (v := .bool false) rfl ?_
       intro w hw
       exact ⟨by rw [with_no2 hi2.1], st_mask [false] rfl hw⟩
      ·
       rw [hi2.2] at hc25; cases hc25
   ·
    refine c_region ?_
    refine l_val (v := Ix (a.a1)) rfl rfl rfl (e_move) ?_
    refine l_val (v := .bool (decide ((a.a1) < (0 : Int)))) rfl rfl rfl (e_lss (a := (a.a1)) (b := (0 : Int)) rfl rfl) ?_
    refine l_or2 (decide ((a.a1) < (0 : Int))) (decide ((2147483647 : Int) < (a.a1))) rfl (fun hb26 hk26 => ?_) (fun z27 z28 => ?_)
    ·
     have hb26p := of_decide_eq_false hb26
     refine g_val (v := Ix (a.a1)) rfl rfl rfl rfl rfl (e_move) ?_
     refine g_val (v := .bool (decide ((2147483647 : Int) < (a.a1)))) rfl rfl rfl rfl rfl (e_gtr (a := (a.a1)) (b := (2147483647 : Int)) rfl rfl) ?_
     refine l_val (v := .bool (decide ((2147483647 : Int) < (a.a1)))) rfl rfl rfl (e_pick_f rfl) ?_
     exact hk26 _ _
    refine l_nil ?_
    refine f_then ?_
    refine c_ifb (((decide ((a.a1) < (0 : Int))) || (decide ((2147483647 : Int) < (a.a1))))) rfl (fun hc29 => ?_) (fun hc29 => ?_)
    ·
     refine c_seq ?_
     refine c_region ?_
     refine l_val (v := .bool false) rfl rfl rfl (e_assign) ?_
     refine l_nil ?_
     refine f_then ?_
     refine c_ret ?_
     refine f_block_ret ?_
     refine f_then_ret ?_
     refine f_then_ret ?_
     refine f_block_ret ?_
     refine f_then_ret ?_
     refine ret1 Tryz.results102 (v := .bool false) rfl ?_
     intro w hw
     exact ⟨by rw [with_no1 hi1.1], st_mask [false] rfl hw⟩
    ·
     rw [hi1.2] at hc29; cases hc29
 ·
  refine c_region ?_
  refine l_val (v := Ix (a.a0)) rfl rfl rfl (e_move) ?_
  refine l_val (v := .bool (decide ((a.a0) < (0 : Int)))) rfl rfl rfl (e_lss (a := (a.a0)) (b := (0 : Int)) rfl rfl) ?_
  refine l_or2 (decide ((a.a0) < (0 : Int))) (decide ((2147483647 : Int) < (a.a0))) rfl (fun hb30 hk30 => ?_) (fun z31 z32 => ?_)
  ·
   have hb30p := of_decide_eq_false hb30
   refine g_val (v := Ix (a.a0)) rfl rfl rfl rfl rfl (e_move) ?_
   refine g_val (v := .bool (decide ((2147483647 : Int) < (a.a0)))) rfl rfl rfl rfl rfl (e_gtr (a := (a.a0)) (b := (2147483647 : Int)) rfl rfl) ?_
   refine l_val (v := .bool (decide ((2147483647 : Int) < (a.a0)))) rfl rfl rfl (e_pick_f rfl) ?_
   exact hk30 _ _
  refine l_nil ?_
  refine f_then ?_
  refine c_ifb (((decide ((a.a0) < (0 : Int))) || (decide ((2147483647 : Int) < (a.a0))))) rfl (fun hc33 => ?_) (fun hc33 => ?_)
  ·
   refine c_seq ?_
   refine c_region ?_
   refine l_val (v := .bool false) rfl rfl rfl (e_assign) ?_
   refine l_nil ?_
   refine f_then ?_
   refine c_ret ?_
   refine f_block_ret ?_
   refine f_then_ret ?_
   refine f_then_ret ?_
   refine f_block_ret ?_
   refine f_then_ret ?_
   refine ret1 Tryz.results102 (v := .bool false) rfl ?_
   intro w hw
   exact ⟨by rw [with_no0 hi0.1], st_mask [false] rfl hw⟩
  ·
   rw [hi0.2] at hc33; cases hc33
set_option maxHeartbeats 4000000 in
theorem plus_ok (β : Base) (w : World) (hw : St β [] w) (a b : KAm) (s : Int) (hs : s = 1 ∨ s = -1) (ha : a.bd 4611686018427387903) (hb : b.bd 4611686018427387903) : Calls Tryz.prog 108 #[.agg (amC a), .agg (amC b), Ix s] w fun r w' => r = .returned (.agg (amC (a.plus b s))) ∧ St β [] w' := by
 obtain ⟨ha0, ha1, ha2, ha3⟩ := ha
 obtain ⟨hb0, hb1, hb2, hb3⟩ := hb
 have hm0 : -4611686018427387903 ≤ s * b.a0 ∧ s * b.a0 ≤ 4611686018427387903 := by rcases hs with rfl | rfl <;> omega
 have hm1 : -4611686018427387903 ≤ s * b.a1 ∧ s * b.a1 ≤ 4611686018427387903 := by rcases hs with rfl | rfl <;> omega
 have hm2 : -4611686018427387903 ≤ s * b.a2 ∧ s * b.a2 ≤ 4611686018427387903 := by rcases hs with rfl | rfl <;> omega
 have hm3 : -4611686018427387903 ≤ s * b.a3 ∧ s * b.a3 ≤ 4611686018427387903 := by rcases hs with rfl | rfl <;> omega
 refine enter (n := 23) Tryz.func108 rfl Tryz.ntmps108 rfl ?_ hw
 refine c_seq ?_
 refine c_region ?_
 refine l_mv rfl rfl rfl (m_box (v := .agg (amC a)) rfl) ?_
 rintro _ _ ⟨b1, rfl, rfl⟩
 refine l_mv rfl rfl rfl (m_box (v := .agg (amC b)) rfl) ?_
 rintro _ _ ⟨b2, rfl, rfl⟩
 refine l_mv rfl rfl rfl (m_alloc tt3) ?_
 rintro _ _ ⟨b3, rfl, rfl⟩
 refine l_nil ?_
 refine f_then ?_
 refine c_seq ?_
 refine c_seq ?_
 refine c_region ?_
 refine l_val (v := .int .i64 (0)) rfl rfl rfl (e_move) ?_
 refine l_nil ?_
 refine f_then ?_
 refine c_block ?_
 refine c_unroll 5 ?_
 refine un_succ 4 ?_
 refine c_seq ?_
 refine c_region ?_
 refine l_val (v := .bool true) rfl rfl rfl (e_lss (a := (0 : Int)) (b := (4 : Int)) rfl rfl) ?_
 refine l_nil ?_
 refine f_then ?_
 refine c_seq ?_
 refine c_yes rfl ?_
 refine c_skip ?_
 refine f_then ?_
 refine c_seq ?_
 refine c_block ?_
 refine c_seq ?_
 refine c_region ?_
 refine l_val (v := .int .i64 (0)) rfl rfl rfl (e_move) ?_
 refine l_val (v := .int .i64 (0)) rfl rfl rfl (e_assign) ?_
 refine l_nil ?_
 refine f_then ?_
 refine c_any [⟨[], [], [0], [11], fun f => f 11 = .int .i64 (0)⟩, ⟨[0], [0], [1], [12], fun f => f 12 = .pointer (some ⟨b1, 0, none⟩)⟩, ⟨[0, 1], [1], [], [13], fun f => f 13 = Ix (a.a0)⟩, ⟨[], [], [2], [14], fun f => f 14 = Ix (s)⟩, ⟨[], [], [0], [15], fun f => f 15 = .int .i64 (0)⟩, ⟨[4], [4], [3], [16], fun f => f 16 = .pointer (some ⟨b2, 0, none⟩)⟩, ⟨[4, 5], [5], [], [17], fun f => f 17 = Ix (b.a0)⟩, ⟨[3, 4, 5, 6], [3, 6], [], [18], fun f => f 18 = Ix ((s) * (b.a0))⟩, ⟨[0, 1, 2, 3, 4, 5, 6, 7], [2, 7], [], [19], fun f => f 19 = Ix ((a.a0) + ((s) * (b.a0)))⟩, ⟨[0, 1, 2, 3, 4, 5, 6, 7, 8], [0], [1], [20], fun f => f 20 = .pointer (some ⟨b1, 0, none⟩)⟩, ⟨[0, 1, 2, 3, 4, 5, 6, 7, 8, 9], [9, 8], [], [], fun _ => True⟩] [⟨none, none, [], [], fun _ => pt b3 (.cells #[.int .i64 (0), .int .i64 (0), .int .i64 (0), .int .i64 (0)] 44)⟩, ⟨none, none, [6], [], fun _ => pt b2 (.cells (amC b) 44)⟩, ⟨none, (some 10), [2, 10], [], fun _ => pt b1 (.cells (amC a) 44)⟩, ⟨(some 10), none, [], [], fun _ => pt b1 (.cells #[Ix ((a.a0) + ((s) * (b.a0))), Ix (a.a1), Ix (a.a2), Ix (a.a3)] 44)⟩] [(7, .int .i64 (0)), (3, .pointer (some ⟨b1, 0, none⟩)), (2, Ix (s)), (4, .pointer (some ⟨b2, 0, none⟩)), (6, .pointer (some ⟨b3, 0, none⟩)), (8, .int .i64 (0))] [2, 1, 3, 4, 5] [] (by kernel_rfl) (by kernel_rfl) (by kernel_rfl) (by kernel_rfl) rfl ⟨rfl, rfl, rfl, rfl, rfl, rfl, trivial⟩ ⟨?_, ?_, ?_, ?_, ?_, ?_, ?_, ?_, ?_, ?_, ?_, trivial⟩ ?_
 ·rintro f M - ⟨i0, -⟩
  have hs7 : f 7 = .int .i64 (0) := i0
  refine ob_start (L' := M) (by rfl) (up_cons rfl hs7) ?_
  refine l_val (v := .int .i64 (0)) rfl rfl rfl (e_move) ?_
  refine l_nil ?_
  exact f_owes_d (up_cons rfl hs7) rfl (List.Perm.refl _)
 ·rintro f M ⟨k0, -⟩ ⟨i0, -⟩
  have hs3 : f 3 = .pointer (some ⟨b1, 0, none⟩) := i0
  have hs11 : f 11 = .int .i64 (0) := k0
  refine ob_start (L' := M) (by rfl) (up_cons (up_cons rfl hs3) hs11) ?_
  refine l_val (v := .pointer (some ⟨b1, 0, none⟩)) rfl rfl rfl (e_indexArrK (b := b1) (o := 0) (k := 0) rfl rfl tt1 (by decide)) ?_
  refine l_nil ?_
  exact f_owes_d (up_cons (up_cons rfl hs3) hs11) rfl (List.Perm.refl _)
 ·rintro f M ⟨k0, -⟩ -
  have hs12 : f 12 = .pointer (some ⟨b1, 0, none⟩) := k0
  refine ob_start (L' := pt b1 (.cells (amC a) 44) :: M) (by rfl) (up_cons rfl hs12) ?_
  refine l_val (v := Ix (a.a0)) rfl rfl rfl (e_load1 tt2 (v := Ix (a.a0)) rfl (k_pt 0 (cs := (amC a)) (vs := [Ix (a.a0)]) rfl rfl)) ?_
  refine l_nil ?_
  exact f_owes_d (up_cons rfl hs12) rfl (perm_front 0 rfl)
 ·rintro f M - ⟨i0, -⟩
  have hs2 : f 2 = Ix (s) := i0
  refine ob_start (L' := M) (by rfl) (up_cons rfl hs2) ?_
  refine l_val (v := Ix (s)) rfl rfl rfl (e_move) ?_
  refine l_nil ?_
  exact f_owes_d (up_cons rfl hs2) rfl (List.Perm.refl _)
 ·rintro f M - ⟨i0, -⟩
  have hs7 : f 7 = .int .i64 (0) := i0
  refine ob_start (L' := M) (by rfl) (up_cons rfl hs7) ?_
  refine l_val (v := .int .i64 (0)) rfl rfl rfl (e_move) ?_
  refine l_nil ?_
  exact f_owes_d (up_cons rfl hs7) rfl (List.Perm.refl _)
 ·rintro f M ⟨k0, -⟩ ⟨i0, -⟩
  have hs4 : f 4 = .pointer (some ⟨b2, 0, none⟩) := i0
  have hs15 : f 15 = .int .i64 (0) := k0
  refine ob_start (L' := M) (by rfl) (up_cons (up_cons rfl hs4) hs15) ?_
  refine l_val (v := .pointer (some ⟨b2, 0, none⟩)) rfl rfl rfl (e_indexArrK (b := b2) (o := 0) (k := 0) rfl rfl tt1 (by decide)) ?_
  refine l_nil ?_
  exact f_owes_d (up_cons (up_cons rfl hs4) hs15) rfl (List.Perm.refl _)
 ·rintro f M ⟨k0, -⟩ -
  have hs16 : f 16 = .pointer (some ⟨b2, 0, none⟩) := k0
  refine ob_start (L' := pt b2 (.cells (amC b) 44) :: M) (by rfl) (up_cons rfl hs16) ?_
  refine l_val (v := Ix (b.a0)) rfl rfl rfl (e_load1 tt2 (v := Ix (b.a0)) rfl (k_pt 0 (cs := (amC b)) (vs := [Ix (b.a0)]) rfl rfl)) ?_
  refine l_nil ?_
  exact f_owes_d (up_cons rfl hs16) rfl (perm_front 0 rfl)
 ·rintro f M ⟨k0, k1, -⟩ -
  have hs14 : f 14 = Ix (s) := k0
  have hs17 : f 17 = Ix (b.a0) := k1
  refine ob_start (L' := M) (by rfl) (up_cons (up_cons rfl hs14) hs17) ?_
  refine l_val (v := Ix ((s) * (b.a0))) rfl rfl rfl (e_mul (a := (s)) (b := (b.a0)) rfl rfl (i64w (by omega))) ?_
  refine l_nil ?_
  exact f_owes_d (up_cons (up_cons rfl hs14) hs17) rfl (List.Perm.refl _)
 ·rintro f M ⟨k0, k1, -⟩ -
  have hs13 : f 13 = Ix (a.a0) := k0
  have hs18 : f 18 = Ix ((s) * (b.a0)) := k1
  refine ob_start (L' := M) (by rfl) (up_cons (up_cons rfl hs13) hs18) ?_
  refine l_val (v := Ix ((a.a0) + ((s) * (b.a0)))) rfl rfl rfl (e_add (a := (a.a0)) (b := ((s) * (b.a0))) rfl rfl (i64w (by omega))) ?_
  refine l_nil ?_
  exact f_owes_d (up_cons (up_cons rfl hs13) hs18) rfl (List.Perm.refl _)
 ·rintro f M ⟨k0, -⟩ ⟨i0, -⟩
  have hs3 : f 3 = .pointer (some ⟨b1, 0, none⟩) := i0
  have hs11 : f 11 = .int .i64 (0) := k0
  refine ob_start (L' := M) (by rfl) (up_cons (up_cons rfl hs3) hs11) ?_
  refine l_val (v := .pointer (some ⟨b1, 0, none⟩)) rfl rfl rfl (e_indexArrK (b := b1) (o := 0) (k := 0) rfl rfl tt1 (by decide)) ?_
  refine l_nil ?_
  exact f_owes_d (up_cons (up_cons rfl hs3) hs11) rfl (List.Perm.refl _)
 ·rintro f M ⟨k0, k1, -⟩ -
  have hs20 : f 20 = .pointer (some ⟨b1, 0, none⟩) := k0
  have hs19 : f 19 = Ix ((a.a0) + ((s) * (b.a0))) := k1
  refine ob_start (L' := pt b1 (.cells (amC a) 44) :: M) (by rfl) (up_cons (up_cons rfl hs20) hs19) ?_
  refine l_mu rfl rfl (m_store 0 tt2 (b := b1) (o := 0) (T := 44) (cs := (amC a)) (cs' := #[Ix ((a.a0) + ((s) * (b.a0))), Ix (a.a1), Ix (a.a2), Ix (a.a3)]) (v := Ix ((a.a0) + ((s) * (b.a0)))) rfl rfl rfl rfl rfl rfl rfl) ?_
  refine l_nil ?_
  exact f_owes_n (up_cons (up_cons rfl hs20) hs19) trivial (perm_front 0 rfl)
 rintro fa4 ⟨-, -, -, -, -, -, -, -, -, -, -, -⟩ ⟨j0, j1, j2, j3, j4, -⟩
 refine f_re (L' := [pt b3 (.cells #[.int .i64 (0), .int .i64 (0), .int .i64 (0), .int .i64 (0)] 44), pt b2 (.cells (amC b) 44), pt b1 (.cells #[Ix ((a.a0) + ((s) * (b.a0))), Ix (a.a1), Ix (a.a2), Ix (a.a3)] 44)]) (by rfl) ?_
 refine f_rebase (d := 2) (v := Ix (s)) j0 ?_
 refine f_rebase (d := 3) (v := .pointer (some ⟨b1, 0, none⟩)) j1 ?_
 refine f_rebase (d := 4) (v := .pointer (some ⟨b2, 0, none⟩)) j2 ?_
 refine f_rebase (d := 6) (v := .pointer (some ⟨b3, 0, none⟩)) j3 ?_
 refine f_rebase (d := 8) (v := .int .i64 (0)) j4 ?_
 refine f_block ?_
 refine f_then ?_
 refine c_region ?_
 refine l_val (v := .int .i64 (1)) rfl rfl rfl (e_add (a := (0 : Int)) (b := (1 : Int)) rfl rfl (by decide)) ?_
 refine l_val (v := .int .i64 (1)) rfl rfl rfl (e_move) ?_
 refine l_nil ?_
 refine f_cut ?_
 refine un_succ 3 ?_
 refine c_seq ?_
 refine c_region ?_
 refine l_val (v := .bool true) rfl rfl rfl (e_lss (a := (1 : Int)) (b := (4 : Int)) rfl rfl) ?_
 refine l_nil ?_
 refine f_then ?_
 refine c_seq ?_
 refine c_yes rfl ?_
 refine c_skip ?_
 refine f_then ?_
 refine c_seq ?_
 refine c_block ?_
 refine c_seq ?_
 refine c_region ?_
 refine l_val (v := .int .i64 (1)) rfl rfl rfl (e_move) ?_
 refine l_val (v := .int .i64 (1)) rfl rfl rfl (e_assign) ?_
 refine l_nil ?_
 refine f_then ?_
 refine c_any [⟨[], [], [0], [11], fun f => f 11 = .int .i64 (1)⟩, ⟨[0], [0], [1], [12], fun f => f 12 = .pointer (some ⟨b1, 1, none⟩)⟩, ⟨[0, 1], [1], [], [13], fun f => f 13 = Ix (a.a1)⟩, ⟨[], [], [2], [14], fun f => f 14 = Ix (s)⟩, ⟨[], [], [0], [15], fun f => f 15 = .int .i64 (1)⟩, ⟨[4], [4], [3], [16], fun f => f 16 = .pointer (some ⟨b2, 1, none⟩)⟩, ⟨[4, 5], [5], [], [17], fun f => f 17 = Ix (b.a1)⟩, ⟨[3, 4, 5, 6], [3, 6], [], [18], fun f => f 18 = Ix ((s) * (b.a1))⟩, ⟨[0, 1, 2, 3, 4, 5, 6, 7], [2, 7], [], [19], fun f => f 19 = Ix ((a.a1) + ((s) * (b.a1)))⟩, ⟨[0, 1, 2, 3, 4, 5, 6, 7, 8], [0], [1], [20], fun f => f 20 = .pointer (some ⟨b1, 1, none⟩)⟩, ⟨[0, 1, 2, 3, 4, 5, 6, 7, 8, 9], [9, 8], [], [], fun _ => True⟩] [⟨none, none, [], [], fun _ => pt b3 (.cells #[.int .i64 (0), .int .i64 (0), .int .i64 (0), .int .i64 (0)] 44)⟩, ⟨none, none, [6], [], fun _ => pt b2 (.cells (amC b) 44)⟩, ⟨none, (some 10), [2, 10], [], fun _ => pt b1 (.cells #[Ix ((a.a0) + ((s) * (b.a0))), Ix (a.a1), Ix (a.a2), Ix (a.a3)] 44)⟩, ⟨(some 10), none, [], [], fun _ => pt b1 (.cells #[Ix ((a.a0) + ((s) * (b.a0))), Ix ((a.a1) + ((s) * (b.a1))), Ix (a.a2), Ix (a.a3)] 44)⟩] [(7, .int .i64 (1)), (3, .pointer (some ⟨b1, 0, none⟩)), (2, Ix (s)), (4, .pointer (some ⟨b2, 0, none⟩)), (6, .pointer (some ⟨b3, 0, none⟩)), (8, .int .i64 (1))] [2, 1, 3, 4, 5] [] (by kernel_rfl) (by kernel_rfl) (by kernel_rfl) (by kernel_rfl) rfl ⟨rfl, rfl, rfl, rfl, rfl, rfl, trivial⟩ ⟨?_, ?_, ?_, ?_, ?_, ?_, ?_, ?_, ?_, ?_, ?_, trivial⟩ ?_
 ·rintro f M - ⟨i0, -⟩
  have hs7 : f 7 = .int .i64 (1) := i0
  refine ob_start (L' := M) (by rfl) (up_cons rfl hs7) ?_
  refine l_val (v := .int .i64 (1)) rfl rfl rfl (e_move) ?_
  refine l_nil ?_
  exact f_owes_d (up_cons rfl hs7) rfl (List.Perm.refl _)
 ·rintro f M ⟨k0, -⟩ ⟨i0, -⟩
  have hs3 : f 3 = .pointer (some ⟨b1, 0, none⟩) := i0
  have hs11 : f 11 = .int .i64 (1) := k0
  refine ob_start (L' := M) (by rfl) (up_cons (up_cons rfl hs3) hs11) ?_
  refine l_val (v := .pointer (some ⟨b1, 1, none⟩)) rfl rfl rfl (e_indexArrK (b := b1) (o := 0) (k := 1) rfl rfl tt1 (by decide)) ?_
  refine l_nil ?_
  exact f_owes_d (up_cons (up_cons rfl hs3) hs11) rfl (List.Perm.refl _)
 ·rintro f M ⟨k0, -⟩ -
  have hs12 : f 12 = .pointer (some ⟨b1, 1, none⟩) := k0
  refine ob_start (L' := pt b1 (.cells #[Ix ((a.a0) + ((s) * (b.a0))), Ix (a.a1), Ix (a.a2), Ix (a.a3)] 44) :: M) (by rfl) (up_cons rfl hs12) ?_
  refine l_val (v := Ix (a.a1)) rfl rfl rfl (e_load1 tt2 (v := Ix (a.a1)) rfl (k_pt 0 (cs := #[Ix ((a.a0) + ((s) * (b.a0))), Ix (a.a1), Ix (a.a2), Ix (a.a3)]) (vs := [Ix (a.a1)]) rfl rfl)) ?_
  refine l_nil ?_
  exact f_owes_d (up_cons rfl hs12) rfl (perm_front 0 rfl)
 ·rintro f M - ⟨i0, -⟩
  have hs2 : f 2 = Ix (s) := i0
  refine ob_start (L' := M) (by rfl) (up_cons rfl hs2) ?_
  refine l_val (v := Ix (s)) rfl rfl rfl (e_move) ?_
  refine l_nil ?_
  exact f_owes_d (up_cons rfl hs2) rfl (List.Perm.refl _)
 ·rintro f M - ⟨i0, -⟩
  have hs7 : f 7 = .int .i64 (1) := i0
  refine ob_start (L' := M) (by rfl) (up_cons rfl hs7) ?_
  refine l_val (v := .int .i64 (1)) rfl rfl rfl (e_move) ?_
  refine l_nil ?_
  exact f_owes_d (up_cons rfl hs7) rfl (List.Perm.refl _)
 ·rintro f M ⟨k0, -⟩ ⟨i0, -⟩
  have hs4 : f 4 = .pointer (some ⟨b2, 0, none⟩) := i0
  have hs15 : f 15 = .int .i64 (1) := k0
  refine ob_start (L' := M) (by rfl) (up_cons (up_cons rfl hs4) hs15) ?_
  refine l_val (v := .pointer (some ⟨b2, 1, none⟩)) rfl rfl rfl (e_indexArrK (b := b2) (o := 0) (k := 1) rfl rfl tt1 (by decide)) ?_
  refine l_nil ?_
  exact f_owes_d (up_cons (up_cons rfl hs4) hs15) rfl (List.Perm.refl _)
 ·rintro f M ⟨k0, -⟩ -
  have hs16 : f 16 = .pointer (some ⟨b2, 1, none⟩) := k0
  refine ob_start (L' := pt b2 (.cells (amC b) 44) :: M) (by rfl) (up_cons rfl hs16) ?_
  refine l_val (v := Ix (b.a1)) rfl rfl rfl (e_load1 tt2 (v := Ix (b.a1)) rfl (k_pt 0 (cs := (amC b)) (vs := [Ix (b.a1)]) rfl rfl)) ?_
  refine l_nil ?_
  exact f_owes_d (up_cons rfl hs16) rfl (perm_front 0 rfl)
 ·rintro f M ⟨k0, k1, -⟩ -
  have hs14 : f 14 = Ix (s) := k0
  have hs17 : f 17 = Ix (b.a1) := k1
  refine ob_start (L' := M) (by rfl) (up_cons (up_cons rfl hs14) hs17) ?_
  refine l_val (v := Ix ((s) * (b.a1))) rfl rfl rfl (e_mul (a := (s)) (b := (b.a1)) rfl rfl (i64w (by omega))) ?_
  refine l_nil ?_
  exact f_owes_d (up_cons (up_cons rfl hs14) hs17) rfl (List.Perm.refl _)
 ·rintro f M ⟨k0, k1, -⟩ -
  have hs13 : f 13 = Ix (a.a1) := k0
  have hs18 : f 18 = Ix ((s) * (b.a1)) := k1
  refine ob_start (L' := M) (by rfl) (up_cons (up_cons rfl hs13) hs18) ?_
  refine l_val (v := Ix ((a.a1) + ((s) * (b.a1)))) rfl rfl rfl (e_add (a := (a.a1)) (b := ((s) * (b.a1))) rfl rfl (i64w (by omega))) ?_
  refine l_nil ?_
  exact f_owes_d (up_cons (up_cons rfl hs13) hs18) rfl (List.Perm.refl _)
 ·rintro f M ⟨k0, -⟩ ⟨i0, -⟩
  have hs3 : f 3 = .pointer (some ⟨b1, 0, none⟩) := i0
  have hs11 : f 11 = .int .i64 (1) := k0
  refine ob_start (L' := M) (by rfl) (up_cons (up_cons rfl hs3) hs11) ?_
  refine l_val (v := .pointer (some ⟨b1, 1, none⟩)) rfl rfl rfl (e_indexArrK (b := b1) (o := 0) (k := 1) rfl rfl tt1 (by decide)) ?_
  refine l_nil ?_
  exact f_owes_d (up_cons (up_cons rfl hs3) hs11) rfl (List.Perm.refl _)
 ·rintro f M ⟨k0, k1, -⟩ -
  have hs20 : f 20 = .pointer (some ⟨b1, 1, none⟩) := k0
  have hs19 : f 19 = Ix ((a.a1) + ((s) * (b.a1))) := k1
  refine ob_start (L' := pt b1 (.cells #[Ix ((a.a0) + ((s) * (b.a0))), Ix (a.a1), Ix (a.a2), Ix (a.a3)] 44) :: M) (by rfl) (up_cons (up_cons rfl hs20) hs19) ?_
  refine l_mu rfl rfl (m_store 0 tt2 (b := b1) (o := 1) (T := 44) (cs := #[Ix ((a.a0) + ((s) * (b.a0))), Ix (a.a1), Ix (a.a2), Ix (a.a3)]) (cs' := #[Ix ((a.a0) + ((s) * (b.a0))), Ix ((a.a1) + ((s) * (b.a1))), Ix (a.a2), Ix (a.a3)]) (v := Ix ((a.a1) + ((s) * (b.a1)))) rfl rfl rfl rfl rfl rfl rfl) ?_
  refine l_nil ?_
  exact f_owes_n (up_cons (up_cons rfl hs20) hs19) trivial (perm_front 0 rfl)
 rintro fa5 ⟨-, -, -, -, -, -, -, -, -, -, -, -⟩ ⟨j0, j1, j2, j3, j4, -⟩
 refine f_re (L' := [pt b3 (.cells #[.int .i64 (0), .int .i64 (0), .int .i64 (0), .int .i64 (0)] 44), pt b2 (.cells (amC b) 44), pt b1 (.cells #[Ix ((a.a0) + ((s) * (b.a0))), Ix ((a.a1) + ((s) * (b.a1))), Ix (a.a2), Ix (a.a3)] 44)]) (by rfl) ?_
 refine f_rebase (d := 2) (v := Ix (s)) j0 ?_
 refine f_rebase (d := 3) (v := .pointer (some ⟨b1, 0, none⟩)) j1 ?_
 refine f_rebase (d := 4) (v := .pointer (some ⟨b2, 0, none⟩)) j2 ?_
 refine f_rebase (d := 6) (v := .pointer (some ⟨b3, 0, none⟩)) j3 ?_
 refine f_rebase (d := 8) (v := .int .i64 (1)) j4 ?_
 refine f_block ?_
 refine f_then ?_
 refine c_region ?_
 refine l_val (v := .int .i64 (2)) rfl rfl rfl (e_add (a := (1 : Int)) (b := (1 : Int)) rfl rfl (by decide)) ?_
 refine l_val (v := .int .i64 (2)) rfl rfl rfl (e_move) ?_
 refine l_nil ?_
 refine f_cut ?_
 refine un_succ 2 ?_
 refine c_seq ?_
 refine c_region ?_
 refine l_val (v := .bool true) rfl rfl rfl (e_lss (a := (2 : Int)) (b := (4 : Int)) rfl rfl) ?_
 refine l_nil ?_
 refine f_then ?_
 refine c_seq ?_
 refine c_yes rfl ?_
 refine c_skip ?_
 refine f_then ?_
 refine c_seq ?_
 refine c_block ?_
 refine c_seq ?_
 refine c_region ?_
 refine l_val (v := .int .i64 (2)) rfl rfl rfl (e_move) ?_
 refine l_val (v := .int .i64 (2)) rfl rfl rfl (e_assign) ?_
 refine l_nil ?_
 refine f_then ?_
 refine c_any [⟨[], [], [0], [11], fun f => f 11 = .int .i64 (2)⟩, ⟨[0], [0], [1], [12], fun f => f 12 = .pointer (some ⟨b1, 2, none⟩)⟩, ⟨[0, 1], [1], [], [13], fun f => f 13 = Ix (a.a2)⟩, ⟨[], [], [2], [14], fun f => f 14 = Ix (s)⟩, ⟨[], [], [0], [15], fun f => f 15 = .int .i64 (2)⟩, ⟨[4], [4], [3], [16], fun f => f 16 = .pointer (some ⟨b2, 2, none⟩)⟩, ⟨[4, 5], [5], [], [17], fun f => f 17 = Ix (b.a2)⟩, ⟨[3, 4, 5, 6], [3, 6], [], [18], fun f => f 18 = Ix ((s) * (b.a2))⟩, ⟨[0, 1, 2, 3, 4, 5, 6, 7], [2, 7], [], [19], fun f => f 19 = Ix ((a.a2) + ((s) * (b.a2)))⟩, ⟨[0, 1, 2, 3, 4, 5, 6, 7, 8], [0], [1], [20], fun f => f 20 = .pointer (some ⟨b1, 2, none⟩)⟩, ⟨[0, 1, 2, 3, 4, 5, 6, 7, 8, 9], [9, 8], [], [], fun _ => True⟩] [⟨none, none, [], [], fun _ => pt b3 (.cells #[.int .i64 (0), .int .i64 (0), .int .i64 (0), .int .i64 (0)] 44)⟩, ⟨none, none, [6], [], fun _ => pt b2 (.cells (amC b) 44)⟩, ⟨none, (some 10), [2, 10], [], fun _ => pt b1 (.cells #[Ix ((a.a0) + ((s) * (b.a0))), Ix ((a.a1) + ((s) * (b.a1))), Ix (a.a2), Ix (a.a3)] 44)⟩, ⟨(some 10), none, [], [], fun _ => pt b1 (.cells #[Ix ((a.a0) + ((s) * (b.a0))), Ix ((a.a1) + ((s) * (b.a1))), Ix ((a.a2) + ((s) * (b.a2))), Ix (a.a3)] 44)⟩] [(7, .int .i64 (2)), (3, .pointer (some ⟨b1, 0, none⟩)), (2, Ix (s)), (4, .pointer (some ⟨b2, 0, none⟩)), (6, .pointer (some ⟨b3, 0, none⟩)), (8, .int .i64 (2))] [2, 1, 3, 4, 5] [] (by kernel_rfl) (by kernel_rfl) (by kernel_rfl) (by kernel_rfl) rfl ⟨rfl, rfl, rfl, rfl, rfl, rfl, trivial⟩ ⟨?_, ?_, ?_, ?_, ?_, ?_, ?_, ?_, ?_, ?_, ?_, trivial⟩ ?_
 ·rintro f M - ⟨i0, -⟩
  have hs7 : f 7 = .int .i64 (2) := i0
  refine ob_start (L' := M) (by rfl) (up_cons rfl hs7) ?_
  refine l_val (v := .int .i64 (2)) rfl rfl rfl (e_move) ?_
  refine l_nil ?_
  exact f_owes_d (up_cons rfl hs7) rfl (List.Perm.refl _)
 ·rintro f M ⟨k0, -⟩ ⟨i0, -⟩
  have hs3 : f 3 = .pointer (some ⟨b1, 0, none⟩) := i0
  have hs11 : f 11 = .int .i64 (2) := k0
  refine ob_start (L' := M) (by rfl) (up_cons (up_cons rfl hs3) hs11) ?_
  refine l_val (v := .pointer (some ⟨b1, 2, none⟩)) rfl rfl rfl (e_indexArrK (b := b1) (o := 0) (k := 2) rfl rfl tt1 (by decide)) ?_
  refine l_nil ?_
  exact f_owes_d (up_cons (up_cons rfl hs3) hs11) rfl (List.Perm.refl _)
 ·rintro f M ⟨k0, -⟩ -
  have hs12 : f 12 = .pointer (some ⟨b1, 2, none⟩) := k0
  refine ob_start (L' := pt b1 (.cells #[Ix ((a.a0) + ((s) * (b.a0))), Ix ((a.a1) + ((s) * (b.a1))), Ix (a.a2), Ix (a.a3)] 44) :: M) (by rfl) (up_cons rfl hs12) ?_
  refine l_val (v := Ix (a.a2)) rfl rfl rfl (e_load1 tt2 (v := Ix (a.a2)) rfl (k_pt 0 (cs := #[Ix ((a.a0) + ((s) * (b.a0))), Ix ((a.a1) + ((s) * (b.a1))), Ix (a.a2), Ix (a.a3)]) (vs := [Ix (a.a2)]) rfl rfl)) ?_
  refine l_nil ?_
  exact f_owes_d (up_cons rfl hs12) rfl (perm_front 0 rfl)
 ·rintro f M - ⟨i0, -⟩
  have hs2 : f 2 = Ix (s) := i0
  refine ob_start (L' := M) (by rfl) (up_cons rfl hs2) ?_
  refine l_val (v := Ix (s)) rfl rfl rfl (e_move) ?_
  refine l_nil ?_
  exact f_owes_d (up_cons rfl hs2) rfl (List.Perm.refl _)
 ·rintro f M - ⟨i0, -⟩
  have hs7 : f 7 = .int .i64 (2) := i0
  refine ob_start (L' := M) (by rfl) (up_cons rfl hs7) ?_
  refine l_val (v := .int .i64 (2)) rfl rfl rfl (e_move) ?_
  refine l_nil ?_
  exact f_owes_d (up_cons rfl hs7) rfl (List.Perm.refl _)
 ·rintro f M ⟨k0, -⟩ ⟨i0, -⟩
  have hs4 : f 4 = .pointer (some ⟨b2, 0, none⟩) := i0
  have hs15 : f 15 = .int .i64 (2) := k0
  refine ob_start (L' := M) (by rfl) (up_cons (up_cons rfl hs4) hs15) ?_
  refine l_val (v := .pointer (some ⟨b2, 2, none⟩)) rfl rfl rfl (e_indexArrK (b := b2) (o := 0) (k := 2) rfl rfl tt1 (by decide)) ?_
  refine l_nil ?_
  exact f_owes_d (up_cons (up_cons rfl hs4) hs15) rfl (List.Perm.refl _)
 ·rintro f M ⟨k0, -⟩ -
  have hs16 : f 16 = .pointer (some ⟨b2, 2, none⟩) := k0
  refine ob_start (L' := pt b2 (.cells (amC b) 44) :: M) (by rfl) (up_cons rfl hs16) ?_
  refine l_val (v := Ix (b.a2)) rfl rfl rfl (e_load1 tt2 (v := Ix (b.a2)) rfl (k_pt 0 (cs := (amC b)) (vs := [Ix (b.a2)]) rfl rfl)) ?_
  refine l_nil ?_
  exact f_owes_d (up_cons rfl hs16) rfl (perm_front 0 rfl)
 ·rintro f M ⟨k0, k1, -⟩ -
  have hs14 : f 14 = Ix (s) := k0
  have hs17 : f 17 = Ix (b.a2) := k1
  refine ob_start (L' := M) (by rfl) (up_cons (up_cons rfl hs14) hs17) ?_
  refine l_val (v := Ix ((s) * (b.a2))) rfl rfl rfl (e_mul (a := (s)) (b := (b.a2)) rfl rfl (i64w (by omega))) ?_
  refine l_nil ?_
  exact f_owes_d (up_cons (up_cons rfl hs14) hs17) rfl (List.Perm.refl _)
 ·rintro f M ⟨k0, k1, -⟩ -
  have hs13 : f 13 = Ix (a.a2) := k0
  have hs18 : f 18 = Ix ((s) * (b.a2)) := k1
  refine ob_start (L' := M) (by rfl) (up_cons (up_cons rfl hs13) hs18) ?_
  refine l_val (v := Ix ((a.a2) + ((s) * (b.a2)))) rfl rfl rfl (e_add (a := (a.a2)) (b := ((s) * (b.a2))) rfl rfl (i64w (by omega))) ?_
  refine l_nil ?_
  exact f_owes_d (up_cons (up_cons rfl hs13) hs18) rfl (List.Perm.refl _)
 ·rintro f M ⟨k0, -⟩ ⟨i0, -⟩
  have hs3 : f 3 = .pointer (some ⟨b1, 0, none⟩) := i0
  have hs11 : f 11 = .int .i64 (2) := k0
  refine ob_start (L' := M) (by rfl) (up_cons (up_cons rfl hs3) hs11) ?_
  refine l_val (v := .pointer (some ⟨b1, 2, none⟩)) rfl rfl rfl (e_indexArrK (b := b1) (o := 0) (k := 2) rfl rfl tt1 (by decide)) ?_
  refine l_nil ?_
  exact f_owes_d (up_cons (up_cons rfl hs3) hs11) rfl (List.Perm.refl _)
 ·rintro f M ⟨k0, k1, -⟩ -
  have hs20 : f 20 = .pointer (some ⟨b1, 2, none⟩) := k0
  have hs19 : f 19 = Ix ((a.a2) + ((s) * (b.a2))) := k1
  refine ob_start (L' := pt b1 (.cells #[Ix ((a.a0) + ((s) * (b.a0))), Ix ((a.a1) + ((s) * (b.a1))), Ix (a.a2), Ix (a.a3)] 44) :: M) (by rfl) (up_cons (up_cons rfl hs20) hs19) ?_
  refine l_mu rfl rfl (m_store 0 tt2 (b := b1) (o := 2) (T := 44) (cs := #[Ix ((a.a0) + ((s) * (b.a0))), Ix ((a.a1) + ((s) * (b.a1))), Ix (a.a2), Ix (a.a3)]) (cs' := #[Ix ((a.a0) + ((s) * (b.a0))), Ix ((a.a1) + ((s) * (b.a1))), Ix ((a.a2) + ((s) * (b.a2))), Ix (a.a3)]) (v := Ix ((a.a2) + ((s) * (b.a2)))) rfl rfl rfl rfl rfl rfl rfl) ?_
  refine l_nil ?_
  exact f_owes_n (up_cons (up_cons rfl hs20) hs19) trivial (perm_front 0 rfl)
 rintro fa6 ⟨-, -, -, -, -, -, -, -, -, -, -, -⟩ ⟨j0, j1, j2, j3, j4, -⟩
 refine f_re (L' := [pt b3 (.cells #[.int .i64 (0), .int .i64 (0), .int .i64 (0), .int .i64 (0)] 44), pt b2 (.cells (amC b) 44), pt b1 (.cells #[Ix ((a.a0) + ((s) * (b.a0))), Ix ((a.a1) + ((s) * (b.a1))), Ix ((a.a2) + ((s) * (b.a2))), Ix (a.a3)] 44)]) (by rfl) ?_
 refine f_rebase (d := 2) (v := Ix (s)) j0 ?_
 refine f_rebase (d := 3) (v := .pointer (some ⟨b1, 0, none⟩)) j1 ?_
 refine f_rebase (d := 4) (v := .pointer (some ⟨b2, 0, none⟩)) j2 ?_
 refine f_rebase (d := 6) (v := .pointer (some ⟨b3, 0, none⟩)) j3 ?_
 refine f_rebase (d := 8) (v := .int .i64 (2)) j4 ?_
 refine f_block ?_
 refine f_then ?_
 refine c_region ?_
 refine l_val (v := .int .i64 (3)) rfl rfl rfl (e_add (a := (2 : Int)) (b := (1 : Int)) rfl rfl (by decide)) ?_
 refine l_val (v := .int .i64 (3)) rfl rfl rfl (e_move) ?_
 refine l_nil ?_
 refine f_cut ?_
 refine un_succ 1 ?_
 refine c_seq ?_
 refine c_region ?_
 refine l_val (v := .bool true) rfl rfl rfl (e_lss (a := (3 : Int)) (b := (4 : Int)) rfl rfl) ?_
 refine l_nil ?_
 refine f_then ?_
 refine c_seq ?_
 refine c_yes rfl ?_
 refine c_skip ?_
 refine f_then ?_
 refine c_seq ?_
 refine c_block ?_
 refine c_seq ?_
 refine c_region ?_
 refine l_val (v := .int .i64 (3)) rfl rfl rfl (e_move) ?_
 refine l_val (v := .int .i64 (3)) rfl rfl rfl (e_assign) ?_
 refine l_nil ?_
 refine f_then ?_
 refine c_any [⟨[], [], [0], [11], fun f => f 11 = .int .i64 (3)⟩, ⟨[0], [0], [1], [12], fun f => f 12 = .pointer (some ⟨b1, 3, none⟩)⟩, ⟨[0, 1], [1], [], [13], fun f => f 13 = Ix (a.a3)⟩, ⟨[], [], [2], [14], fun f => f 14 = Ix (s)⟩, ⟨[], [], [0], [15], fun f => f 15 = .int .i64 (3)⟩, ⟨[4], [4], [3], [16], fun f => f 16 = .pointer (some ⟨b2, 3, none⟩)⟩, ⟨[4, 5], [5], [], [17], fun f => f 17 = Ix (b.a3)⟩, ⟨[3, 4, 5, 6], [3, 6], [], [18], fun f => f 18 = Ix ((s) * (b.a3))⟩, ⟨[0, 1, 2, 3, 4, 5, 6, 7], [2, 7], [], [19], fun f => f 19 = Ix ((a.a3) + ((s) * (b.a3)))⟩, ⟨[0, 1, 2, 3, 4, 5, 6, 7, 8], [0], [1], [20], fun f => f 20 = .pointer (some ⟨b1, 3, none⟩)⟩, ⟨[0, 1, 2, 3, 4, 5, 6, 7, 8, 9], [9, 8], [], [], fun _ => True⟩] [⟨none, none, [], [], fun _ => pt b3 (.cells #[.int .i64 (0), .int .i64 (0), .int .i64 (0), .int .i64 (0)] 44)⟩, ⟨none, none, [6], [], fun _ => pt b2 (.cells (amC b) 44)⟩, ⟨none, (some 10), [2, 10], [], fun _ => pt b1 (.cells #[Ix ((a.a0) + ((s) * (b.a0))), Ix ((a.a1) + ((s) * (b.a1))), Ix ((a.a2) + ((s) * (b.a2))), Ix (a.a3)] 44)⟩, ⟨(some 10), none, [], [], fun _ => pt b1 (.cells #[Ix ((a.a0) + ((s) * (b.a0))), Ix ((a.a1) + ((s) * (b.a1))), Ix ((a.a2) + ((s) * (b.a2))), Ix ((a.a3) + ((s) * (b.a3)))] 44)⟩] [(7, .int .i64 (3)), (3, .pointer (some ⟨b1, 0, none⟩)), (2, Ix (s)), (4, .pointer (some ⟨b2, 0, none⟩)), (6, .pointer (some ⟨b3, 0, none⟩)), (8, .int .i64 (3))] [2, 1, 3, 4, 5] [] (by kernel_rfl) (by kernel_rfl) (by kernel_rfl) (by kernel_rfl) rfl ⟨rfl, rfl, rfl, rfl, rfl, rfl, trivial⟩ ⟨?_, ?_, ?_, ?_, ?_, ?_, ?_, ?_, ?_, ?_, ?_, trivial⟩ ?_
 ·rintro f M - ⟨i0, -⟩
  have hs7 : f 7 = .int .i64 (3) := i0
  refine ob_start (L' := M) (by rfl) (up_cons rfl hs7) ?_
  refine l_val (v := .int .i64 (3)) rfl rfl rfl (e_move) ?_
  refine l_nil ?_
  exact f_owes_d (up_cons rfl hs7) rfl (List.Perm.refl _)
 ·rintro f M ⟨k0, -⟩ ⟨i0, -⟩
  have hs3 : f 3 = .pointer (some ⟨b1, 0, none⟩) := i0
  have hs11 : f 11 = .int .i64 (3) := k0
  refine ob_start (L' := M) (by rfl) (up_cons (up_cons rfl hs3) hs11) ?_
  refine l_val (v := .pointer (some ⟨b1, 3, none⟩)) rfl rfl rfl (e_indexArrK (b := b1) (o := 0) (k := 3) rfl rfl tt1 (by decide)) ?_
  refine l_nil ?_
  exact f_owes_d (up_cons (up_cons rfl hs3) hs11) rfl (List.Perm.refl _)
 ·rintro f M ⟨k0, -⟩ -
  have hs12 : f 12 = .pointer (some ⟨b1, 3, none⟩) := k0
  refine ob_start (L' := pt b1 (.cells #[Ix ((a.a0) + ((s) * (b.a0))), Ix ((a.a1) + ((s) * (b.a1))), Ix ((a.a2) + ((s) * (b.a2))), Ix (a.a3)] 44) :: M) (by rfl) (up_cons rfl hs12) ?_
  refine l_val (v := Ix (a.a3)) rfl rfl rfl (e_load1 tt2 (v := Ix (a.a3)) rfl (k_pt 0 (cs := #[Ix ((a.a0) + ((s) * (b.a0))), Ix ((a.a1) + ((s) * (b.a1))), Ix ((a.a2) + ((s) * (b.a2))), Ix (a.a3)]) (vs := [Ix (a.a3)]) rfl rfl)) ?_
  refine l_nil ?_
  exact f_owes_d (up_cons rfl hs12) rfl (perm_front 0 rfl)
 ·rintro f M - ⟨i0, -⟩
  have hs2 : f 2 = Ix (s) := i0
  refine ob_start (L' := M) (by rfl) (up_cons rfl hs2) ?_
  refine l_val (v := Ix (s)) rfl rfl rfl (e_move) ?_
  refine l_nil ?_
  exact f_owes_d (up_cons rfl hs2) rfl (List.Perm.refl _)
 ·rintro f M - ⟨i0, -⟩
  have hs7 : f 7 = .int .i64 (3) := i0
  refine ob_start (L' := M) (by rfl) (up_cons rfl hs7) ?_
  refine l_val (v := .int .i64 (3)) rfl rfl rfl (e_move) ?_
  refine l_nil ?_
  exact f_owes_d (up_cons rfl hs7) rfl (List.Perm.refl _)
 ·rintro f M ⟨k0, -⟩ ⟨i0, -⟩
  have hs4 : f 4 = .pointer (some ⟨b2, 0, none⟩) := i0
  have hs15 : f 15 = .int .i64 (3) := k0
  refine ob_start (L' := M) (by rfl) (up_cons (up_cons rfl hs4) hs15) ?_
  refine l_val (v := .pointer (some ⟨b2, 3, none⟩)) rfl rfl rfl (e_indexArrK (b := b2) (o := 0) (k := 3) rfl rfl tt1 (by decide)) ?_
  refine l_nil ?_
  exact f_owes_d (up_cons (up_cons rfl hs4) hs15) rfl (List.Perm.refl _)
 ·rintro f M ⟨k0, -⟩ -
  have hs16 : f 16 = .pointer (some ⟨b2, 3, none⟩) := k0
  refine ob_start (L' := pt b2 (.cells (amC b) 44) :: M) (by rfl) (up_cons rfl hs16) ?_
  refine l_val (v := Ix (b.a3)) rfl rfl rfl (e_load1 tt2 (v := Ix (b.a3)) rfl (k_pt 0 (cs := (amC b)) (vs := [Ix (b.a3)]) rfl rfl)) ?_
  refine l_nil ?_
  exact f_owes_d (up_cons rfl hs16) rfl (perm_front 0 rfl)
 ·rintro f M ⟨k0, k1, -⟩ -
  have hs14 : f 14 = Ix (s) := k0
  have hs17 : f 17 = Ix (b.a3) := k1
  refine ob_start (L' := M) (by rfl) (up_cons (up_cons rfl hs14) hs17) ?_
  refine l_val (v := Ix ((s) * (b.a3))) rfl rfl rfl (e_mul (a := (s)) (b := (b.a3)) rfl rfl (i64w (by omega))) ?_
  refine l_nil ?_
  exact f_owes_d (up_cons (up_cons rfl hs14) hs17) rfl (List.Perm.refl _)
 ·rintro f M ⟨k0, k1, -⟩ -
  have hs13 : f 13 = Ix (a.a3) := k0
  have hs18 : f 18 = Ix ((s) * (b.a3)) := k1
  refine ob_start (L' := M) (by rfl) (up_cons (up_cons rfl hs13) hs18) ?_
  refine l_val (v := Ix ((a.a3) + ((s) * (b.a3)))) rfl rfl rfl (e_add (a := (a.a3)) (b := ((s) * (b.a3))) rfl rfl (i64w (by omega))) ?_
  refine l_nil ?_
  exact f_owes_d (up_cons (up_cons rfl hs13) hs18) rfl (List.Perm.refl _)
 ·rintro f M ⟨k0, -⟩ ⟨i0, -⟩
  have hs3 : f 3 = .pointer (some ⟨b1, 0, none⟩) := i0
  have hs11 : f 11 = .int .i64 (3) := k0
  refine ob_start (L' := M) (by rfl) (up_cons (up_cons rfl hs3) hs11) ?_
  refine l_val (v := .pointer (some ⟨b1, 3, none⟩)) rfl rfl rfl (e_indexArrK (b := b1) (o := 0) (k := 3) rfl rfl tt1 (by decide)) ?_
  refine l_nil ?_
  exact f_owes_d (up_cons (up_cons rfl hs3) hs11) rfl (List.Perm.refl _)
 ·rintro f M ⟨k0, k1, -⟩ -
  have hs20 : f 20 = .pointer (some ⟨b1, 3, none⟩) := k0
  have hs19 : f 19 = Ix ((a.a3) + ((s) * (b.a3))) := k1
  refine ob_start (L' := pt b1 (.cells #[Ix ((a.a0) + ((s) * (b.a0))), Ix ((a.a1) + ((s) * (b.a1))), Ix ((a.a2) + ((s) * (b.a2))), Ix (a.a3)] 44) :: M) (by rfl) (up_cons (up_cons rfl hs20) hs19) ?_
  refine l_mu rfl rfl (m_store 0 tt2 (b := b1) (o := 3) (T := 44) (cs := #[Ix ((a.a0) + ((s) * (b.a0))), Ix ((a.a1) + ((s) * (b.a1))), Ix ((a.a2) + ((s) * (b.a2))), Ix (a.a3)]) (cs' := #[Ix ((a.a0) + ((s) * (b.a0))), Ix ((a.a1) + ((s) * (b.a1))), Ix ((a.a2) + ((s) * (b.a2))), Ix ((a.a3) + ((s) * (b.a3)))]) (v := Ix ((a.a3) + ((s) * (b.a3)))) rfl rfl rfl rfl rfl rfl rfl) ?_
  refine l_nil ?_
  exact f_owes_n (up_cons (up_cons rfl hs20) hs19) trivial (perm_front 0 rfl)
 rintro fa7 ⟨-, -, -, -, -, -, -, -, -, -, -, -⟩ ⟨j0, j1, j2, j3, j4, -⟩
 refine f_re (L' := [pt b3 (.cells #[.int .i64 (0), .int .i64 (0), .int .i64 (0), .int .i64 (0)] 44), pt b2 (.cells (amC b) 44), pt b1 (.cells #[Ix ((a.a0) + ((s) * (b.a0))), Ix ((a.a1) + ((s) * (b.a1))), Ix ((a.a2) + ((s) * (b.a2))), Ix ((a.a3) + ((s) * (b.a3)))] 44)]) (by rfl) ?_
 refine f_rebase (d := 2) (v := Ix (s)) j0 ?_
 refine f_rebase (d := 3) (v := .pointer (some ⟨b1, 0, none⟩)) j1 ?_
 refine f_rebase (d := 4) (v := .pointer (some ⟨b2, 0, none⟩)) j2 ?_
 refine f_rebase (d := 6) (v := .pointer (some ⟨b3, 0, none⟩)) j3 ?_
 refine f_rebase (d := 8) (v := .int .i64 (3)) j4 ?_
 refine f_block ?_
 refine f_then ?_
 refine c_region ?_
 refine l_val (v := .int .i64 (4)) rfl rfl rfl (e_add (a := (3 : Int)) (b := (1 : Int)) rfl rfl (by decide)) ?_
 refine l_val (v := .int .i64 (4)) rfl rfl rfl (e_move) ?_
 refine l_nil ?_
 refine f_cut ?_
 refine un_succ 0 ?_
 refine c_seq ?_
 refine c_region ?_
 refine l_val (v := .bool false) rfl rfl rfl (e_lss (a := (4 : Int)) (b := (4 : Int)) rfl rfl) ?_
 refine l_nil ?_
 refine f_then ?_
 refine c_seq ?_
 refine c_no rfl ?_
 refine c_exit ?_
 refine f_then_exit ?_
 refine f_then_exit ?_
 refine f_exit ?_
 refine f_then ?_
 refine c_seq ?_
 refine c_region ?_
 refine l_val (v := .agg #[Ix ((a.a0) + ((s) * (b.a0))), Ix ((a.a1) + ((s) * (b.a1))), Ix ((a.a2) + ((s) * (b.a2))), Ix ((a.a3) + ((s) * (b.a3)))]) rfl rfl rfl (e_load tt0 (cs := [Ix ((a.a0) + ((s) * (b.a0))), Ix ((a.a1) + ((s) * (b.a1))), Ix ((a.a2) + ((s) * (b.a2))), Ix ((a.a3) + ((s) * (b.a3)))]) rfl (k_pt 2 (cs := #[Ix ((a.a0) + ((s) * (b.a0))), Ix ((a.a1) + ((s) * (b.a1))), Ix ((a.a2) + ((s) * (b.a2))), Ix ((a.a3) + ((s) * (b.a3)))]) (vs := [Ix ((a.a0) + ((s) * (b.a0))), Ix ((a.a1) + ((s) * (b.a1))), Ix ((a.a2) + ((s) * (b.a2))), Ix ((a.a3) + ((s) * (b.a3)))]) rfl rfl) rfl) ?_
 refine l_mu rfl rfl (m_store 0 tt0 (b := b3) (o := 0) (T := 44) (cs := #[.int .i64 (0), .int .i64 (0), .int .i64 (0), .int .i64 (0)]) (cs' := #[Ix ((a.a0) + ((s) * (b.a0))), Ix ((a.a1) + ((s) * (b.a1))), Ix ((a.a2) + ((s) * (b.a2))), Ix ((a.a3) + ((s) * (b.a3)))]) (v := .agg #[Ix ((a.a0) + ((s) * (b.a0))), Ix ((a.a1) + ((s) * (b.a1))), Ix ((a.a2) + ((s) * (b.a2))), Ix ((a.a3) + ((s) * (b.a3)))]) rfl rfl rfl rfl rfl rfl rfl) ?_
 refine l_nil ?_
 refine f_then ?_
 refine c_ret ?_
 refine retG (l := [.cell 6 44]) (m := [.agg #[Ix ((a.a0) + ((s) * (b.a0))), Ix ((a.a1) + ((s) * (b.a1))), Ix ((a.a2) + ((s) * (b.a2))), Ix ((a.a3) + ((s) * (b.a3)))]]) (v := .agg #[Ix ((a.a0) + ((s) * (b.a0))), Ix ((a.a1) + ((s) * (b.a1))), Ix ((a.a2) + ((s) * (b.a2))), Ix ((a.a3) + ((s) * (b.a3)))]) Tryz.results108 ⟨rd_cell tt0 (cs := [Ix ((a.a0) + ((s) * (b.a0))), Ix ((a.a1) + ((s) * (b.a1))), Ix ((a.a2) + ((s) * (b.a2))), Ix ((a.a3) + ((s) * (b.a3)))]) rfl (k_pt 0 (cs := #[Ix ((a.a0) + ((s) * (b.a0))), Ix ((a.a1) + ((s) * (b.a1))), Ix ((a.a2) + ((s) * (b.a2))), Ix ((a.a3) + ((s) * (b.a3)))]) (vs := [Ix ((a.a0) + ((s) * (b.a0))), Ix ((a.a1) + ((s) * (b.a1))), Ix ((a.a2) + ((s) * (b.a2))), Ix ((a.a3) + ((s) * (b.a3)))]) rfl rfl) rfl, trivial⟩ rfl ?_
 intro w hw
 exact ⟨rfl, st_mask [false, false, false] rfl hw⟩
end Go.Proofs
