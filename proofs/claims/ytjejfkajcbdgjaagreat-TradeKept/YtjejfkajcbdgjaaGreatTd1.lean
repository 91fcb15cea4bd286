/-
 Amounts,owners: walked. Printed by a program of my own.
-/
import Derived.Test.YtjejfkajcbdgjaaGreatSlA
import Derived.Test.YtjejfkajcbdgjaaGreatSlB
import Derived.Test.YtjejfkajcbdgjaaGreatSlN
namespace Go.Proofs
open Go Go.Sl Go.Td
theorem in_cases (n : Int) : (inA n = true ∧ (decide (n < (0 : Int)) || decide ((2147483647 : Int) < n)) = false) ∨ (inA n = false ∧ (decide (n < (0 : Int)) || decide ((2147483647 : Int) < n)) = true) := by
 unfold inA
 by_cases h1 : n < 0
 ·exact .inr (by simp [h1,Int.not_le.2 h1])
 by_cases h2 : 2147483647 < n
 ·exact .inr (by simp [h2,Int.not_le.2 h2])
 exact .inl (by simp [h1,h2]; omega)
theorem with_yes {a : KAm} (h0 : inA a.a0 = true) (h1 : inA a.a1 = true) (h2 : inA a.a2 = true) (h3 : inA a.a3 = true) : a.within = true := by unfold KAm.within; rw [h0, h1, h2, h3]; rfl
theorem with_no0 {a : KAm} (h : inA a.a0 = false) : a.within = false := by unfold KAm.within; rw [h]; rfl
theorem with_no1 {a : KAm} (h : inA a.a1 = false) : a.within = false := by unfold KAm.within; rw [h, Bool.and_false]; rfl
theorem with_no2 {a : KAm} (h : inA a.a2 = false) : a.within = false := by unfold KAm.within; rw [h, Bool.and_false]; rfl
theorem with_no3 {a : KAm} (h : inA a.a3 = false) : a.within = false := by unfold KAm.within; rw [h, Bool.and_false]
instance tt0 : TyC Tryz.prog 44 true 4 := ⟨by kernel_rfl⟩
instance tt1 : ArrC Tryz.prog 44 4 3 1 := ⟨by kernel_rfl⟩
instance tt2 : TyC Tryz.prog 3 false 1 := ⟨by kernel_rfl⟩
instance tt3 : ZerC Tryz.prog 44 (.agg #[.int .i64 (0), .int .i64 (0), .int .i64 (0), .int .i64 (0)]) := ⟨by kernel_rfl⟩
theorem owner_ok (β : Base) (w : World) (hw : St β [] w) (n : Int) : Ret Tryz.prog 101 #[Ix n] β w (.bool (ownB n)) := by
 refine enter (n := 9) Tryz.func101 rfl Tryz.ntmps101 rfl ?_ hw
 refine csr (lE oab (lnc (lE omi (lE oge (l_and2 (decide ((1 : Int) ≤ (n))) (decide ((n) ≤ (65536 : Int))) rfl (fun hb1 hk1 => ?_) (fun z2 z3 => ?_))))))
 ·have hb1p := of_decide_eq_true hb1
  refine gE omi (gE ole (lE oktb ?_))
  exact hk1 _ _
 refine lE oab (lnf (c_ret (ret1 Tryz.results101 rfl ?_)))
 intro w hw
 exact ⟨rfl,st_mask [] rfl hw⟩
set_option maxHeartbeats 4000000 in
theorem within_ok (β : Base) (w : World) (hw : St β [] w) (a : KAm) : Ret Tryz.prog 102 #[.agg (amC a)] β w (.bool a.within) := by
 refine enter (n := 16) Tryz.func102 rfl Tryz.ntmps102 rfl ?_ hw
 refine csr (bxa fun b1 => ?_)
 refine lE oab (lnf (cs2 (c_region (lE (olg 0) (lE omi (lnf (c_block (c_unroll 5 (un_succ 4 (csr (lE olt (lnf (c_seq (c_yes rfl (csk (c_seq ?_))))))))))))))))
 refine c_block (csr (lv (v := Ix (a.a0)) (e_index_a (cs := (amC a)) (k := 0) rfl rfl tt1.ok rfl (by decide) tt2.ok) (lE oai (lnf (c_seq ?_)))))
 rcases in_cases (a.a0) with hi0 | hi0
 ·refine c_region (lE omi (lE olt (l_or2 (decide ((a.a0) < (0 : Int))) (decide ((2147483647 : Int) < (a.a0))) rfl (fun hb2 hk2 => ?_) (fun z3 z4 => ?_))))
  ·have hb2p := of_decide_eq_false hb2
   refine gE omi (gE ogt (lE okfb ?_))
   exact hk2 _ _
  refine lnf (c_ifb (((decide ((a.a0) < (0 : Int))) || (decide ((2147483647 : Int) < (a.a0))))) rfl (fun hc5 => ?_) (fun hc5 => ?_))
  ·rw [hi0.2] at hc5; cases hc5
  refine c_skip (f_block (f_then (c_region (lE opl (lE omi (l_nil (f_cut (un_succ 3 (csr (lE olt (lnf (c_seq (c_yes rfl (csk (c_seq (c_block (csr ?_)))))))))))))))))
  refine lv (v := Ix (a.a1)) (e_index_a (cs := (amC a)) (k := 1) rfl rfl tt1.ok rfl (by decide) tt2.ok) (lE oai (lnf (c_seq ?_)))
  rcases in_cases (a.a1) with hi1 | hi1
  ·refine c_region (lE omi (lE olt (l_or2 (decide ((a.a1) < (0 : Int))) (decide ((2147483647 : Int) < (a.a1))) rfl (fun hb6 hk6 => ?_) (fun z7 z8 => ?_))))
   ·have hb6p := of_decide_eq_false hb6
    refine gE omi (gE ogt (lE okfb ?_))
    exact hk6 _ _
   refine lnf (c_ifb (((decide ((a.a1) < (0 : Int))) || (decide ((2147483647 : Int) < (a.a1))))) rfl (fun hc9 => ?_) (fun hc9 => ?_))
   ·rw [hi1.2] at hc9; cases hc9
   refine c_skip (f_block (f_then (c_region (lE opl (lE omi (l_nil (f_cut (un_succ 2 (csr (lE olt (lnf (c_seq (c_yes rfl (csk (c_seq (c_block (csr ?_)))))))))))))))))
   refine lv (v := Ix (a.a2)) (e_index_a (cs := (amC a)) (k := 2) rfl rfl tt1.ok rfl (by decide) tt2.ok) (lE oai (lnf (c_seq ?_)))
   rcases in_cases (a.a2) with hi2 | hi2
   ·refine c_region (lE omi (lE olt ?_))
    refine l_or2 (decide ((a.a2) < (0 : Int))) (decide ((2147483647 : Int) < (a.a2))) rfl (fun hb10 hk10 => ?_) (fun z11 z12 => ?_)
    ·have hb10p := of_decide_eq_false hb10
     refine gE omi (gE ogt (lE okfb ?_))
     exact hk10 _ _
    refine lnf (c_ifb (((decide ((a.a2) < (0 : Int))) || (decide ((2147483647 : Int) < (a.a2))))) rfl (fun hc13 => ?_) (fun hc13 => ?_))
    ·rw [hi2.2] at hc13; cases hc13
    refine c_skip (f_block (f_then (c_region (lE opl (lE omi (l_nil (f_cut (un_succ 1 (csr (lE olt (lnf (c_seq (c_yes rfl (csk (c_seq (c_block (csr ?_)))))))))))))))))
    refine lv (v := Ix (a.a3)) (e_index_a (cs := (amC a)) (k := 3) rfl rfl tt1.ok rfl (by decide) tt2.ok) (lE oai (lnf (c_seq ?_)))
    rcases in_cases (a.a3) with hi3 | hi3
    ·refine c_region (lE omi (lE olt ?_))
     refine l_or2 (decide ((a.a3) < (0 : Int))) (decide ((2147483647 : Int) < (a.a3))) rfl (fun hb14 hk14 => ?_) (fun z15 z16 => ?_)
     ·have hb14p := of_decide_eq_false hb14
      refine gE omi (gE ogt (lE okfb ?_))
      exact hk14 _ _
     refine lnf (c_ifb (((decide ((a.a3) < (0 : Int))) || (decide ((2147483647 : Int) < (a.a3))))) rfl (fun hc17 => ?_) (fun hc17 => ?_))
     ·rw [hi3.2] at hc17; cases hc17
     refine c_skip (f_block (f_then (c_region (lE opl (lE omi (l_nil (f_cut (un_succ 0 (csr (lE olt (lnf (c_seq (c_no rfl (c_exit (f_then_exit ?_)))))))))))))))
     refine f_then_exit (f_exit (ftc (lE oab (lnf (c_ret (ret1 Tryz.results102 rfl ?_))))))
     intro w hw
     exact ⟨by rw [with_yes hi0.1 hi1.1 hi2.1 hi3.1] <;> rfl,st_mask [false] rfl hw⟩
    refine c_region (lE omi (lE olt ?_))
    refine l_or2 (decide ((a.a3) < (0 : Int))) (decide ((2147483647 : Int) < (a.a3))) rfl (fun hb18 hk18 => ?_) (fun z19 z20 => ?_)
    ·have hb18p := of_decide_eq_false hb18
     refine gE omi (gE ogt (lE okfb ?_))
     exact hk18 _ _
    refine lnf (c_ifb (((decide ((a.a3) < (0 : Int))) || (decide ((2147483647 : Int) < (a.a3))))) rfl (fun hc21 => ?_) (fun hc21 => ?_))
    ·refine csr (lE oab (lnf (c_ret (f_block_ret (f_then_ret (f_then_ret (f_block_ret (f_then_ret (ret1 Tryz.results102 rfl ?_)))))))))
     intro w hw
     exact ⟨by rw [with_no3 hi3.1] <;> rfl,st_mask [false] rfl hw⟩
    rw [hi3.2] at hc21; cases hc21
   refine c_region (lE omi (lE olt ?_))
   refine l_or2 (decide ((a.a2) < (0 : Int))) (decide ((2147483647 : Int) < (a.a2))) rfl (fun hb22 hk22 => ?_) (fun z23 z24 => ?_)
   ·have hb22p := of_decide_eq_false hb22
    refine gE omi (gE ogt (lE okfb ?_))
    exact hk22 _ _
   refine lnf (c_ifb (((decide ((a.a2) < (0 : Int))) || (decide ((2147483647 : Int) < (a.a2))))) rfl (fun hc25 => ?_) (fun hc25 => ?_))
   ·refine csr (lE oab (lnf (c_ret (f_block_ret (f_then_ret (f_then_ret (f_block_ret (f_then_ret (ret1 Tryz.results102 rfl ?_)))))))))
    intro w hw
    exact ⟨by rw [with_no2 hi2.1] <;> rfl,st_mask [false] rfl hw⟩
   rw [hi2.2] at hc25; cases hc25
  refine c_region (lE omi (lE olt ?_))
  refine l_or2 (decide ((a.a1) < (0 : Int))) (decide ((2147483647 : Int) < (a.a1))) rfl (fun hb26 hk26 => ?_) (fun z27 z28 => ?_)
  ·have hb26p := of_decide_eq_false hb26
   refine gE omi (gE ogt (lE okfb ?_))
   exact hk26 _ _
  refine lnf (c_ifb (((decide ((a.a1) < (0 : Int))) || (decide ((2147483647 : Int) < (a.a1))))) rfl (fun hc29 => ?_) (fun hc29 => ?_))
  ·refine csr (lE oab (lnf (c_ret (f_block_ret (f_then_ret (f_then_ret (f_block_ret (f_then_ret (ret1 Tryz.results102 rfl ?_)))))))))
   intro w hw
   exact ⟨by rw [with_no1 hi1.1] <;> rfl,st_mask [false] rfl hw⟩
  rw [hi1.2] at hc29; cases hc29
 refine c_region (lE omi (lE olt ?_))
 refine l_or2 (decide ((a.a0) < (0 : Int))) (decide ((2147483647 : Int) < (a.a0))) rfl (fun hb30 hk30 => ?_) (fun z31 z32 => ?_)
 ·have hb30p := of_decide_eq_false hb30
  refine gE omi (gE ogt (lE okfb ?_))
  exact hk30 _ _
 refine lnf (c_ifb (((decide ((a.a0) < (0 : Int))) || (decide ((2147483647 : Int) < (a.a0))))) rfl (fun hc33 => ?_) (fun hc33 => ?_))
 ·refine csr (lE oab (lnf (c_ret (f_block_ret (f_then_ret (f_then_ret (f_block_ret (f_then_ret (ret1 Tryz.results102 rfl ?_)))))))))
  intro w hw
  exact ⟨by rw [with_no0 hi0.1] <;> rfl,st_mask [false] rfl hw⟩
 rw [hi0.2] at hc33; cases hc33
set_option maxHeartbeats 4000000 in
theorem plus_ok (β : Base) (w : World) (hw : St β [] w) (a b : KAm) (s : Int) (hs : s = 1 ∨ s = -1) (ha : a.bd 4611686018427387903) (hb : b.bd 4611686018427387903) : Ret Tryz.prog 108 #[.agg (amC a), .agg (amC b), Ix s] β w (.agg (amC (a.plus b s))) := by
 obtain ⟨ha0,ha1,ha2,ha3⟩ := ha
 obtain ⟨hb0,hb1,hb2,hb3⟩ := hb
 have hm0 : -4611686018427387903 ≤ s * b.a0 ∧ s * b.a0 ≤ 4611686018427387903 := by rcases hs with rfl | rfl <;> omega
 have hm1 : -4611686018427387903 ≤ s * b.a1 ∧ s * b.a1 ≤ 4611686018427387903 := by rcases hs with rfl | rfl <;> omega
 have hm2 : -4611686018427387903 ≤ s * b.a2 ∧ s * b.a2 ≤ 4611686018427387903 := by rcases hs with rfl | rfl <;> omega
 have hm3 : -4611686018427387903 ≤ s * b.a3 ∧ s * b.a3 ≤ 4611686018427387903 := by rcases hs with rfl | rfl <;> omega
 refine enter (n := 23) Tryz.func108 rfl Tryz.ntmps108 rfl ?_ hw
 refine csr (bxa fun b1 => ?_)
 refine bxa fun b2 => ?_
 refine alE fun b3 => lnf (cs2 (c_region (lE omi (lnf (c_block (c_unroll 5 (un_succ 4 (csr (lE olt (lnf (c_seq (c_yes rfl (csk (c_seq (c_block (csr ?_))))))))))))))))
 refine lE omi (lE oai (lnf ?_))
 refine cnz [sv 11 (.int .i64 (0)) [] [] [0],sv 12 (pp b1 0) [0] [0] [1],sv 13 (Ix (a.a0)) [0,1] [1] [],sv 14 (Ix (s)) [] [] [2],sv 15 (.int .i64 (0)) [] [] [0],sv 16 (pp b2 0) [4] [4] [3],sv 17 (Ix (b.a0)) [4,5] [5] [],sv 18 (Ix ((s) * (b.a0))) [3,4,5,6] [3,6] [],sv 19 (Ix ((a.a0) + ((s) * (b.a0)))) (List.range 8) [2,7] [],sv 20 (pp b1 0) (List.range 9) [0] [1],⟨(List.range 10),[9,8],[],[],fun _ => True⟩] [u0,u1 [6],(some 10,[2,10])] [⟨(some 10),none,[],[],fun _ => pt b1 (.cells #[Ix ((a.a0) + ((s) * (b.a0))),Ix (a.a1),Ix (a.a2),Ix (a.a3)] 44)⟩] [(7,.int .i64 (0)),(3,pp b1 0),(2,Ix (s)),(4,pp b2 0),(6,pp b3 0),(8,.int .i64 (0))] [2,1,3,4,5] ⟨rfl,rfl,rfl,rfl,rfl,rfl,trivial⟩ ⟨?_,?_,?_,?_,?_,?_,?_,?_,?_,?_,?_,trivial⟩ ?_
 ·rintro f M - ⟨i0,-⟩
  exact obE omi
 ·rintro f M ⟨k0,-⟩ ⟨i0,-⟩
  exact ob0 (up_cons (d := 11) (up_cons (d := 3) rfl i0) k0) rfl (e_indexArrK (b := b1) (o := 0) (k := 0) rfl rfl tt1.ok (by decide)) (.refl _)
 ·rintro f M ⟨k0,-⟩ -
  exact obE (oli 0)
 ·rintro f M - ⟨i0,-⟩
  exact obE omi
 ·rintro f M - ⟨i0,-⟩
  exact obE omi
 ·rintro f M ⟨k0,-⟩ ⟨i0,-⟩
  exact ob0 (up_cons (d := 15) (up_cons (d := 4) rfl i0) k0) rfl (e_indexArrK (b := b2) (o := 0) (k := 0) rfl rfl tt1.ok (by decide)) (.refl _)
 ·rintro f M ⟨k0,-⟩ -
  exact obE (oli 0)
 ·rintro f M ⟨k0,k1,-⟩ -
  exact obE otm
 ·rintro f M ⟨k0,k1,-⟩ -
  exact obE opl
 ·rintro f M ⟨k0,-⟩ ⟨i0,-⟩
  exact ob0 (up_cons (d := 11) (up_cons (d := 3) rfl i0) k0) rfl (e_indexArrK (b := b1) (o := 0) (k := 0) rfl rfl tt1.ok (by decide)) (.refl _)
 ·rintro f M ⟨k0,k1,-⟩ -
  refine obS (up_cons (d := 19) (up_cons (d := 20) rfl k0) k1) ?_
  refine lu (mS 0 (#[Ix ((a.a0) + ((s) * (b.a0))),Ix (a.a1),Ix (a.a2),Ix (a.a3)])) (l_nil ?_)
  exact f_owes_n (up_cons (d := 19) (up_cons (d := 20) rfl k0) k1) trivial (perm_front 0 rfl)
 rintro fa4 ⟨-,-,-,-,-,-,-,-,-,-,-,-⟩ ⟨j0,j1,j2,j3,j4,-⟩
 refine fre ?_
 refine f_rebase (d := 2) j0 (f_rebase (d := 3) j1 (f_rebase (d := 4) j2 (f_rebase (d := 6) j3 (f_rebase (d := 8) j4 (f_block (f_then (c_region ?_)))))))
 refine lE opl (lE omi (l_nil (f_cut (un_succ 3 (csr (lE olt (lnf (c_seq (c_yes rfl (csk (c_seq (c_block (csr (lE omi (lE oai (lnf ?_))))))))))))))))
 refine cnz [sv 11 (.int .i64 (1)) [] [] [0],sv 12 (pp b1 1) [0] [0] [1],sv 13 (Ix (a.a1)) [0,1] [1] [],sv 14 (Ix (s)) [] [] [2],sv 15 (.int .i64 (1)) [] [] [0],sv 16 (pp b2 1) [4] [4] [3],sv 17 (Ix (b.a1)) [4,5] [5] [],sv 18 (Ix ((s) * (b.a1))) [3,4,5,6] [3,6] [],sv 19 (Ix ((a.a1) + ((s) * (b.a1)))) (List.range 8) [2,7] [],sv 20 (pp b1 1) (List.range 9) [0] [1],⟨(List.range 10),[9,8],[],[],fun _ => True⟩] [u0,u1 [6],(some 10,[2,10])] [⟨(some 10),none,[],[],fun _ => pt b1 (.cells #[Ix ((a.a0) + ((s) * (b.a0))),Ix ((a.a1) + ((s) * (b.a1))),Ix (a.a2),Ix (a.a3)] 44)⟩] [(7,.int .i64 (1)),(3,pp b1 0),(2,Ix (s)),(4,pp b2 0),(6,pp b3 0),(8,.int .i64 (1))] [2,1,3,4,5] ⟨rfl,rfl,rfl,rfl,rfl,rfl,trivial⟩ ⟨?_,?_,?_,?_,?_,?_,?_,?_,?_,?_,?_,trivial⟩ ?_
 ·rintro f M - ⟨i0,-⟩
  exact obE omi
 ·rintro f M ⟨k0,-⟩ ⟨i0,-⟩
  exact ob0 (up_cons (d := 11) (up_cons (d := 3) rfl i0) k0) rfl (e_indexArrK (b := b1) (o := 0) (k := 1) rfl rfl tt1.ok (by decide)) (.refl _)
 ·rintro f M ⟨k0,-⟩ -
  exact obE (oli 0)
 ·rintro f M - ⟨i0,-⟩
  exact obE omi
 ·rintro f M - ⟨i0,-⟩
  exact obE omi
 ·rintro f M ⟨k0,-⟩ ⟨i0,-⟩
  exact ob0 (up_cons (d := 15) (up_cons (d := 4) rfl i0) k0) rfl (e_indexArrK (b := b2) (o := 0) (k := 1) rfl rfl tt1.ok (by decide)) (.refl _)
 ·rintro f M ⟨k0,-⟩ -
  exact obE (oli 0)
 ·rintro f M ⟨k0,k1,-⟩ -
  exact obE otm
 ·rintro f M ⟨k0,k1,-⟩ -
  exact obE opl
 ·rintro f M ⟨k0,-⟩ ⟨i0,-⟩
  exact ob0 (up_cons (d := 11) (up_cons (d := 3) rfl i0) k0) rfl (e_indexArrK (b := b1) (o := 0) (k := 1) rfl rfl tt1.ok (by decide)) (.refl _)
 ·rintro f M ⟨k0,k1,-⟩ -
  refine obS (up_cons (d := 19) (up_cons (d := 20) rfl k0) k1) ?_
  refine lu (mS 0 (#[Ix ((a.a0) + ((s) * (b.a0))),Ix ((a.a1) + ((s) * (b.a1))),Ix (a.a2),Ix (a.a3)])) (l_nil ?_)
  exact f_owes_n (up_cons (d := 19) (up_cons (d := 20) rfl k0) k1) trivial (perm_front 0 rfl)
 rintro fa5 ⟨-,-,-,-,-,-,-,-,-,-,-,-⟩ ⟨j0,j1,j2,j3,j4,-⟩
 refine fre ?_
 refine f_rebase (d := 2) j0 (f_rebase (d := 3) j1 (f_rebase (d := 4) j2 (f_rebase (d := 6) j3 (f_rebase (d := 8) j4 (f_block (f_then (c_region ?_)))))))
 refine lE opl (lE omi (l_nil (f_cut (un_succ 2 (csr (lE olt (lnf (c_seq (c_yes rfl (csk (c_seq (c_block (csr (lE omi (lE oai (lnf ?_))))))))))))))))
 refine cnz [sv 11 (.int .i64 (2)) [] [] [0],sv 12 (pp b1 2) [0] [0] [1],sv 13 (Ix (a.a2)) [0,1] [1] [],sv 14 (Ix (s)) [] [] [2],sv 15 (.int .i64 (2)) [] [] [0],sv 16 (pp b2 2) [4] [4] [3],sv 17 (Ix (b.a2)) [4,5] [5] [],sv 18 (Ix ((s) * (b.a2))) [3,4,5,6] [3,6] [],sv 19 (Ix ((a.a2) + ((s) * (b.a2)))) (List.range 8) [2,7] [],sv 20 (pp b1 2) (List.range 9) [0] [1],⟨(List.range 10),[9,8],[],[],fun _ => True⟩] [u0,u1 [6],(some 10,[2,10])] [⟨(some 10),none,[],[],fun _ => pt b1 (.cells #[Ix ((a.a0) + ((s) * (b.a0))),Ix ((a.a1) + ((s) * (b.a1))),Ix ((a.a2) + ((s) * (b.a2))),Ix (a.a3)] 44)⟩] [(7,.int .i64 (2)),(3,pp b1 0),(2,Ix (s)),(4,pp b2 0),(6,pp b3 0),(8,.int .i64 (2))] [2,1,3,4,5] ⟨rfl,rfl,rfl,rfl,rfl,rfl,trivial⟩ ⟨?_,?_,?_,?_,?_,?_,?_,?_,?_,?_,?_,trivial⟩ ?_
 ·rintro f M - ⟨i0,-⟩
  exact obE omi
 ·rintro f M ⟨k0,-⟩ ⟨i0,-⟩
  exact ob0 (up_cons (d := 11) (up_cons (d := 3) rfl i0) k0) rfl (e_indexArrK (b := b1) (o := 0) (k := 2) rfl rfl tt1.ok (by decide)) (.refl _)
 ·rintro f M ⟨k0,-⟩ -
  exact obE (oli 0)
 ·rintro f M - ⟨i0,-⟩
  exact obE omi
 ·rintro f M - ⟨i0,-⟩
  exact obE omi
 ·rintro f M ⟨k0,-⟩ ⟨i0,-⟩
  exact ob0 (up_cons (d := 15) (up_cons (d := 4) rfl i0) k0) rfl (e_indexArrK (b := b2) (o := 0) (k := 2) rfl rfl tt1.ok (by decide)) (.refl _)
 ·rintro f M ⟨k0,-⟩ -
  exact obE (oli 0)
 ·rintro f M ⟨k0,k1,-⟩ -
  exact obE otm
 ·rintro f M ⟨k0,k1,-⟩ -
  exact obE opl
 ·rintro f M ⟨k0,-⟩ ⟨i0,-⟩
  exact ob0 (up_cons (d := 11) (up_cons (d := 3) rfl i0) k0) rfl (e_indexArrK (b := b1) (o := 0) (k := 2) rfl rfl tt1.ok (by decide)) (.refl _)
 ·rintro f M ⟨k0,k1,-⟩ -
  refine obS (up_cons (d := 19) (up_cons (d := 20) rfl k0) k1) ?_
  refine lu (mS 0 (#[Ix ((a.a0) + ((s) * (b.a0))),Ix ((a.a1) + ((s) * (b.a1))),Ix ((a.a2) + ((s) * (b.a2))),Ix (a.a3)])) (l_nil ?_)
  exact f_owes_n (up_cons (d := 19) (up_cons (d := 20) rfl k0) k1) trivial (perm_front 0 rfl)
 rintro fa6 ⟨-,-,-,-,-,-,-,-,-,-,-,-⟩ ⟨j0,j1,j2,j3,j4,-⟩
 refine fre ?_
 refine f_rebase (d := 2) j0 (f_rebase (d := 3) j1 (f_rebase (d := 4) j2 (f_rebase (d := 6) j3 (f_rebase (d := 8) j4 (f_block (f_then (c_region ?_)))))))
 refine lE opl (lE omi (l_nil (f_cut (un_succ 1 (csr (lE olt (lnf (c_seq (c_yes rfl (csk (c_seq (c_block (csr (lE omi (lE oai (lnf ?_))))))))))))))))
 refine cnz [sv 11 (.int .i64 (3)) [] [] [0],sv 12 (pp b1 3) [0] [0] [1],sv 13 (Ix (a.a3)) [0,1] [1] [],sv 14 (Ix (s)) [] [] [2],sv 15 (.int .i64 (3)) [] [] [0],sv 16 (pp b2 3) [4] [4] [3],sv 17 (Ix (b.a3)) [4,5] [5] [],sv 18 (Ix ((s) * (b.a3))) [3,4,5,6] [3,6] [],sv 19 (Ix ((a.a3) + ((s) * (b.a3)))) (List.range 8) [2,7] [],sv 20 (pp b1 3) (List.range 9) [0] [1],⟨(List.range 10),[9,8],[],[],fun _ => True⟩] [u0,u1 [6],(some 10,[2,10])] [⟨(some 10),none,[],[],fun _ => pt b1 (.cells #[Ix ((a.a0) + ((s) * (b.a0))),Ix ((a.a1) + ((s) * (b.a1))),Ix ((a.a2) + ((s) * (b.a2))),Ix ((a.a3) + ((s) * (b.a3)))] 44)⟩] [(7,.int .i64 (3)),(3,pp b1 0),(2,Ix (s)),(4,pp b2 0),(6,pp b3 0),(8,.int .i64 (3))] [2,1,3,4,5] ⟨rfl,rfl,rfl,rfl,rfl,rfl,trivial⟩ ⟨?_,?_,?_,?_,?_,?_,?_,?_,?_,?_,?_,trivial⟩ ?_
 ·rintro f M - ⟨i0,-⟩
  exact obE omi
 ·rintro f M ⟨k0,-⟩ ⟨i0,-⟩
  exact ob0 (up_cons (d := 11) (up_cons (d := 3) rfl i0) k0) rfl (e_indexArrK (b := b1) (o := 0) (k := 3) rfl rfl tt1.ok (by decide)) (.refl _)
 ·rintro f M ⟨k0,-⟩ -
  exact obE (oli 0)
 ·rintro f M - ⟨i0,-⟩
  exact obE omi
 ·rintro f M - ⟨i0,-⟩
  exact obE omi
 ·rintro f M ⟨k0,-⟩ ⟨i0,-⟩
  exact ob0 (up_cons (d := 15) (up_cons (d := 4) rfl i0) k0) rfl (e_indexArrK (b := b2) (o := 0) (k := 3) rfl rfl tt1.ok (by decide)) (.refl _)
 ·rintro f M ⟨k0,-⟩ -
  exact obE (oli 0)
 ·rintro f M ⟨k0,k1,-⟩ -
  exact obE otm
 ·rintro f M ⟨k0,k1,-⟩ -
  exact obE opl
 ·rintro f M ⟨k0,-⟩ ⟨i0,-⟩
  exact ob0 (up_cons (d := 11) (up_cons (d := 3) rfl i0) k0) rfl (e_indexArrK (b := b1) (o := 0) (k := 3) rfl rfl tt1.ok (by decide)) (.refl _)
 ·rintro f M ⟨k0,k1,-⟩ -
  refine obS (up_cons (d := 19) (up_cons (d := 20) rfl k0) k1) ?_
  refine lu (mS 0 (#[Ix ((a.a0) + ((s) * (b.a0))),Ix ((a.a1) + ((s) * (b.a1))),Ix ((a.a2) + ((s) * (b.a2))),Ix ((a.a3) + ((s) * (b.a3)))])) (l_nil ?_)
  exact f_owes_n (up_cons (d := 19) (up_cons (d := 20) rfl k0) k1) trivial (perm_front 0 rfl)
 rintro fa7 ⟨-,-,-,-,-,-,-,-,-,-,-,-⟩ ⟨j0,j1,j2,j3,j4,-⟩
 refine fre ?_
 refine f_rebase (d := 2) j0 (f_rebase (d := 3) j1 (f_rebase (d := 4) j2 (f_rebase (d := 6) j3 (f_rebase (d := 8) j4 (f_block (f_then (c_region ?_)))))))
 refine lE opl (lE omi (l_nil (f_cut (un_succ 0 (csr (lE olt (lnf (c_seq (c_no rfl (c_exit (f_then_exit (f_then_exit (f_exit (ftc (lE (olg 2) ?_)))))))))))))))
 refine lu (mS 0 (#[Ix ((a.a0) + ((s) * (b.a0))),Ix ((a.a1) + ((s) * (b.a1))),Ix ((a.a2) + ((s) * (b.a2))),Ix ((a.a3) + ((s) * (b.a3)))])) (lnf ?_)
 refine c_ret ?_
 refine retG (m := [.agg #[Ix ((a.a0) + ((s) * (b.a0))),Ix ((a.a1) + ((s) * (b.a1))),Ix ((a.a2) + ((s) * (b.a2))),Ix ((a.a3) + ((s) * (b.a3)))]]) Tryz.results108 ⟨rd_cell tt0.ok rfl (k_pt 0 rfl rfl) rfl,trivial⟩ rfl ?_
 intro w hw
 exact ⟨rfl,st_mask [false,false,false] rfl hw⟩
end Go.Proofs
