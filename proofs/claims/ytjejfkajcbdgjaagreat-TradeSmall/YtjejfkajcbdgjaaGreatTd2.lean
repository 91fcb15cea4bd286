/-
  Own work; plain Lean (Td1, Td2).
-/
import Derived.Test.YtjejfkajcbdgjaaGreatJnDef
set_option linter.all false
set_option maxHeartbeats 4000000
namespace Go.Proofs
open Go Go.Sl Go.Td
theorem lU(n:Int):(inA n=true∧(decide (n<(0:Int))||decide ((2147483647:Int)<n))=false)∨(inA n=false∧(decide (n<(0:Int))||decide ((2147483647:Int)<n))=true):=by
 unfold inA
 by_cases h1:n<0
 ·exact .inr (by simp[h1,Int.not_le.2 h1])
 by_cases h2:2147483647<n
 ·exact .inr (by simp[h2,Int.not_le.2 h2])
 exact .inl (by simp[h1,h2];omega)
theorem aHm{a:KAm}(h0:inA a.a0=true)(h1:inA a.a1=true)(h2:inA a.a2=true)(h3:inA a.a3=true):a.within=true:=by unfold KAm.within;rw[h0,h1,h2,h3];rfl
theorem aHi{a:KAm}(h:inA a.a0=false):a.within=false:=by unfold KAm.within;rw[h];rfl
theorem aHj{a:KAm}(h:inA a.a1=false):a.within=false:=by unfold KAm.within;rw[h,Bool.and_false];rfl
theorem aHk{a:KAm}(h:inA a.a2=false):a.within=false:=by unfold KAm.within;rw[h,Bool.and_false];rfl
theorem aHl{a:KAm}(h:inA a.a3=false):a.within=false:=by unfold KAm.within;rw[h,Bool.and_false]
instance tt0:TyC Tryz.prog 44 true 4:={}
instance qY:ArrC Tryz.prog 44 4 3 1:={}
instance tt2:TyC Tryz.prog 3 false 1:={}
instance tt3:ZerC Tryz.prog 44 (.agg #[.int .i64 (0),.int .i64 (0),.int .i64 (0),.int .i64 (0)]):={}
theorem uY(β:Base)(w:World)(hw:St β [] w)(n:Int):oP Tryz.prog 101 #[Ix n] β w (.bool (fE n)):=by
 refine enter (n:=9) Tryz.func101 rfl Tryz.ntmps101 rfl ?_ hw
 refine bD (lE dP (eY (lE aU (lE oge (zA (decide ((1:Int)≤(n))) (decide ((n)≤(65536:Int))) rfl (fun hb1 hk1=> ?_) (fun z2 z3=> ?_))))))
 ·have hb1p:=of_decide_eq_true hb1
  refine gE aU (gE ole (lE eF ?_))
  exact hk1 _ _
 refine lE dP (aN (aV (dJ Tryz.results101 rfl ?_)))
 intro w hw
 exact⟨rfl,aG [] rfl hw⟩
theorem pQ(β:Base)(w:World)(hw:St β [] w)(a:KAm):oP Tryz.prog 102 #[.agg (eK a)] β w (.bool a.within):=by
 refine enter (n:=16) Tryz.func102 rfl Tryz.ntmps102 rfl ?_ hw
 refine bD (mL fun b1=> ?_)
 refine lE dP (aN (eR (aC (lE (dK 0) (lE aU (aN (aJ (mU 5 (eH 4 (bD (lE gN (aN (aL (dN rfl (eB (aL ?_))))))))))))))))
 refine aJ (bD (lv (v:=Ix (a.a0)) (fP (cs:=(eK a)) (k:=0) rfl rfl qY.ok rfl (by decide) tt2.ok) (lE bN (aN (aL ?_)))))
 rcases lU (a.a0)with hi0|hi0
 ·refine aC (lE aU (lE gN (wZ (decide ((a.a0)<(0:Int))) (decide ((2147483647:Int)<(a.a0))) rfl (fun hb2 hk2=> ?_) (fun z3 z4=> ?_))))
  ·have hb2p:=of_decide_eq_false hb2
   refine gE aU (gE oQ (lE dT ?_))
   exact hk2 _ _
  refine aN (fH (((decide ((a.a0)<(0:Int)))||(decide ((2147483647:Int)<(a.a0))))) rfl (fun hc5=> ?_) (fun hc5=> ?_))
  ·rw[hi0.2]at hc5;cases hc5
  refine cG (aP (bA (aC (lE rF (lE aU (aH (bG (eH 3 (bD (lE gN (aN (aL (dN rfl (eB (aL (aJ (bD ?_)))))))))))))))))
  refine lv (v:=Ix (a.a1)) (fP (cs:=(eK a)) (k:=1) rfl rfl qY.ok rfl (by decide) tt2.ok) (lE bN (aN (aL ?_)))
  rcases lU (a.a1)with hi1|hi1
  ·refine aC (lE aU (lE gN (wZ (decide ((a.a1)<(0:Int))) (decide ((2147483647:Int)<(a.a1))) rfl (fun hb6 hk6=> ?_) (fun z7 z8=> ?_))))
   ·have hb6p:=of_decide_eq_false hb6
    refine gE aU (gE oQ (lE dT ?_))
    exact hk6 _ _
   refine aN (fH (((decide ((a.a1)<(0:Int)))||(decide ((2147483647:Int)<(a.a1))))) rfl (fun hc9=> ?_) (fun hc9=> ?_))
   ·rw[hi1.2]at hc9;cases hc9
   refine cG (aP (bA (aC (lE rF (lE aU (aH (bG (eH 2 (bD (lE gN (aN (aL (dN rfl (eB (aL (aJ (bD ?_)))))))))))))))))
   refine lv (v:=Ix (a.a2)) (fP (cs:=(eK a)) (k:=2) rfl rfl qY.ok rfl (by decide) tt2.ok) (lE bN (aN (aL ?_)))
   rcases lU (a.a2)with hi2|hi2
   ·refine aC (lE aU (lE gN ?_))
    refine wZ (decide ((a.a2)<(0:Int))) (decide ((2147483647:Int)<(a.a2))) rfl (fun hb10 hk10=> ?_) (fun z11 z12=> ?_)
    ·have hb10p:=of_decide_eq_false hb10
     refine gE aU (gE oQ (lE dT ?_))
     exact hk10 _ _
    refine aN (fH (((decide ((a.a2)<(0:Int)))||(decide ((2147483647:Int)<(a.a2))))) rfl (fun hc13=> ?_) (fun hc13=> ?_))
    ·rw[hi2.2]at hc13;cases hc13
    refine cG (aP (bA (aC (lE rF (lE aU (aH (bG (eH 1 (bD (lE gN (aN (aL (dN rfl (eB (aL (aJ (bD ?_)))))))))))))))))
    refine lv (v:=Ix (a.a3)) (fP (cs:=(eK a)) (k:=3) rfl rfl qY.ok rfl (by decide) tt2.ok) (lE bN (aN (aL ?_)))
    rcases lU (a.a3)with hi3|hi3
    ·refine aC (lE aU (lE gN ?_))
     refine wZ (decide ((a.a3)<(0:Int))) (decide ((2147483647:Int)<(a.a3))) rfl (fun hb14 hk14=> ?_) (fun z15 z16=> ?_)
     ·have hb14p:=of_decide_eq_false hb14
      refine gE aU (gE oQ (lE dT ?_))
      exact hk14 _ _
     refine aN (fH (((decide ((a.a3)<(0:Int)))||(decide ((2147483647:Int)<(a.a3))))) rfl (fun hc17=> ?_) (fun hc17=> ?_))
     ·rw[hi3.2]at hc17;cases hc17
     refine cG (aP (bA (aC (lE rF (lE aU (aH (bG (eH 0 (bD (lE gN (aN (aL (cR rfl (cK (aF ?_)))))))))))))))
     refine aF (cL (kM (lE dP (aN (aV (dJ Tryz.results102 rfl ?_))))))
     intro w hw
     exact⟨by rw[aHm hi0.1 hi1.1 hi2.1 hi3.1]<;>rfl,aG [false] rfl hw⟩
    refine aC (lE aU (lE gN ?_))
    refine wZ (decide ((a.a3)<(0:Int))) (decide ((2147483647:Int)<(a.a3))) rfl (fun hb18 hk18=> ?_) (fun z19 z20=> ?_)
    ·have hb18p:=of_decide_eq_false hb18
     refine gE aU (gE oQ (lE dT ?_))
     exact hk18 _ _
    refine aN (fH (((decide ((a.a3)<(0:Int)))||(decide ((2147483647:Int)<(a.a3))))) rfl (fun hc21=> ?_) (fun hc21=> ?_))
    ·refine bD (lE dP (aN (aV (aR (aI (aI (aR (aI (dJ Tryz.results102 rfl ?_)))))))))
     intro w hw
     exact⟨by rw[aHl hi3.1]<;>rfl,aG [false] rfl hw⟩
    rw[hi3.2]at hc21;cases hc21
   refine aC (lE aU (lE gN ?_))
   refine wZ (decide ((a.a2)<(0:Int))) (decide ((2147483647:Int)<(a.a2))) rfl (fun hb22 hk22=> ?_) (fun z23 z24=> ?_)
   ·have hb22p:=of_decide_eq_false hb22
    refine gE aU (gE oQ (lE dT ?_))
    exact hk22 _ _
   refine aN (fH (((decide ((a.a2)<(0:Int)))||(decide ((2147483647:Int)<(a.a2))))) rfl (fun hc25=> ?_) (fun hc25=> ?_))
   ·refine bD (lE dP (aN (aV (aR (aI (aI (aR (aI (dJ Tryz.results102 rfl ?_)))))))))
    intro w hw
    exact⟨by rw[aHk hi2.1]<;>rfl,aG [false] rfl hw⟩
   rw[hi2.2]at hc25;cases hc25
  refine aC (lE aU (lE gN ?_))
  refine wZ (decide ((a.a1)<(0:Int))) (decide ((2147483647:Int)<(a.a1))) rfl (fun hb26 hk26=> ?_) (fun z27 z28=> ?_)
  ·have hb26p:=of_decide_eq_false hb26
   refine gE aU (gE oQ (lE dT ?_))
   exact hk26 _ _
  refine aN (fH (((decide ((a.a1)<(0:Int)))||(decide ((2147483647:Int)<(a.a1))))) rfl (fun hc29=> ?_) (fun hc29=> ?_))
  ·refine bD (lE dP (aN (aV (aR (aI (aI (aR (aI (dJ Tryz.results102 rfl ?_)))))))))
   intro w hw
   exact⟨by rw[aHj hi1.1]<;>rfl,aG [false] rfl hw⟩
  rw[hi1.2]at hc29;cases hc29
 refine aC (lE aU (lE gN ?_))
 refine wZ (decide ((a.a0)<(0:Int))) (decide ((2147483647:Int)<(a.a0))) rfl (fun hb30 hk30=> ?_) (fun z31 z32=> ?_)
 ·have hb30p:=of_decide_eq_false hb30
  refine gE aU (gE oQ (lE dT ?_))
  exact hk30 _ _
 refine aN (fH (((decide ((a.a0)<(0:Int)))||(decide ((2147483647:Int)<(a.a0))))) rfl (fun hc33=> ?_) (fun hc33=> ?_))
 ·refine bD (lE dP (aN (aV (aR (aI (aI (aR (aI (dJ Tryz.results102 rfl ?_)))))))))
  intro w hw
  exact⟨by rw[aHi hi0.1]<;>rfl,aG [false] rfl hw⟩
 rw[hi0.2]at hc33;cases hc33
theorem vA(β:Base)(w:World)(hw:St β [] w)(a b:KAm)(s:Int)(hs:s=1∨s= -1)(ha:a.bd 4611686018427387903)(hb:b.bd 4611686018427387903):oP Tryz.prog 108 #[.agg (eK a),.agg (eK b),Ix s] β w (.agg (eK (a.plus b s))):=by
 obtain⟨ha0,ha1,ha2,ha3⟩:=ha
 obtain⟨hb0,hb1,hb2,hb3⟩:=hb
 have hm0: -4611686018427387903≤s*b.a0∧s*b.a0≤4611686018427387903:=by rcases hs with rfl|rfl<;>omega
 have hm1: -4611686018427387903≤s*b.a1∧s*b.a1≤4611686018427387903:=by rcases hs with rfl|rfl<;>omega
 have hm2: -4611686018427387903≤s*b.a2∧s*b.a2≤4611686018427387903:=by rcases hs with rfl|rfl<;>omega
 have hm3: -4611686018427387903≤s*b.a3∧s*b.a3≤4611686018427387903:=by rcases hs with rfl|rfl<;>omega
 refine enter (n:=23) Tryz.func108 rfl Tryz.ntmps108 rfl ?_ hw
 refine bD (mL fun b1=> ?_)
 refine mL fun b2=> ?_
 refine gB fun b3=>aN (eR (aC (lE aU (aN (aJ (mU 5 (eH 4 (bD (lE gN (aN (aL (dN rfl (eB (aL (aJ (bD ?_))))))))))))))))
 refine lE aU (lE bN (aN ?_))
 refine jS [sv 11 (.int .i64 (0)) [] [] [0],sv 12 (pp b1 0) [0] [0] [1],sv 13 (Ix (a.a0)) [0,1] [1] [],sv 14 (Ix (s)) [] [] [2],sv 15 (.int .i64 (0)) [] [] [0],sv 16 (pp b2 0) [4] [4] [3],sv 17 (Ix (b.a0)) [4,5] [5] [],sv 18 (Ix ((s)*(b.a0))) [3,4,5,6] [3,6] [],sv 19 (Ix ((a.a0)+((s)*(b.a0)))) (List.range 8) [2,7] [],sv 20 (pp b1 0) (List.range 9) [0] [1],⟨(List.range 10),[9,8],[],[],fun _=>True⟩] [u0,u1 [6],(some 10,[2,10])] [⟨(some 10),none,[],[],fun _=>pt b1 (.cells #[Ix ((a.a0)+((s)*(b.a0))),Ix (a.a1),Ix (a.a2),Ix (a.a3)] 44)⟩] [(7,.int .i64 (0)),(3,pp b1 0),(2,Ix (s)),(4,pp b2 0),(6,pp b3 0),(8,.int .i64 (0))] [2,1,3,4,5] ⟨rfl,rfl,rfl,rfl,rfl,rfl,trivial⟩ ⟨?_,?_,?_,?_,?_,?_,?_,?_,?_,?_,?_,trivial⟩ ?_
 ·rintro f M-⟨i0,-⟩
  exact aT aU
 ·rintro f M ⟨k0,-⟩ ⟨i0,-⟩
  exact gO (aA (d:=11) (aA (d:=3) rfl i0) k0) rfl (bF (b:=b1) (o:=0) (k:=0) rfl rfl qY.ok (by decide)) (.refl _)
 ·rintro f M ⟨k0,-⟩-
  exact aT (cY 0)
 ·rintro f M-⟨i0,-⟩
  exact aT aU
 ·rintro f M-⟨i0,-⟩
  exact aT aU
 ·rintro f M ⟨k0,-⟩ ⟨i0,-⟩
  exact gO (aA (d:=15) (aA (d:=4) rfl i0) k0) rfl (bF (b:=b2) (o:=0) (k:=0) rfl rfl qY.ok (by decide)) (.refl _)
 ·rintro f M ⟨k0,-⟩-
  exact aT (cY 0)
 ·rintro f M ⟨k0,k1,-⟩-
  exact aT otm
 ·rintro f M ⟨k0,k1,-⟩-
  exact aT rF
 ·rintro f M ⟨k0,-⟩ ⟨i0,-⟩
  exact gO (aA (d:=11) (aA (d:=3) rfl i0) k0) rfl (bF (b:=b1) (o:=0) (k:=0) rfl rfl qY.ok (by decide)) (.refl _)
 ·rintro f M ⟨k0,k1,-⟩-
  refine dL (aA (d:=19) (aA (d:=20) rfl k0) k1) ?_
  refine lu (mS 0 (#[Ix ((a.a0)+((s)*(b.a0))),Ix (a.a1),Ix (a.a2),Ix (a.a3)])) (aH ?_)
  exact bC (aA (d:=19) (aA (d:=20) rfl k0) k1) trivial (aB 0 rfl)
 rintro fa4 ⟨-,-,-,-,-,-,-,-,-,-,-,-⟩ ⟨j0,j1,j2,j3,j4,-⟩
 refine jD ?_
 refine aD (d:=2) j0 (aD (d:=3) j1 (aD (d:=4) j2 (aD (d:=6) j3 (aD (d:=8) j4 (aP (bA (aC ?_)))))))
 refine lE rF (lE aU (aH (bG (eH 3 (bD (lE gN (aN (aL (dN rfl (eB (aL (aJ (bD (lE aU (lE bN (aN ?_))))))))))))))))
 refine jS [sv 11 (.int .i64 (1)) [] [] [0],sv 12 (pp b1 1) [0] [0] [1],sv 13 (Ix (a.a1)) [0,1] [1] [],sv 14 (Ix (s)) [] [] [2],sv 15 (.int .i64 (1)) [] [] [0],sv 16 (pp b2 1) [4] [4] [3],sv 17 (Ix (b.a1)) [4,5] [5] [],sv 18 (Ix ((s)*(b.a1))) [3,4,5,6] [3,6] [],sv 19 (Ix ((a.a1)+((s)*(b.a1)))) (List.range 8) [2,7] [],sv 20 (pp b1 1) (List.range 9) [0] [1],⟨(List.range 10),[9,8],[],[],fun _=>True⟩] [u0,u1 [6],(some 10,[2,10])] [⟨(some 10),none,[],[],fun _=>pt b1 (.cells #[Ix ((a.a0)+((s)*(b.a0))),Ix ((a.a1)+((s)*(b.a1))),Ix (a.a2),Ix (a.a3)] 44)⟩] [(7,.int .i64 (1)),(3,pp b1 0),(2,Ix (s)),(4,pp b2 0),(6,pp b3 0),(8,.int .i64 (1))] [2,1,3,4,5] ⟨rfl,rfl,rfl,rfl,rfl,rfl,trivial⟩ ⟨?_,?_,?_,?_,?_,?_,?_,?_,?_,?_,?_,trivial⟩ ?_
 ·rintro f M-⟨i0,-⟩
  exact aT aU
 ·rintro f M ⟨k0,-⟩ ⟨i0,-⟩
  exact gO (aA (d:=11) (aA (d:=3) rfl i0) k0) rfl (bF (b:=b1) (o:=0) (k:=1) rfl rfl qY.ok (by decide)) (.refl _)
 ·rintro f M ⟨k0,-⟩-
  exact aT (cY 0)
 ·rintro f M-⟨i0,-⟩
  exact aT aU
 ·rintro f M-⟨i0,-⟩
  exact aT aU
 ·rintro f M ⟨k0,-⟩ ⟨i0,-⟩
  exact gO (aA (d:=15) (aA (d:=4) rfl i0) k0) rfl (bF (b:=b2) (o:=0) (k:=1) rfl rfl qY.ok (by decide)) (.refl _)
 ·rintro f M ⟨k0,-⟩-
  exact aT (cY 0)
 ·rintro f M ⟨k0,k1,-⟩-
  exact aT otm
 ·rintro f M ⟨k0,k1,-⟩-
  exact aT rF
 ·rintro f M ⟨k0,-⟩ ⟨i0,-⟩
  exact gO (aA (d:=11) (aA (d:=3) rfl i0) k0) rfl (bF (b:=b1) (o:=0) (k:=1) rfl rfl qY.ok (by decide)) (.refl _)
 ·rintro f M ⟨k0,k1,-⟩-
  refine dL (aA (d:=19) (aA (d:=20) rfl k0) k1) ?_
  refine lu (mS 0 (#[Ix ((a.a0)+((s)*(b.a0))),Ix ((a.a1)+((s)*(b.a1))),Ix (a.a2),Ix (a.a3)])) (aH ?_)
  exact bC (aA (d:=19) (aA (d:=20) rfl k0) k1) trivial (aB 0 rfl)
 rintro fa5 ⟨-,-,-,-,-,-,-,-,-,-,-,-⟩ ⟨j0,j1,j2,j3,j4,-⟩
 refine jD ?_
 refine aD (d:=2) j0 (aD (d:=3) j1 (aD (d:=4) j2 (aD (d:=6) j3 (aD (d:=8) j4 (aP (bA (aC ?_)))))))
 refine lE rF (lE aU (aH (bG (eH 2 (bD (lE gN (aN (aL (dN rfl (eB (aL (aJ (bD (lE aU (lE bN (aN ?_))))))))))))))))
 refine jS [sv 11 (.int .i64 (2)) [] [] [0],sv 12 (pp b1 2) [0] [0] [1],sv 13 (Ix (a.a2)) [0,1] [1] [],sv 14 (Ix (s)) [] [] [2],sv 15 (.int .i64 (2)) [] [] [0],sv 16 (pp b2 2) [4] [4] [3],sv 17 (Ix (b.a2)) [4,5] [5] [],sv 18 (Ix ((s)*(b.a2))) [3,4,5,6] [3,6] [],sv 19 (Ix ((a.a2)+((s)*(b.a2)))) (List.range 8) [2,7] [],sv 20 (pp b1 2) (List.range 9) [0] [1],⟨(List.range 10),[9,8],[],[],fun _=>True⟩] [u0,u1 [6],(some 10,[2,10])] [⟨(some 10),none,[],[],fun _=>pt b1 (.cells #[Ix ((a.a0)+((s)*(b.a0))),Ix ((a.a1)+((s)*(b.a1))),Ix ((a.a2)+((s)*(b.a2))),Ix (a.a3)] 44)⟩] [(7,.int .i64 (2)),(3,pp b1 0),(2,Ix (s)),(4,pp b2 0),(6,pp b3 0),(8,.int .i64 (2))] [2,1,3,4,5] ⟨rfl,rfl,rfl,rfl,rfl,rfl,trivial⟩ ⟨?_,?_,?_,?_,?_,?_,?_,?_,?_,?_,?_,trivial⟩ ?_
 ·rintro f M-⟨i0,-⟩
  exact aT aU
 ·rintro f M ⟨k0,-⟩ ⟨i0,-⟩
  exact gO (aA (d:=11) (aA (d:=3) rfl i0) k0) rfl (bF (b:=b1) (o:=0) (k:=2) rfl rfl qY.ok (by decide)) (.refl _)
 ·rintro f M ⟨k0,-⟩-
  exact aT (cY 0)
 ·rintro f M-⟨i0,-⟩
  exact aT aU
 ·rintro f M-⟨i0,-⟩
  exact aT aU
 ·rintro f M ⟨k0,-⟩ ⟨i0,-⟩
  exact gO (aA (d:=15) (aA (d:=4) rfl i0) k0) rfl (bF (b:=b2) (o:=0) (k:=2) rfl rfl qY.ok (by decide)) (.refl _)
 ·rintro f M ⟨k0,-⟩-
  exact aT (cY 0)
 ·rintro f M ⟨k0,k1,-⟩-
  exact aT otm
 ·rintro f M ⟨k0,k1,-⟩-
  exact aT rF
 ·rintro f M ⟨k0,-⟩ ⟨i0,-⟩
  exact gO (aA (d:=11) (aA (d:=3) rfl i0) k0) rfl (bF (b:=b1) (o:=0) (k:=2) rfl rfl qY.ok (by decide)) (.refl _)
 ·rintro f M ⟨k0,k1,-⟩-
  refine dL (aA (d:=19) (aA (d:=20) rfl k0) k1) ?_
  refine lu (mS 0 (#[Ix ((a.a0)+((s)*(b.a0))),Ix ((a.a1)+((s)*(b.a1))),Ix ((a.a2)+((s)*(b.a2))),Ix (a.a3)])) (aH ?_)
  exact bC (aA (d:=19) (aA (d:=20) rfl k0) k1) trivial (aB 0 rfl)
 rintro fa6 ⟨-,-,-,-,-,-,-,-,-,-,-,-⟩ ⟨j0,j1,j2,j3,j4,-⟩
 refine jD ?_
 refine aD (d:=2) j0 (aD (d:=3) j1 (aD (d:=4) j2 (aD (d:=6) j3 (aD (d:=8) j4 (aP (bA (aC ?_)))))))
 refine lE rF (lE aU (aH (bG (eH 1 (bD (lE gN (aN (aL (dN rfl (eB (aL (aJ (bD (lE aU (lE bN (aN ?_))))))))))))))))
 refine jS [sv 11 (.int .i64 (3)) [] [] [0],sv 12 (pp b1 3) [0] [0] [1],sv 13 (Ix (a.a3)) [0,1] [1] [],sv 14 (Ix (s)) [] [] [2],sv 15 (.int .i64 (3)) [] [] [0],sv 16 (pp b2 3) [4] [4] [3],sv 17 (Ix (b.a3)) [4,5] [5] [],sv 18 (Ix ((s)*(b.a3))) [3,4,5,6] [3,6] [],sv 19 (Ix ((a.a3)+((s)*(b.a3)))) (List.range 8) [2,7] [],sv 20 (pp b1 3) (List.range 9) [0] [1],⟨(List.range 10),[9,8],[],[],fun _=>True⟩] [u0,u1 [6],(some 10,[2,10])] [⟨(some 10),none,[],[],fun _=>pt b1 (.cells #[Ix ((a.a0)+((s)*(b.a0))),Ix ((a.a1)+((s)*(b.a1))),Ix ((a.a2)+((s)*(b.a2))),Ix ((a.a3)+((s)*(b.a3)))] 44)⟩] [(7,.int .i64 (3)),(3,pp b1 0),(2,Ix (s)),(4,pp b2 0),(6,pp b3 0),(8,.int .i64 (3))] [2,1,3,4,5] ⟨rfl,rfl,rfl,rfl,rfl,rfl,trivial⟩ ⟨?_,?_,?_,?_,?_,?_,?_,?_,?_,?_,?_,trivial⟩ ?_
 ·rintro f M-⟨i0,-⟩
  exact aT aU
 ·rintro f M ⟨k0,-⟩ ⟨i0,-⟩
  exact gO (aA (d:=11) (aA (d:=3) rfl i0) k0) rfl (bF (b:=b1) (o:=0) (k:=3) rfl rfl qY.ok (by decide)) (.refl _)
 ·rintro f M ⟨k0,-⟩-
  exact aT (cY 0)
 ·rintro f M-⟨i0,-⟩
  exact aT aU
 ·rintro f M-⟨i0,-⟩
  exact aT aU
 ·rintro f M ⟨k0,-⟩ ⟨i0,-⟩
  exact gO (aA (d:=15) (aA (d:=4) rfl i0) k0) rfl (bF (b:=b2) (o:=0) (k:=3) rfl rfl qY.ok (by decide)) (.refl _)
 ·rintro f M ⟨k0,-⟩-
  exact aT (cY 0)
 ·rintro f M ⟨k0,k1,-⟩-
  exact aT otm
 ·rintro f M ⟨k0,k1,-⟩-
  exact aT rF
 ·rintro f M ⟨k0,-⟩ ⟨i0,-⟩
  exact gO (aA (d:=11) (aA (d:=3) rfl i0) k0) rfl (bF (b:=b1) (o:=0) (k:=3) rfl rfl qY.ok (by decide)) (.refl _)
 ·rintro f M ⟨k0,k1,-⟩-
  refine dL (aA (d:=19) (aA (d:=20) rfl k0) k1) ?_
  refine lu (mS 0 (#[Ix ((a.a0)+((s)*(b.a0))),Ix ((a.a1)+((s)*(b.a1))),Ix ((a.a2)+((s)*(b.a2))),Ix ((a.a3)+((s)*(b.a3)))])) (aH ?_)
  exact bC (aA (d:=19) (aA (d:=20) rfl k0) k1) trivial (aB 0 rfl)
 rintro fa7 ⟨-,-,-,-,-,-,-,-,-,-,-,-⟩ ⟨j0,j1,j2,j3,j4,-⟩
 refine jD ?_
 refine aD (d:=2) j0 (aD (d:=3) j1 (aD (d:=4) j2 (aD (d:=6) j3 (aD (d:=8) j4 (aP (bA (aC ?_)))))))
 refine lE rF (lE aU (aH (bG (eH 0 (bD (lE gN (aN (aL (cR rfl (cK (aF (aF (cL (kM (lE (dK 2) ?_)))))))))))))))
 refine lu (mS 0 (#[Ix ((a.a0)+((s)*(b.a0))),Ix ((a.a1)+((s)*(b.a1))),Ix ((a.a2)+((s)*(b.a2))),Ix ((a.a3)+((s)*(b.a3)))])) (aN ?_)
 refine aV ?_
 refine gK (m:=[.agg #[Ix ((a.a0)+((s)*(b.a0))),Ix ((a.a1)+((s)*(b.a1))),Ix ((a.a2)+((s)*(b.a2))),Ix ((a.a3)+((s)*(b.a3)))]]) Tryz.results108 ⟨bS tt0.ok rfl (cD 0 rfl rfl) rfl,trivial⟩ rfl ?_
 intro w hw
 exact⟨rfl,aG [false,false,false] rfl hw⟩
end Go.Proofs
namespace Go.Td
open Go.Sl
def KAct.plain(x:KAct):Bool:=decide ((x.kind.toNat:Int)=1)||decide ((x.kind.toNat:Int)=2)||decide ((x.kind.toNat:Int)=4)||decide ((x.kind.toNat:Int)=7)
def KAct.formed(x:KAct):Bool:=
 if x.plain then fE x.owner&&decide (x.other=0)&&decide (x.hold=0)&&x.a.within
 else if(x.kind.toNat:Int)=3 then fE x.owner&&fE x.other&&decide (x.owner≠x.other)&&decide (x.hold=0)&&x.a.within
 else if(x.kind.toNat:Int)=5 then decide (x.owner=0)&&decide (x.other=0)&&decide (1≤x.hold)&&decide (x.a=zeroA)
 else if(x.kind.toNat:Int)=6 then decide (x.owner=0)&&fE x.other&&decide (1≤x.hold)&&decide (x.a=zeroA)
 else false
theorem aBr{α:Type}{R:Rp α}{h:bQ}{a:Option Addr}{xs:List α}(he:dH R h a xs)(hn:a.isNone=true):xs=[]:=by
 cases xs with
 |nil=>rfl
 |cons x xs=>rw[(he 0 x rfl).1]at hn;cases hn
def cO(au nu:Int)(xs:List KAct):Bool:=decide (1≤au)&&decide (au≤64)&&decide (1≤nu)&&decide (nu≤1099511627776)&&decide (1≤(xs.length:Int))&&decide ((xs.length:Int)≤16)&& !xs.any (fun z=> !z.formed)
theorem aCh{α:Type}{xs ys:List α}{k:Nat}(h1:xs.length≤k)(h2:ys.length≤k)(h:xs.take k=ys.take k):xs=ys:=by
 rwa [List.take_of_length_le h1,List.take_of_length_le h2]at h
theorem aLs{α:Type}{xs ys:List α}{k:Nat}{x y:α}(h:xs=ys)(hx:xs[k]? =some x)(hy:ys[k]? =some y):x=y:=by
 subst h;rw[hx]at hy;injection hy
theorem aCi{α:Type}{xs ys:List α}{k:Nat}{x y:α}(hx:xs[k]? =some x)(hy:ys[k]? =some y)(e:x=y)(h:xs.take k=ys.take k):xs.take (k+1)=ys.take (k+1):=by
 rw[List.take_add_one,List.take_add_one,hx,hy,h,e]
end Go.Td
namespace Go.Proofs
open Go Go.Sl Go.Td
instance tt4:FldC Tryz.prog 47 0 0 1 false:={}
instance tt5:TyC Tryz.prog 5 false 1:={}
instance tt6:FldC Tryz.prog 47 1 1 1 false:={}
instance tt7:CfC Tryz.prog 101:={}
instance tt8:FldC Tryz.prog 47 2 2 1 false:={}
instance tt9:FldC Tryz.prog 47 3 3 1 false:={}
instance tt10:FldC Tryz.prog 47 4 4 4 true:={}
instance bCz:CfC Tryz.prog 102:={}
theorem xM:zC Tryz.prog 10000 44=some [.int .i64,.int .i64,.int .i64,.int .i64]:=by kernel_rfl
theorem xN:gM Tryz.prog 44=true:=by kernel_rfl
theorem xO:Tryz.prog.eqGuardType Tryz.prog.depth 44=false:=by kernel_rfl
instance bIy:UndC Tryz.prog 30 47:={}
theorem wR:lY Tryz.prog 30 47 8=true:=by kernel_rfl
instance aOr:TyC Tryz.prog 47 true 8:={}
instance tt18:CfC Tryz.prog 100:={}
instance tt19:CfC Tryz.prog 56:={}
instance tt20:FldC Tryz.prog 80 0 0 1 false:={}
instance tt21:FldC Tryz.prog 80 1 1 1 false:={}
instance tt22:FldC Tryz.prog 80 2 2 1 false:={}
instance tt23:TyC Tryz.prog 30 false 1:={}
instance bIz:CfC Tryz.prog 54:={}
theorem bJa:zC Tryz.prog 10000 47=some [.int .u8,.int .i64,.int .i64,.int .i64,.int .i64,.int .i64,.int .i64,.int .i64]:=by kernel_rfl
theorem bJb:gM Tryz.prog 47=true:=by kernel_rfl
theorem bJc:Tryz.prog.eqGuardType Tryz.prog.depth 47=false:=by kernel_rfl
instance bJd:UndC Tryz.prog 35 3:={}
theorem rY:lY Tryz.prog 35 3 1=true:=by kernel_rfl
theorem bGs:vR Tryz.prog 47 8 64=true:=by kernel_rfl
theorem aYs:vR Tryz.prog 3 1 8=true:=by kernel_rfl
theorem aHt(β:Base)(w:World)(hw:St β [] w)(x:KAct):oP Tryz.prog 56 #[.agg #[Bx (x.kind),Ix (x.owner),Ix (x.other),Ix (x.hold),Ix (x.a.a0),Ix (x.a.a1),Ix (x.a.a2),Ix (x.a.a3)]] β w (.bool x.formed):=by
 refine enter (n:=99) Tryz.func56 rfl Tryz.ntmps56 rfl ?_ hw
 refine bD (mL fun b1=> ?_)
 refine lE dP (eY ?_)
 refine lv (v:= .agg #[.int .i64 (0),.int .i64 (0),.int .i64 (0),.int .i64 (0)]) (eQ tt3.ok qY.ok (vs:=[]) (cells:= #[.int .i64 (0),.int .i64 (0),.int .i64 (0),.int .i64 (0)]) rfl rfl) ?_
 refine gB fun b2=>lu (mS 0 (#[.int .i64 (0),.int .i64 (0),.int .i64 (0),.int .i64 (0)])) (aN (eR (aC (lE aY (lE (cY 1) (aN (aJ ?_)))))))
 refine gL (fun(f:Fm) (L:List bU)=>∃(jn:Bool),(f 1=pp b1 0∧f 3=pp b2 0∧f 6=Bx (x.kind)∧f 7= .bool (jn))∧L=[pt b2 (.cells #[.int .i64 (0),.int .i64 (0),.int .i64 (0),.int .i64 (0)] 44),pt b1 (.cells #[Bx (x.kind),Ix (x.owner),Ix (x.other),Ix (x.hold),Ix (x.a.a0),Ix (x.a.a1),Ix (x.a.a2),Ix (x.a.a3)] 47)]∧(jn=x.plain)) ?_ ?_
 ·refine bD (lE fD (lE dP (aN (cN _ rfl (fun hc3=> ?_) (fun hc3=> ?_)))))
  ·refine cG ?_
   exact bG ⟨decide (((x.kind).toNat:Int)=(1:Int)),⟨rfl,rfl,rfl,rfl⟩,rfl,(by simp_all [KAct.plain])⟩
  refine bD (lE fD (lE dP (aN (cN _ rfl (fun hc4=> ?_) (fun hc4=> ?_)))))
  ·refine cG ?_
   exact bG ⟨decide (((x.kind).toNat:Int)=(2:Int)),⟨rfl,rfl,rfl,rfl⟩,rfl,(by simp_all [KAct.plain])⟩
  refine bD (lE fD (lE dP (aN (cN _ rfl (fun hc5=> ?_) (fun hc5=> ?_)))))
  ·refine cG ?_
   exact bG ⟨decide (((x.kind).toNat:Int)=(4:Int)),⟨rfl,rfl,rfl,rfl⟩,rfl,(by simp_all [KAct.plain])⟩
  refine aC (lE fD (lE dP (aH ?_)))
  exact bG ⟨decide (((x.kind).toNat:Int)=(7:Int)),⟨rfl,rfl,rfl,rfl⟩,rfl,(by simp_all [KAct.plain])⟩
 rintro f0 L0 ⟨jn,⟨hs1,hs3,hs6,hs7⟩,hL,hjn⟩
 subst L0
 refine bJ 1 hs1 (bJ 3 hs3 (bJ 6 hs6 (bJ 7 hs7 (fH (jn) rfl (fun hc6=> ?_) (fun hc6=> ?_)))))
 ·refine bD (lE aY (lE (cY 1) (gI gH (fun w β1 sb kn hw1=>uY β1 w hw1 (x.owner)) ?_)))
  refine gF (fE x.owner) (decide ((x.other)=(0:Int))) rfl (fun hb7 hk7=> ?_) (fun z8 z9 z10=> ?_)
  ·refine gE aY (gE (cY 1) (gE fD (lE eF ?_)))
   exact hk7 _ _ _
  refine gF ((fE x.owner)&&(decide ((x.other)=(0:Int)))) (decide ((x.hold)=(0:Int))) rfl (fun hb11 hk11=> ?_) (fun z12 z13 z14=> ?_)
  ·refine gE aY (gE (cY 1) (gE fD (lE eF ?_)))
   exact hk11 _ _ _
  refine gF (((fE x.owner)&&(decide ((x.other)=(0:Int))))&&(decide ((x.hold)=(0:Int)))) x.a.within rfl (fun hb15 hk15=> ?_) (fun z16 z17 z18=> ?_)
  ·refine gE aY (gE (dK 1) (eM rfl rfl rfl rfl rfl (cT (vs:=[.agg (eK x.a)]) bCz.ok rfl rfl) ?_))
   intro w hw
   obtain⟨β1,sb,kn,hw1,back⟩:=St.frame_all hw
   refine(pQ β1 w hw1 x.a).mono ?_
   rintro e w' ⟨rfl,hw'⟩
   refine⟨_,rfl,_,back _ _ hw',?_⟩
   refine lE eF ?_
   exact hk15 _ _ _
  refine lE dP (aN (aV (aR (aI (dJ Tryz.results56 rfl ?_)))))
  intro w hw
  exact⟨congrArg (fun b:Bool=>Ending.returned (.bool b)) (show((((fE x.owner)&&(decide ((x.other)=(0:Int))))&&(decide ((x.hold)=(0:Int))))&&x.a.within)=x.formed by unfold KAct.formed;simp_all),aG [false,false] rfl hw⟩
 refine bD (lE fD (lE dP (aN (cN _ rfl (fun hc19=> ?_) (fun hc19=> ?_)))))
 ·refine bD (lE aY (lE (cY 1) (gI gH (fun w β1 sb kn hw1=>uY β1 w hw1 (x.owner)) ?_)))
  refine gF (fE x.owner) (fE x.other) rfl (fun hb20 hk20=> ?_) (fun z21 z22 z23=> ?_)
  ·refine gE aY (gE (cY 1) (eM rfl rfl rfl rfl rfl (cT (vs:=[Ix (x.other)]) tt7.ok rfl rfl) ?_))
   intro w hw
   obtain⟨β1,sb,kn,hw1,back⟩:=St.frame_all hw
   refine(uY β1 w hw1 (x.other)).mono ?_
   rintro e w' ⟨rfl,hw'⟩
   refine⟨_,rfl,_,back _ _ hw',?_⟩
   refine lE eF ?_
   exact hk20 _ _ _
  refine oL ((fE x.owner)&&(fE x.other)) (decide ((x.owner)≠(x.other))) rfl (fun hb24 hk24=> ?_) (fun z25 z26 z27 z28 z29=> ?_)
  ·refine gE aY (gE (cY 1) (gE aY (gE (cY 1) (gE lO (lE eF ?_)))))
   exact hk24 _ _ _ _ _
  refine gF (((fE x.owner)&&(fE x.other))&&(decide ((x.owner)≠(x.other)))) (decide ((x.hold)=(0:Int))) rfl (fun hb30 hk30=> ?_) (fun z31 z32 z33=> ?_)
  ·refine gE aY (gE (cY 1) (gE fD (lE eF ?_)))
   exact hk30 _ _ _
  refine gF ((((fE x.owner)&&(fE x.other))&&(decide ((x.owner)≠(x.other))))&&(decide ((x.hold)=(0:Int)))) x.a.within rfl (fun hb34 hk34=> ?_) (fun z35 z36 z37=> ?_)
  ·refine gE aY (gE (dK 1) (eM rfl rfl rfl rfl rfl (cT (vs:=[.agg (eK x.a)]) bCz.ok rfl rfl) ?_))
   intro w hw
   obtain⟨β1,sb,kn,hw1,back⟩:=St.frame_all hw
   refine(pQ β1 w hw1 x.a).mono ?_
   rintro e w' ⟨rfl,hw'⟩
   refine⟨_,rfl,_,back _ _ hw',?_⟩
   refine lE eF ?_
   exact hk34 _ _ _
  refine lE dP (aN (aV (aR (aI (dJ Tryz.results56 rfl ?_)))))
  intro w hw
  exact⟨congrArg (fun b:Bool=>Ending.returned (.bool b)) (show(((((fE x.owner)&&(fE x.other))&&(decide ((x.owner)≠(x.other))))&&(decide ((x.hold)=(0:Int))))&&x.a.within)=x.formed by unfold KAct.formed;simp_all),aG [false,false] rfl hw⟩
 refine bD (lE fD (lE dP (aN (cN _ rfl (fun hc38=> ?_) (fun hc38=> ?_)))))
 ·refine bD (lE aY (lE (cY 1) (lE fD ?_)))
  refine gF (decide ((x.owner)=(0:Int))) (decide ((x.other)=(0:Int))) rfl (fun hb39 hk39=> ?_) (fun z40 z41 z42=> ?_)
  ·have hb39p:=of_decide_eq_true hb39
   refine gE aY (gE (cY 1) (gE fD (lE eF ?_)))
   exact hk39 _ _ _
  refine gF ((decide ((x.owner)=(0:Int)))&&(decide ((x.other)=(0:Int)))) (decide ((1:Int)≤(x.hold))) rfl (fun hb43 hk43=> ?_) (fun z44 z45 z46=> ?_)
  ·refine gE aY (gE (cY 1) (gE oge (lE eF ?_)))
   exact hk43 _ _ _
  refine tM (((decide ((x.owner)=(0:Int)))&&(decide ((x.other)=(0:Int))))&&(decide ((1:Int)≤(x.hold)))) (decide (x.a=zeroA)) rfl (fun hb47 hk47=> ?_) (fun z48 z49 z50 z51=> ?_)
  ·refine gE aY (gE (dK 1) (gE (dK 0) ?_))
   refine cU (v:= .bool (decide (x.a=zeroA))) rfl rfl rfl rfl rfl (qF (xs:=oT x.a) (ys:=oT zeroA) xM xN xO rfl rfl rfl rfl (kY (x:=x.a) (y:=zeroA))) ?_
   refine lE eF ?_
   exact hk47 _ _ _ _
  refine lE dP (aN (aV (aR (aI (dJ Tryz.results56 rfl ?_)))))
  intro w hw
  exact⟨congrArg (fun b:Bool=>Ending.returned (.bool b)) (show((((decide ((x.owner)=(0:Int)))&&(decide ((x.other)=(0:Int))))&&(decide ((1:Int)≤(x.hold))))&&(decide (x.a=zeroA)))=x.formed by unfold KAct.formed;simp_all),aG [false,false] rfl hw⟩
 refine bD (lE fD (lE dP (aN (cN _ rfl (fun hc52=> ?_) (fun hc52=> ?_)))))
 ·refine bD (lE aY (lE (cY 1) (lE fD (gF (decide ((x.owner)=(0:Int))) (fE x.other) rfl (fun hb53 hk53=> ?_) (fun z54 z55 z56=> ?_)))))
  ·have hb53p:=of_decide_eq_true hb53
   refine gE aY (gE (cY 1) (eM rfl rfl rfl rfl rfl (cT (vs:=[Ix (x.other)]) tt7.ok rfl rfl) ?_))
   intro w hw
   obtain⟨β1,sb,kn,hw1,back⟩:=St.frame_all hw
   refine(uY β1 w hw1 (x.other)).mono ?_
   rintro e w' ⟨rfl,hw'⟩
   refine⟨_,rfl,_,back _ _ hw',?_⟩
   refine lE eF ?_
   exact hk53 _ _ _
  refine gF ((decide ((x.owner)=(0:Int)))&&(fE x.other)) (decide ((1:Int)≤(x.hold))) rfl (fun hb57 hk57=> ?_) (fun z58 z59 z60=> ?_)
  ·refine gE aY (gE (cY 1) (gE oge (lE eF ?_)))
   exact hk57 _ _ _
  refine tM (((decide ((x.owner)=(0:Int)))&&(fE x.other))&&(decide ((1:Int)≤(x.hold)))) (decide (x.a=zeroA)) rfl (fun hb61 hk61=> ?_) (fun z62 z63 z64 z65=> ?_)
  ·refine gE aY (gE (dK 1) (gE (dK 0) ?_))
   refine cU (v:= .bool (decide (x.a=zeroA))) rfl rfl rfl rfl rfl (qF (xs:=oT x.a) (ys:=oT zeroA) xM xN xO rfl rfl rfl rfl (kY (x:=x.a) (y:=zeroA))) ?_
   refine lE eF ?_
   exact hk61 _ _ _ _
  refine lE dP (aN (aV (aR (aI (dJ Tryz.results56 rfl ?_)))))
  intro w hw
  exact⟨congrArg (fun b:Bool=>Ending.returned (.bool b)) (show((((decide ((x.owner)=(0:Int)))&&(fE x.other))&&(decide ((1:Int)≤(x.hold))))&&(decide (x.a=zeroA)))=x.formed by unfold KAct.formed;simp_all),aG [false,false] rfl hw⟩
 refine cG (aP (kM (lE dP (aN (aV (dJ Tryz.results56 rfl ?_))))))
 intro w hw
 exact⟨congrArg (fun b:Bool=>Ending.returned (.bool b)) (show false=x.formed by unfold KAct.formed;simp_all),aG [false,false] rfl hw⟩
theorem aNg(β:Base)(w:World)(hw:St β [] w)(v fn:Value)(xs:List KAct)(hs:Sl cJ.R β.heap v xs)(p:KAct→Bool)(hfn:FnV Tryz.prog β fn (fun z:KAct=>[.agg #[Bx (z.kind),Ix (z.owner),Ix (z.other),Ix (z.hold),Ix (z.a.a0),Ix (z.a.a1),Ix (z.a.a2),Ix (z.a.a3)]]) (· ∈xs) (fun z=> .bool (p z))):oP Tryz.prog 100 #[v,fn] β w (Ix (aIh p xs)):=by
 obtain⟨va,vc,rfl,vl,vm,ve⟩:=hs.get
 obtain⟨gg,fst,cap,rfl,hcf,hf⟩:=hfn
 refine enter (n:=19) Tryz.func100 rfl Tryz.ntmps100 rfl ?_ hw
 refine bD (lE bN (aN (eR (aC (lE fL (lE gY (lE aU (aN (aJ ?_)))))))))
 refine cZ (fun(k:Nat) f L=>(f 0=sB va xs (vc)∧f 1= .func (.func gg) fst.toArray cap.toArray∧f 7=Nx (xs.length)∧f 8=Nx (k))∧L=[]∧(k≤xs.length∧∀y∈xs.take k,p y=false)) (fun k=>xs.length-k) 0 ?_ ?_
 ·exact⟨⟨rfl,rfl,rfl,rfl⟩,rfl,⟨by omega,fun y hy=>by simp at hy⟩⟩
 rintro k f0 L0 ⟨⟨hs0,hs1,hs7,hs8⟩,hL,⟨hk,hp⟩⟩
 subst L0
 refine bJ 0 hs0 (bJ 1 hs1 (bJ 7 hs7 (bJ 8 hs8 (bD (lE gN (aN (aL (cN _ rfl (fun hc1=> ?_) (fun hc1=> ?_)))))))))
 ·refine eB (aL (aJ (bD (lE aU (lE bN (eY (lE omf (lE fL (lE aU ?_)))))))))
  obtain⟨x2,hx2⟩:=kX xs k (by omega)
  obtain⟨ha4,cs5,hc6,rfl⟩:=ve _ _ hx2
  refine lE (sW wR ha4) ?_
  refine lv (v:= .agg #[Bx (x2.kind),Ix (x2.owner),Ix (x2.other),Ix (x2.hold),Ix (x2.a.a0),Ix (x2.a.a1),Ix (x2.a.a2),Ix (x2.a.a3)]) (fV aOr.ok rfl (kB hc6) rfl) ?_
  refine aX rfl rfl rfl (uJ (fst:=fst) (cap:=cap) (vs:=[.agg #[Bx (x2.kind),Ix (x2.owner),Ix (x2.other),Ix (x2.hold),Ix (x2.a.a0),Ix (x2.a.a1),Ix (x2.a.a2),Ix (x2.a.a3)]]) (all:=fst++[.agg #[Bx (x2.kind),Ix (x2.owner),Ix (x2.other),Ix (x2.hold),Ix (x2.a.a0),Ix (x2.a.a1),Ix (x2.a.a2),Ix (x2.a.a3)]]++cap) hcf rfl rfl rfl) ?_
  intro w hw
  obtain⟨β1,sb,kn,hw1,back⟩:=St.frame_all hw
  refine(hf β1 sb x2 (List.mem_of_getElem? hx2) w hw1).mono ?_
  rintro e w' ⟨rfl,hw'⟩
  refine⟨_,rfl,_,back _ _ hw',?_⟩
  refine aN (fH (p x2) rfl (fun hc8=> ?_) (fun hc8=> ?_))
  ·refine bD (lE aU (lE bN (aN (aV (aR (aI (aI (aR (aI (dJ Tryz.results100 rfl ?_))))))))))
   intro w hw
   exact⟨congrArg (fun z:Int=>Ending.returned (Ix z)) (aNf hx2 hc8 hp).symm,aG [] rfl hw⟩
  refine cG (aP (bA (aC (lv (v:=Nx (k+1)) (bO rfl rfl (cW (by omega) (by omega))) (lE aU (aH ?_))))))
  exact bG ⟨k+1,⟨⟨rfl,rfl,rfl,rfl⟩,rfl,⟨by omega,aRf hx2 hc8 hp⟩⟩,(show xs.length-(k+1)<xs.length-k from by omega)⟩
 refine cK (aF (aF (cL (kM (lE bN (aN (aV (dJ Tryz.results100 rfl ?_))))))))
 intro w hw
 exact⟨congrArg (fun z:Int=>Ending.returned (Ix z)) (aRg (by omega) hp).symm,aG [] rfl hw⟩
theorem aDg(β:Base)(w:World)(hw:St β [] w)(v fn:Value)(xs:List KAct)(hs:Sl cJ.R β.heap v xs)(p:KAct→Bool)(hfn:FnV Tryz.prog β fn (fun z:KAct=>[.agg #[Bx (z.kind),Ix (z.owner),Ix (z.other),Ix (z.hold),Ix (z.a.a0),Ix (z.a.a1),Ix (z.a.a2),Ix (z.a.a3)]]) (· ∈xs) (fun z=> .bool (p z))):oP Tryz.prog 54 #[v,fn] β w (.bool (xs.any p)):=by
 refine enter (n:=9) Tryz.func54 rfl Tryz.ntmps54 rfl ?_ hw
 refine bD (lE dP (eY (lv cI (lv cI (gI gH (fun w β1 sb kn hw1=>aNg β1 w hw1 _ _ xs (Sl.mono _ _ _ _ _ sb hs) p (hfn.mono sb)) ?_)))))
 refine lE oge (lE dP (aN (aV (dJ Tryz.results54 rfl ?_))))
 intro w hw
 exact⟨congrArg Ending.returned (congrArg Value.bool (aWm p xs)),aG [] rfl hw⟩
theorem aQt(β:Base):FnV Tryz.prog β (.func (.func 55) #[] #[]) (fun z:KAct=>[.agg #[Bx (z.kind),Ix (z.owner),Ix (z.other),Ix (z.hold),Ix (z.a.a0),Ix (z.a.a1),Ix (z.a.a2),Ix (z.a.a3)]]) (fun _=>True) (fun z=> .bool (!z.formed)):=by
 refine⟨55,[],[],rfl,by kernel_rfl,fun β₁ sb0 z_ hz_ w hw=> ?_⟩
 obtain⟨x,hx⟩:∃x,x=z_:=⟨_,rfl⟩
 subst hx
 refine enter (n:=6) Tryz.func55 rfl Tryz.ntmps55 rfl ?_ hw
 refine bD (mL fun b1=> ?_)
 refine lE dP (eY (lE (dK 0) (gI gH (fun w β1 sb kn hw1=>aHt β1 w hw1 x) (lE mB (lE dP (aN (aV (dJ Tryz.results55 rfl ?_))))))))
 intro w hw
 exact⟨rfl,aG [false] rfl hw⟩
theorem qC(β:Base)(w:World)(hw:St β [] w)(au nu:Int)(v:Value)(xs:List KAct)(hs:Sl cJ.R β.heap v xs):oP Tryz.prog 34 #[.agg #[Ix au,Ix nu,v]] β w (.bool (cO au nu xs)):=by
 obtain⟨va,vc,rfl,vl,vm,ve⟩:=hs.get
 refine enter (n:=39) Tryz.func34 rfl Tryz.ntmps34 rfl ?_ hw
 refine bD (mL fun b1=> ?_)
 refine lE dP (eY (lE aY (lE (cY 0) (lE oge ?_))))
 refine gF (decide ((1:Int)≤(au))) (decide ((au)≤(64:Int))) rfl (fun hb2 hk2=> ?_) (fun z3 z4 z5=> ?_)
 ·have hb2p:=of_decide_eq_true hb2
  refine gE aY (gE (cY 0) (gE ole (lE eF ?_)))
  exact hk2 _ _ _
 refine gF ((decide ((1:Int)≤(au)))&&(decide ((au)≤(64:Int)))) (decide ((1:Int)≤(nu))) rfl (fun hb6 hk6=> ?_) (fun z7 z8 z9=> ?_)
 ·refine gE aY (gE (cY 0) (gE oge (lE eF ?_)))
  exact hk6 _ _ _
 refine gF (((decide ((1:Int)≤(au)))&&(decide ((au)≤(64:Int))))&&(decide ((1:Int)≤(nu)))) (decide ((nu)≤(1099511627776:Int))) rfl (fun hb10 hk10=> ?_) (fun z11 z12 z13=> ?_)
 ·refine gE aY (gE (cY 0) (gE ole (lE eF ?_)))
  exact hk10 _ _ _
 refine tM ((((decide ((1:Int)≤(au)))&&(decide ((au)≤(64:Int))))&&(decide ((1:Int)≤(nu))))&&(decide ((nu)≤(1099511627776:Int)))) (decide ((1:Int)≤((xs.length:Nat):Int))) rfl (fun hb14 hk14=> ?_) (fun z15 z16 z17 z18=> ?_)
 ·refine gE aY (gE (fQ 0) (gE gY (gE oge (lE eF ?_))))
  exact hk14 _ _ _ _
 refine tM (((((decide ((1:Int)≤(au)))&&(decide ((au)≤(64:Int))))&&(decide ((1:Int)≤(nu))))&&(decide ((nu)≤(1099511627776:Int))))&&(decide ((1:Int)≤((xs.length:Nat):Int)))) (decide (((xs.length:Nat):Int)≤(16:Int))) rfl (fun hb19 hk19=> ?_) (fun z20 z21 z22 z23=> ?_)
 ·refine gE aY (gE (fQ 0) (gE gY (gE ole (lE eF ?_))))
  exact hk19 _ _ _ _
 refine tM ((((((decide ((1:Int)≤(au)))&&(decide ((au)≤(64:Int))))&&(decide ((1:Int)≤(nu))))&&(decide ((nu)≤(1099511627776:Int))))&&(decide ((1:Int)≤((xs.length:Nat):Int))))&&(decide (((xs.length:Nat):Int)≤(16:Int)))) (!(xs.any (fun z=> !z.formed))) rfl (fun hb24 hk24=> ?_) (fun z25 z26 z27 z28=> ?_)
 ·refine gE aY (gE (fQ 0) (eM rfl rfl rfl rfl rfl (cT (vs:=[sB va xs (vc),.func (.func 55) #[] #[]]) bIz.ok rfl rfl) ?_))
  intro w hw
  obtain⟨β1,sb,kn,hw1,back⟩:=St.frame_all hw
  refine(aDg β1 w hw1 _ _ xs (Sl.mono _ _ _ _ _ sb (⟨⟨_,_,rfl,vl,vm,ve⟩⟩:Sl cJ.R _ _ xs)) (fun z=> !z.formed) (aWg (aQt _))).mono ?_
  rintro e w' ⟨rfl,hw'⟩
  refine⟨_,rfl,_,back _ _ hw',?_⟩
  refine gE mB (lE eF ?_)
  exact hk24 _ _ _ _
 refine lE dP (aN (aV (dJ Tryz.results34 rfl ?_)))
 intro w hw
 exact⟨congrArg (fun b:Bool=>Ending.returned (.bool b)) (show(((((((decide ((1:Int)≤(au)))&&(decide ((au)≤(64:Int))))&&(decide ((1:Int)≤(nu))))&&(decide ((nu)≤(1099511627776:Int))))&&(decide ((1:Int)≤((xs.length:Nat):Int))))&&(decide (((xs.length:Nat):Int)≤(16:Int))))&&(!(xs.any (fun z=> !z.formed))))=cO au nu xs by unfold cO;rfl),aG [false] rfl hw⟩
theorem aNc(β:Base)(w:World)(hw:St β [] w)(v u:Value)(xs ys:List KAct)(hs:Sl cJ.R β.heap v xs)(ht:Sl cJ.R β.heap u ys):oP Tryz.prog 35 #[v,u] β w (.bool (decide (xs=ys))):=by
 obtain⟨va,vc,rfl,vl,vm,ve⟩:=hs.get
 obtain⟨ua,uc,rfl,ul,um,ue⟩:=ht.get
 refine enter (n:=26) Tryz.func35 rfl Tryz.ntmps35 rfl ?_ hw
 refine bD (lE dP (aN (eR (aC (lE fL (lE gY (lE fL (lE gY (lE lO (aN (cN _ rfl (fun hc1=> ?_) (fun hc1=> ?_))))))))))))
 ·refine bD (lE dP (aN (aV (aI (dJ Tryz.results35 rfl ?_)))))
  intro w hw
  exact⟨congrArg (fun b:Bool=>Ending.returned (.bool b)) (decide_eq_false (fun q=>hc1 (by rw[q]))).symm,aG [] rfl hw⟩
 refine eB (eR (aC (lE fL (lE gY (lE aU (aN (aJ ?_)))))))
 refine cZ (fun(k:Nat) f L=>(f 0=sB va xs (vc)∧f 1=sB ua ys (uc)∧f 12=Nx (xs.length)∧f 13=Nx (k))∧L=[]∧(k≤xs.length∧xs.take k=ys.take k)) (fun k=>xs.length-k) 0 ?_ ?_
 ·exact⟨⟨rfl,rfl,rfl,rfl⟩,rfl,⟨by omega,rfl⟩⟩
 rintro k f0 L0 ⟨⟨hs0,hs1,hs12,hs13⟩,hL,⟨hk,hp⟩⟩
 subst L0
 refine bJ 0 hs0 (bJ 1 hs1 (bJ 12 hs12 (bJ 13 hs13 (bD (lE gN (aN (aL (cN _ rfl (fun hc2=> ?_) (fun hc2=> ?_)))))))))
 ·refine eB (aL (aJ (bD (lE aU (lE bN (aN (aL (gS (by kernel_rfl) (by kernel_rfl) (qE fL (qE aU ?_))))))))))
  obtain⟨x3,hx4⟩:=kX xs k (by omega)
  obtain⟨ha5,cs6,hc7,rfl⟩:=ve _ _ hx4
  refine qE (sW wR ha5) ?_
  refine dU (v:= .agg #[Bx (x3.kind),Ix (x3.owner),Ix (x3.other),Ix (x3.hold),Ix (x3.a.a0),Ix (x3.a.a1),Ix (x3.a.a2),Ix (x3.a.a3)]) rfl rfl rfl (fV aOr.ok rfl (kB hc7) rfl) ?_
  refine qE fL (qE aU ?_)
  obtain⟨x9,hx10⟩:=kX ys k (by omega)
  obtain⟨ha11,cs12,hc13,rfl⟩:=ue _ _ hx10
  refine qE (sW wR ha11) ?_
  refine dU (v:= .agg #[Bx (x9.kind),Ix (x9.owner),Ix (x9.other),Ix (x9.hold),Ix (x9.a.a0),Ix (x9.a.a1),Ix (x9.a.a2),Ix (x9.a.a3)]) rfl rfl rfl (fV aOr.ok rfl (kB hc13) rfl) ?_
  refine dU (v:= .bool (decide (¬(x3=x9)))) rfl rfl rfl (iA (xs:=xH x3) (ys:=xH x9) bJa bJb bJc rfl rfl rfl rfl (not_congr (aHq (x:=x3) (y:=x9)))) ?_
  refine lB (bA (cN _ rfl (fun hc15=> ?_) (fun hc15=> ?_)))
  ·refine bD (lE dP (aN (aV (aR (aI (aI (aR (aI (dJ Tryz.results35 rfl ?_)))))))))
   intro w hw
   exact⟨congrArg (fun b:Bool=>Ending.returned (.bool b)) (decide_eq_false (fun q=>hc15 (aLs q hx4 hx10))).symm,aG [] rfl hw⟩
  refine cG (aP (bA (aC (lv (v:=Nx (k+1)) (bO rfl rfl (cW (by omega) (by omega))) (lE aU (aH ?_))))))
  exact bG ⟨k+1,⟨⟨rfl,rfl,rfl,rfl⟩,rfl,⟨by omega,aCi hx4 hx10 (Decidable.not_not.1 hc15) hp⟩⟩,(show xs.length-(k+1)<xs.length-k from by omega)⟩
 refine cK (aF (aF (cL (kM (lE dP (aN (aV (dJ Tryz.results35 rfl ?_))))))))
 intro w hw
 exact⟨congrArg (fun b:Bool=>Ending.returned (.bool b)) (decide_eq_true (aCh (by omega) (by omega) hp)).symm,aG [] rfl hw⟩
theorem vK(β:Base)(w:World)(hw:St β [] w)(v u:Value)(xs ys:List Int)(hs:Sl aZ.R β.heap v xs)(ht:Sl aZ.R β.heap u ys):oP Tryz.prog 16 #[v,u] β w (.bool (decide (xs=ys))):=by
 obtain⟨va,vc,rfl,vl,vm,ve⟩:=hs.get
 obtain⟨ua,uc,rfl,ul,um,ue⟩:=ht.get
 refine enter (n:=26) Tryz.func16 rfl Tryz.ntmps16 rfl ?_ hw
 refine bD (lE dP (aN (eR (aC (lE fL (lE gY (lE fL (lE gY (lE lO (aN (cN _ rfl (fun hc1=> ?_) (fun hc1=> ?_))))))))))))
 ·refine bD (lE dP (aN (aV (aI (dJ Tryz.results16 rfl ?_)))))
  intro w hw
  exact⟨congrArg (fun b:Bool=>Ending.returned (.bool b)) (decide_eq_false (fun q=>hc1 (by rw[q]))).symm,aG [] rfl hw⟩
 refine eB (eR (aC (lE bN (aN (aJ ?_)))))
 refine cZ (fun(k:Nat) f L=>(f 0=sB va xs (vc)∧f 1=sB ua ys (uc)∧f 5=Nx (k))∧L=[]∧(k≤xs.length∧xs.take k=ys.take k)) (fun k=>xs.length-k) 0 ?_ ?_
 ·exact⟨⟨rfl,rfl,rfl⟩,rfl,⟨by omega,rfl⟩⟩
 rintro k f0 L0 ⟨⟨hs0,hs1,hs5⟩,hL,⟨hk,hp⟩⟩
 subst L0
 refine bJ 0 hs0 (bJ 1 hs1 (bJ 5 hs5 (eR (aC (lE aU (lE fL (lE gY (lE gN (aN (cN _ rfl (fun hc2=> ?_) (fun hc2=> ?_)))))))))))
 ·refine eB (aL (aJ (aL (gS (by kernel_rfl) (by kernel_rfl) (qE fL (qE aU ?_))))))
  obtain⟨x3,hx4⟩:=kX xs k (by omega)
  obtain⟨ha5,cs6,hc7,rfl⟩:=ve _ _ hx4
  refine qE (sW rY ha5) (dU (v:=Ix (x3)) rfl rfl rfl (bI tt2.ok rfl (kB hc7)) (qE fL (qE aU ?_)))
  obtain⟨x9,hx10⟩:=kX ys k (by omega)
  obtain⟨ha11,cs12,hc13,rfl⟩:=ue _ _ hx10
  refine qE (sW rY ha11) (dU (v:=Ix (x9)) rfl rfl rfl (bI tt2.ok rfl (kB hc13)) (qE lO (lB (bA ?_))))
  refine cN _ rfl (fun hc15=> ?_) (fun hc15=> ?_)
  ·refine bD (lE dP (aN (aV (aR (aI (aI (aR (aI (dJ Tryz.results16 rfl ?_)))))))))
   intro w hw
   exact⟨congrArg (fun b:Bool=>Ending.returned (.bool b)) (decide_eq_false (fun q=>hc15 (aLs q hx4 hx10))).symm,aG [] rfl hw⟩
  refine cG (aP (bA (aC (lE aU (lv (v:=Nx (k+1)) (bO rfl rfl (cW (by omega) (by omega))) (lE bN (aH ?_)))))))
  exact bG ⟨k+1,⟨⟨rfl,rfl,rfl⟩,rfl,⟨by omega,aCi hx4 hx10 (Decidable.not_not.1 hc15) hp⟩⟩,(show xs.length-(k+1)<xs.length-k from by omega)⟩
 refine cK (aF (aF (cL (kM (lE dP (aN (aV (dJ Tryz.results16 rfl ?_))))))))
 intro w hw
 exact⟨congrArg (fun b:Bool=>Ending.returned (.bool b)) (decide_eq_true (aCh (by omega) (by omega) hp)).symm,aG [] rfl hw⟩
theorem aMo(β:Base)(w:World)(hw:St β [] w)(v:Value)(xs:List KAct)(hs:Sl cJ.R β.heap v xs)(hn:xs.length≤1048576):Calls Tryz.prog 33 #[v] w fun r w'=>∃p c,r= .returned (sB p xs c)∧St β [aK cJ 47 p c xs] w':=by
 obtain⟨va,vc,rfl,vl,vm,ve⟩:=hs.get
 refine enter (n:=8) Tryz.func33 rfl Tryz.ntmps33 rfl ?_ hw
 refine bD (lE iO (aN (eR (aC (lE fL (lv (v:= .bool (va.isNone)) (qD (a:=va) rfl rfl bIy.ok) (aN ?_)))))))
 refine fH (va.isNone) rfl (fun hc1=> ?_) (fun hc1=> ?_)
 ·refine bD (lE iO (aN (aV (aI (dJ Tryz.results33 rfl ?_)))))
  intro w hw
  obtain rfl:=aBr ve hc1
  exact⟨none,0,rfl,(aG [] rfl hw).emp (eA _ _ _)⟩
 refine eB (bD (dA rfl rfl rfl (pG wR) ?_))
 rintro _ _ ⟨b2,rfl,rfl⟩
 refine lE fL (pE 0 (r':=aK cJ 47 (some ⟨b2,0,none⟩) 0 []) rfl (fun a h=>aDz (m:=0) (by decide) rfl a h) ?_)
 refine dA rfl rfl rfl (cF (F:=cJ) 0 wR bGs (p:=(some ⟨b2,0,none⟩)) (m:=0) (xs:=[]) (ys:=xs) (ao:=va) (k:=xs.length) (c:=vc) rfl rfl rfl rfl rfl (bH.of_base (dH.mono _ _ _) ve) (by first|omega|simp only[List.length_nil,List.length_cons,List.length_append,List.length_set];omega) (by first|omega|simp only[List.length_nil,List.length_cons,List.length_append,List.length_set];omega)) ?_
 rintro _ _ ⟨rp3,rc4,rfl,rfl⟩
 refine lE iO (aN (aV (dJ Tryz.results33 rfl ?_)))
 intro w hw
 exact⟨_,_,rfl,aG (L':=[aK cJ 47 rp3 rc4 xs]) [true] rfl hw⟩
theorem aMq(β:Base)(w:World)(hw:St β [] w)(v:Value)(xs:List Int)(hs:Sl aZ.R β.heap v xs)(hn:xs.length≤1048576):Calls Tryz.prog 57 #[v] w fun r w'=>∃p c,r= .returned (sB p xs c)∧St β [aK aZ 3 p c xs] w':=by
 obtain⟨va,vc,rfl,vl,vm,ve⟩:=hs.get
 refine enter (n:=8) Tryz.func57 rfl Tryz.ntmps57 rfl ?_ hw
 refine bD (lE iO (aN (eR (aC (lE fL (lv (v:= .bool (va.isNone)) (qD (a:=va) rfl rfl bJd.ok) (aN ?_)))))))
 refine fH (va.isNone) rfl (fun hc1=> ?_) (fun hc1=> ?_)
 ·refine bD (lE iO (aN (aV (aI (dJ Tryz.results57 rfl ?_)))))
  intro w hw
  obtain rfl:=aBr ve hc1
  exact⟨none,0,rfl,(aG [] rfl hw).emp (eA _ _ _)⟩
 refine eB (bD (dA rfl rfl rfl (pG rY) ?_))
 rintro _ _ ⟨b2,rfl,rfl⟩
 refine lE fL (pE 0 (r':=aK aZ 3 (some ⟨b2,0,none⟩) 0 []) rfl (fun a h=>aDz (m:=0) (by decide) rfl a h) ?_)
 refine dA rfl rfl rfl (cF (F:=aZ) 0 rY aYs (p:=(some ⟨b2,0,none⟩)) (m:=0) (xs:=[]) (ys:=xs) (ao:=va) (k:=xs.length) (c:=vc) rfl rfl rfl rfl rfl (bH.of_base (dH.mono _ _ _) ve) (by first|omega|simp only[List.length_nil,List.length_cons,List.length_append,List.length_set];omega) (by first|omega|simp only[List.length_nil,List.length_cons,List.length_append,List.length_set];omega)) ?_
 rintro _ _ ⟨rp3,rc4,rfl,rfl⟩
 refine lE iO (aN (aV (dJ Tryz.results57 rfl ?_)))
 intro w hw
 exact⟨_,_,rfl,aG (L':=[aK aZ 3 rp3 rc4 xs]) [true] rfl hw⟩
end Go.Proofs
