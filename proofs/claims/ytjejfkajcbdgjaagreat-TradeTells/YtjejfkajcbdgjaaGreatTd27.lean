/-
 The reference's amounts and purses: walked. Printed by a program of my own.
-/
import Derived.Test.YtjejfkajcbdgjaaGreatTdOpen
set_option linter.all false
set_option maxHeartbeats 4000000
namespace Go.Proofs
open Go Go.Sl Go.Td Go.Jn
instance sM:ArrC Tryz.prog 43 4 3 1:={}
instance tr1:TyC Tryz.prog 3 false 1:={}
instance tr2:ZerC Tryz.prog 43 (.agg #[.int .i64 (0),.int .i64 (0),.int .i64 (0),.int .i64 (0)]):={}
instance tr3:TyC Tryz.prog 43 true 4:={}
instance tr4:FldC Tryz.prog 120 0 0 1 false:={}
instance tr5:TyC Tryz.prog 5 false 1:={}
instance tr6:FldC Tryz.prog 120 1 1 1 false:={}
instance tr7:CfC Tryz.prog 97:={}
instance tr8:FldC Tryz.prog 120 2 2 1 false:={}
instance tr9:FldC Tryz.prog 120 3 3 1 false:={}
instance tr10:FldC Tryz.prog 120 4 4 4 true:={}
instance bEs:CfC Tryz.prog 98:={}
theorem aXx:yO Tryz.prog 10000 43=some [.int .i64,.int .i64,.int .i64,.int .i64]:=by kernel_rfl
theorem aXy:gC Tryz.prog 43=true:=by kernel_rfl
theorem aXz:Tryz.prog.eqGuardType Tryz.prog.depth 43=false:=by kernel_rfl
instance tr15:FldC Tryz.prog 62 0 0 1 false:={}
instance tr16:TyC Tryz.prog 58 false 1:={}
instance tr17:UndC Tryz.prog 58 128:={}
theorem zQ:mF Tryz.prog 58 128 5=true:=by kernel_rfl
instance tr19:FldC Tryz.prog 128 0 0 1 false:={}
instance tr20:FldC Tryz.prog 128 1 1 4 true:={}
instance tr21:ZerC Tryz.prog 62 (.agg #[.slice none 0 0,.slice none 0 0,.int .i64 (0),.int .i64 (0),.int .i64 (0),.int .i64 (0),.int .i64 (0),.slice none 0 0]):={}
theorem bEt:xP Tryz.prog 128 [(0,1),(1,4)]=true:=by kernel_rfl
instance aTr:ZerC Tryz.prog 128 (.agg #[.int .i64 (0),.int .i64 (0),.int .i64 (0),.int .i64 (0),.int .i64 (0)]):={}
theorem bCf:wS Tryz.prog 128 5 40=true:=by kernel_rfl
instance bHu:TyC Tryz.prog 128 true 5:={}
instance bHv:TyC Tryz.prog 62 true 8:={}
theorem rZ(β:Base)(w:World)(hw:St β [] w)(n:Int):oJ Tryz.prog 97 #[Ix n] β w (.bool (fA n)):=by
 refine enter (n:=9) Tryz.func97 rfl Tryz.ntmps97 rfl ?_ hw
 refine bE (lE dW (eY (lE aX (lE oge (yM (decide ((1:Int)≤(n))) (decide ((n)≤(65536:Int))) rfl (fun hb1 hk1=> ?_) (fun z2 z3=> ?_))))))
 ·have hb1p:=of_decide_eq_true hb1
  refine gE aX (gE ole (lE eC ?_))
  exact hk1 _ _
 refine lE dW (aN (aT (cZ Tryz.results97 rfl ?_)))
 intro w hw
 exact⟨rfl,aF [] rfl hw⟩
theorem kY(β:Base)(w:World)(hw:St β [] w)(a:KAm):oJ Tryz.prog 98 #[.agg (eI a)] β w (.bool a.within):=by
 refine enter (n:=18) Tryz.func98 rfl Tryz.ntmps98 rfl ?_ hw
 refine bE (mA fun b1=> ?_)
 refine lE dW (aN (eS (aC (lE bN (aN (aK (mJ 5 (eD 4 (eS (aC (lE aX (lE gH (aN (dL rfl (eF (aL (aK ?_)))))))))))))))))
 refine aL ?_
 rcases lI (a.a0)with hi0|hi0
 ·refine aC (lE aX (lv (v:=pp b1 0) (bG (b:=b1) (o:=0) (k:=0) rfl rfl sM.ok (by decide)) (lE (cQ 0) (lE gH ?_))))
  refine sR (decide ((a.a0)<(0:Int))) (decide ((2147483647:Int)<(a.a0))) rfl (fun hb2 hk2=> ?_) (fun z3 z4 z5 z6=> ?_)
  ·have hb2p:=of_decide_eq_false hb2
   refine gE aX (cL (v:=pp b1 0) rfl rfl rfl rfl rfl (bG (b:=b1) (o:=0) (k:=0) rfl rfl sM.ok (by decide)) (gE (cQ 0) (gE oG ?_)))
   refine lE dP ?_
   exact hk2 _ _ _ _
  refine aN (fE (((decide ((a.a0)<(0:Int)))||(decide ((2147483647:Int)<(a.a0))))) rfl (fun hc7=> ?_) (fun hc7=> ?_))
  ·rw[hi0.2]at hc7;cases hc7
  refine cD (aR (bD (aC (lE aX (lE qR (lE bN (aH (bI (eD 3 (eS (aC (lE aX (lE gH (aN (dL rfl (eF ?_))))))))))))))))
  refine aL (aK (aL ?_))
  rcases lI (a.a1)with hi1|hi1
  ·refine aC (lE aX (lv (v:=pp b1 1) (bG (b:=b1) (o:=0) (k:=1) rfl rfl sM.ok (by decide)) (lE (cQ 0) (lE gH ?_))))
   refine sR (decide ((a.a1)<(0:Int))) (decide ((2147483647:Int)<(a.a1))) rfl (fun hb8 hk8=> ?_) (fun z9 z10 z11 z12=> ?_)
   ·have hb8p:=of_decide_eq_false hb8
    refine gE aX (cL (v:=pp b1 1) rfl rfl rfl rfl rfl (bG (b:=b1) (o:=0) (k:=1) rfl rfl sM.ok (by decide)) (gE (cQ 0) (gE oG ?_)))
    refine lE dP ?_
    exact hk8 _ _ _ _
   refine aN (fE (((decide ((a.a1)<(0:Int)))||(decide ((2147483647:Int)<(a.a1))))) rfl (fun hc13=> ?_) (fun hc13=> ?_))
   ·rw[hi1.2]at hc13;cases hc13
   refine cD (aR (bD (aC (lE aX (lE qR (lE bN (aH (bI (eD 2 (eS (aC (lE aX (lE gH (aN (dL rfl (eF ?_))))))))))))))))
   refine aL (aK (aL ?_))
   rcases lI (a.a2)with hi2|hi2
   ·refine aC (lE aX (lv (v:=pp b1 2) (bG (b:=b1) (o:=0) (k:=2) rfl rfl sM.ok (by decide)) (lE (cQ 0) (lE gH ?_))))
    refine sR (decide ((a.a2)<(0:Int))) (decide ((2147483647:Int)<(a.a2))) rfl (fun hb14 hk14=> ?_) (fun z15 z16 z17 z18=> ?_)
    ·have hb14p:=of_decide_eq_false hb14
     refine gE aX (cL (v:=pp b1 2) rfl rfl rfl rfl rfl (bG (b:=b1) (o:=0) (k:=2) rfl rfl sM.ok (by decide)) (gE (cQ 0) (gE oG ?_)))
     refine lE dP ?_
     exact hk14 _ _ _ _
    refine aN (fE (((decide ((a.a2)<(0:Int)))||(decide ((2147483647:Int)<(a.a2))))) rfl (fun hc19=> ?_) (fun hc19=> ?_))
    ·rw[hi2.2]at hc19;cases hc19
    refine cD (aR (bD (aC (lE aX (lE qR (lE bN (aH (bI (eD 1 (eS (aC (lE aX (lE gH (aN (dL rfl (eF ?_))))))))))))))))
    refine aL (aK (aL ?_))
    rcases lI (a.a3)with hi3|hi3
    ·refine aC (lE aX (lv (v:=pp b1 3) (bG (b:=b1) (o:=0) (k:=3) rfl rfl sM.ok (by decide)) (lE (cQ 0) (lE gH ?_))))
     refine sR (decide ((a.a3)<(0:Int))) (decide ((2147483647:Int)<(a.a3))) rfl (fun hb20 hk20=> ?_) (fun z21 z22 z23 z24=> ?_)
     ·have hb20p:=of_decide_eq_false hb20
      refine gE aX (cL (v:=pp b1 3) rfl rfl rfl rfl rfl (bG (b:=b1) (o:=0) (k:=3) rfl rfl sM.ok (by decide)) (gE (cQ 0) (gE oG ?_)))
      refine lE dP ?_
      exact hk20 _ _ _ _
     refine aN (fE (((decide ((a.a3)<(0:Int)))||(decide ((2147483647:Int)<(a.a3))))) rfl (fun hc25=> ?_) (fun hc25=> ?_))
     ·rw[hi3.2]at hc25;cases hc25
     refine cD (aR (bD (aC (lE aX (lE qR (lE bN (aH (bI (eD 0 (eS (aC (lE aX (lE gH (aN (cY rfl (cM ?_))))))))))))))))
     refine aG (aG (cN (kM (lE dW (aN (aT (cZ Tryz.results98 rfl ?_)))))))
     intro w hw
     exact⟨by rw[aGz hi0.1 hi1.1 hi2.1 hi3.1]<;>rfl,aF [false] rfl hw⟩
    refine aC (lE aX (lv (v:=pp b1 3) (bG (b:=b1) (o:=0) (k:=3) rfl rfl sM.ok (by decide)) (lE (cQ 0) (lE gH ?_))))
    refine sR (decide ((a.a3)<(0:Int))) (decide ((2147483647:Int)<(a.a3))) rfl (fun hb26 hk26=> ?_) (fun z27 z28 z29 z30=> ?_)
    ·have hb26p:=of_decide_eq_false hb26
     refine gE aX (cL (v:=pp b1 3) rfl rfl rfl rfl rfl (bG (b:=b1) (o:=0) (k:=3) rfl rfl sM.ok (by decide)) (gE (cQ 0) (gE oG ?_)))
     refine lE dP ?_
     exact hk26 _ _ _ _
    refine aN (fE (((decide ((a.a3)<(0:Int)))||(decide ((2147483647:Int)<(a.a3))))) rfl (fun hc31=> ?_) (fun hc31=> ?_))
    ·refine bE (lE dW (aN (aT (aQ (aI (aI (aQ (aI (cZ Tryz.results98 rfl ?_)))))))))
     intro w hw
     exact⟨by rw[aGy hi3.1]<;>rfl,aF [false] rfl hw⟩
    rw[hi3.2]at hc31;cases hc31
   refine aC (lE aX (lv (v:=pp b1 2) (bG (b:=b1) (o:=0) (k:=2) rfl rfl sM.ok (by decide)) (lE (cQ 0) (lE gH ?_))))
   refine sR (decide ((a.a2)<(0:Int))) (decide ((2147483647:Int)<(a.a2))) rfl (fun hb32 hk32=> ?_) (fun z33 z34 z35 z36=> ?_)
   ·have hb32p:=of_decide_eq_false hb32
    refine gE aX (cL (v:=pp b1 2) rfl rfl rfl rfl rfl (bG (b:=b1) (o:=0) (k:=2) rfl rfl sM.ok (by decide)) (gE (cQ 0) (gE oG ?_)))
    refine lE dP ?_
    exact hk32 _ _ _ _
   refine aN (fE (((decide ((a.a2)<(0:Int)))||(decide ((2147483647:Int)<(a.a2))))) rfl (fun hc37=> ?_) (fun hc37=> ?_))
   ·refine bE (lE dW (aN (aT (aQ (aI (aI (aQ (aI (cZ Tryz.results98 rfl ?_)))))))))
    intro w hw
    exact⟨by rw[aGx hi2.1]<;>rfl,aF [false] rfl hw⟩
   rw[hi2.2]at hc37;cases hc37
  refine aC (lE aX (lv (v:=pp b1 1) (bG (b:=b1) (o:=0) (k:=1) rfl rfl sM.ok (by decide)) (lE (cQ 0) (lE gH ?_))))
  refine sR (decide ((a.a1)<(0:Int))) (decide ((2147483647:Int)<(a.a1))) rfl (fun hb38 hk38=> ?_) (fun z39 z40 z41 z42=> ?_)
  ·have hb38p:=of_decide_eq_false hb38
   refine gE aX (cL (v:=pp b1 1) rfl rfl rfl rfl rfl (bG (b:=b1) (o:=0) (k:=1) rfl rfl sM.ok (by decide)) (gE (cQ 0) (gE oG ?_)))
   refine lE dP ?_
   exact hk38 _ _ _ _
  refine aN (fE (((decide ((a.a1)<(0:Int)))||(decide ((2147483647:Int)<(a.a1))))) rfl (fun hc43=> ?_) (fun hc43=> ?_))
  ·refine bE (lE dW (aN (aT (aQ (aI (aI (aQ (aI (cZ Tryz.results98 rfl ?_)))))))))
   intro w hw
   exact⟨by rw[aGw hi1.1]<;>rfl,aF [false] rfl hw⟩
  rw[hi1.2]at hc43;cases hc43
 refine aC (lE aX (lv (v:=pp b1 0) (bG (b:=b1) (o:=0) (k:=0) rfl rfl sM.ok (by decide)) (lE (cQ 0) (lE gH ?_))))
 refine sR (decide ((a.a0)<(0:Int))) (decide ((2147483647:Int)<(a.a0))) rfl (fun hb44 hk44=> ?_) (fun z45 z46 z47 z48=> ?_)
 ·have hb44p:=of_decide_eq_false hb44
  refine gE aX (cL (v:=pp b1 0) rfl rfl rfl rfl rfl (bG (b:=b1) (o:=0) (k:=0) rfl rfl sM.ok (by decide)) (gE (cQ 0) (gE oG ?_)))
  refine lE dP ?_
  exact hk44 _ _ _ _
 refine aN (fE (((decide ((a.a0)<(0:Int)))||(decide ((2147483647:Int)<(a.a0))))) rfl (fun hc49=> ?_) (fun hc49=> ?_))
 ·refine bE (lE dW (aN (aT (aQ (aI (aI (aQ (aI (cZ Tryz.results98 rfl ?_)))))))))
  intro w hw
  exact⟨by rw[aGv hi0.1]<;>rfl,aF [false] rfl hw⟩
 rw[hi0.2]at hc49;cases hc49
theorem pE(β:Base)(w:World)(hw:St β [] w)(a b:KAm)(s:Int)(hs:s=1∨s= -1)(ha:a.bd 4611686018427387903)(hb:b.bd 4611686018427387903):oJ Tryz.prog 122 #[.agg (eI a),.agg (eI b),Ix s] β w (.agg (eI (a.plus b s))):=by
 obtain⟨ha0,ha1,ha2,ha3⟩:=ha
 obtain⟨hb0,hb1,hb2,hb3⟩:=hb
 have hm0: -4611686018427387903≤s*b.a0∧s*b.a0≤4611686018427387903:=by rcases hs with rfl|rfl<;>omega
 have hm1: -4611686018427387903≤s*b.a1∧s*b.a1≤4611686018427387903:=by rcases hs with rfl|rfl<;>omega
 have hm2: -4611686018427387903≤s*b.a2∧s*b.a2≤4611686018427387903:=by rcases hs with rfl|rfl<;>omega
 have hm3: -4611686018427387903≤s*b.a3∧s*b.a3≤4611686018427387903:=by rcases hs with rfl|rfl<;>omega
 refine enter (n:=24) Tryz.func122 rfl Tryz.ntmps122 rfl ?_ hw
 refine bE (mA fun b1=> ?_)
 refine mA fun b2=> ?_
 refine gB fun b3=>aN (eS (aC (lE bN (aN (aK (mJ 5 (eD 4 (eS (aC (lE aX (lE gH (aN (dL rfl (eF (aL ?_)))))))))))))))
 refine aK ?_
 refine jH [sv 12 (.int .i64 (0)) [] [] [0],sv 13 (.int .i64 (0)) [] [] [0],sv 14 (pp b1 0) [1] [1] [1],sv 15 (Ix (a.a0)) [1,2] [2] [],sv 16 (Ix (s)) [] [] [2],sv 17 (.int .i64 (0)) [] [] [0],sv 18 (pp b2 0) [5] [5] [3],sv 19 (Ix (b.a0)) [5,6] [6] [],sv 20 (Ix ((s)*(b.a0))) [4,5,6,7] [4,7] [],sv 21 (Ix ((a.a0)+((s)*(b.a0)))) [1,2,3,4,5,6,7,8] [3,8] [],sv 22 (pp b1 0) (List.range 10) [0] [1],⟨(List.range 11),[10,9],[],[],fun _=>True⟩] [u0,u1 [7],(some 11,[3,11])] [⟨(some 11),none,[],[],fun _=>pt b1 (.cells #[Ix ((a.a0)+((s)*(b.a0))),Ix (a.a1),Ix (a.a2),Ix (a.a3)] 43)⟩] [(7,.int .i64 (0)),(3,pp b1 0),(2,Ix (s)),(4,pp b2 0),(6,pp b3 0)] [2,1,3,4,0] ⟨rfl,rfl,rfl,rfl,rfl,trivial⟩ ⟨?_,?_,?_,?_,?_,?_,?_,?_,?_,?_,?_,?_,trivial⟩ ?_
 ·rintro f M-⟨i0,-⟩
  exact aU aX
 ·rintro f M-⟨i0,-⟩
  exact aU aX
 ·rintro f M ⟨k0,-⟩ ⟨i0,-⟩
  exact hO (aB (d:=13) (aB (d:=3) rfl i0) k0) rfl (bG (b:=b1) (o:=0) (k:=0) rfl rfl sM.ok (by decide)) (.refl _)
 ·rintro f M ⟨k0,-⟩-
  exact aU (cQ 0)
 ·rintro f M-⟨i0,-⟩
  exact aU aX
 ·rintro f M-⟨i0,-⟩
  exact aU aX
 ·rintro f M ⟨k0,-⟩ ⟨i0,-⟩
  exact hO (aB (d:=17) (aB (d:=4) rfl i0) k0) rfl (bG (b:=b2) (o:=0) (k:=0) rfl rfl sM.ok (by decide)) (.refl _)
 ·rintro f M ⟨k0,-⟩-
  exact aU (cQ 0)
 ·rintro f M ⟨k0,k1,-⟩-
  exact aU otm
 ·rintro f M ⟨k0,k1,-⟩-
  exact aU qR
 ·rintro f M ⟨k0,-⟩ ⟨i0,-⟩
  exact hO (aB (d:=12) (aB (d:=3) rfl i0) k0) rfl (bG (b:=b1) (o:=0) (k:=0) rfl rfl sM.ok (by decide)) (.refl _)
 ·rintro f M ⟨k0,k1,-⟩-
  refine dU (aB (d:=21) (aB (d:=22) rfl k0) k1) ?_
  refine lu (mS 0 (#[Ix ((a.a0)+((s)*(b.a0))),Ix (a.a1),Ix (a.a2),Ix (a.a3)])) (aH ?_)
  exact bB (aB (d:=21) (aB (d:=22) rfl k0) k1) trivial (aA 0 rfl)
 rintro fa4 ⟨-,-,-,-,-,-,-,-,-,-,-,-,-⟩ ⟨j0,j1,j2,j3,j4,-⟩
 refine jI ?_
 refine aD (d:=2) j0 (aD (d:=3) j1 (aD (d:=4) j2 (aD (d:=6) j3 (aD (d:=7) j4 (aR (bD (aC ?_)))))))
 refine lE aX (lE qR (lE bN (aH (bI (eD 3 (eS (aC (lE aX (lE gH (aN (dL rfl (eF (aL (aK ?_))))))))))))))
 refine jH [sv 12 (.int .i64 (1)) [] [] [0],sv 13 (.int .i64 (1)) [] [] [0],sv 14 (pp b1 1) [1] [1] [1],sv 15 (Ix (a.a1)) [1,2] [2] [],sv 16 (Ix (s)) [] [] [2],sv 17 (.int .i64 (1)) [] [] [0],sv 18 (pp b2 1) [5] [5] [3],sv 19 (Ix (b.a1)) [5,6] [6] [],sv 20 (Ix ((s)*(b.a1))) [4,5,6,7] [4,7] [],sv 21 (Ix ((a.a1)+((s)*(b.a1)))) [1,2,3,4,5,6,7,8] [3,8] [],sv 22 (pp b1 1) (List.range 10) [0] [1],⟨(List.range 11),[10,9],[],[],fun _=>True⟩] [u0,u1 [7],(some 11,[3,11])] [⟨(some 11),none,[],[],fun _=>pt b1 (.cells #[Ix ((a.a0)+((s)*(b.a0))),Ix ((a.a1)+((s)*(b.a1))),Ix (a.a2),Ix (a.a3)] 43)⟩] [(7,.int .i64 (1)),(3,pp b1 0),(2,Ix (s)),(4,pp b2 0),(6,pp b3 0)] [2,1,3,4,0] ⟨rfl,rfl,rfl,rfl,rfl,trivial⟩ ⟨?_,?_,?_,?_,?_,?_,?_,?_,?_,?_,?_,?_,trivial⟩ ?_
 ·rintro f M-⟨i0,-⟩
  exact aU aX
 ·rintro f M-⟨i0,-⟩
  exact aU aX
 ·rintro f M ⟨k0,-⟩ ⟨i0,-⟩
  exact hO (aB (d:=13) (aB (d:=3) rfl i0) k0) rfl (bG (b:=b1) (o:=0) (k:=1) rfl rfl sM.ok (by decide)) (.refl _)
 ·rintro f M ⟨k0,-⟩-
  exact aU (cQ 0)
 ·rintro f M-⟨i0,-⟩
  exact aU aX
 ·rintro f M-⟨i0,-⟩
  exact aU aX
 ·rintro f M ⟨k0,-⟩ ⟨i0,-⟩
  exact hO (aB (d:=17) (aB (d:=4) rfl i0) k0) rfl (bG (b:=b2) (o:=0) (k:=1) rfl rfl sM.ok (by decide)) (.refl _)
 ·rintro f M ⟨k0,-⟩-
  exact aU (cQ 0)
 ·rintro f M ⟨k0,k1,-⟩-
  exact aU otm
 ·rintro f M ⟨k0,k1,-⟩-
  exact aU qR
 ·rintro f M ⟨k0,-⟩ ⟨i0,-⟩
  exact hO (aB (d:=12) (aB (d:=3) rfl i0) k0) rfl (bG (b:=b1) (o:=0) (k:=1) rfl rfl sM.ok (by decide)) (.refl _)
 ·rintro f M ⟨k0,k1,-⟩-
  refine dU (aB (d:=21) (aB (d:=22) rfl k0) k1) ?_
  refine lu (mS 0 (#[Ix ((a.a0)+((s)*(b.a0))),Ix ((a.a1)+((s)*(b.a1))),Ix (a.a2),Ix (a.a3)])) (aH ?_)
  exact bB (aB (d:=21) (aB (d:=22) rfl k0) k1) trivial (aA 0 rfl)
 rintro fa5 ⟨-,-,-,-,-,-,-,-,-,-,-,-,-⟩ ⟨j0,j1,j2,j3,j4,-⟩
 refine jI ?_
 refine aD (d:=2) j0 (aD (d:=3) j1 (aD (d:=4) j2 (aD (d:=6) j3 (aD (d:=7) j4 (aR (bD (aC ?_)))))))
 refine lE aX (lE qR (lE bN (aH (bI (eD 2 (eS (aC (lE aX (lE gH (aN (dL rfl (eF (aL (aK ?_))))))))))))))
 refine jH [sv 12 (.int .i64 (2)) [] [] [0],sv 13 (.int .i64 (2)) [] [] [0],sv 14 (pp b1 2) [1] [1] [1],sv 15 (Ix (a.a2)) [1,2] [2] [],sv 16 (Ix (s)) [] [] [2],sv 17 (.int .i64 (2)) [] [] [0],sv 18 (pp b2 2) [5] [5] [3],sv 19 (Ix (b.a2)) [5,6] [6] [],sv 20 (Ix ((s)*(b.a2))) [4,5,6,7] [4,7] [],sv 21 (Ix ((a.a2)+((s)*(b.a2)))) [1,2,3,4,5,6,7,8] [3,8] [],sv 22 (pp b1 2) (List.range 10) [0] [1],⟨(List.range 11),[10,9],[],[],fun _=>True⟩] [u0,u1 [7],(some 11,[3,11])] [⟨(some 11),none,[],[],fun _=>pt b1 (.cells #[Ix ((a.a0)+((s)*(b.a0))),Ix ((a.a1)+((s)*(b.a1))),Ix ((a.a2)+((s)*(b.a2))),Ix (a.a3)] 43)⟩] [(7,.int .i64 (2)),(3,pp b1 0),(2,Ix (s)),(4,pp b2 0),(6,pp b3 0)] [2,1,3,4,0] ⟨rfl,rfl,rfl,rfl,rfl,trivial⟩ ⟨?_,?_,?_,?_,?_,?_,?_,?_,?_,?_,?_,?_,trivial⟩ ?_
 ·rintro f M-⟨i0,-⟩
  exact aU aX
 ·rintro f M-⟨i0,-⟩
  exact aU aX
 ·rintro f M ⟨k0,-⟩ ⟨i0,-⟩
  exact hO (aB (d:=13) (aB (d:=3) rfl i0) k0) rfl (bG (b:=b1) (o:=0) (k:=2) rfl rfl sM.ok (by decide)) (.refl _)
 ·rintro f M ⟨k0,-⟩-
  exact aU (cQ 0)
 ·rintro f M-⟨i0,-⟩
  exact aU aX
 ·rintro f M-⟨i0,-⟩
  exact aU aX
 ·rintro f M ⟨k0,-⟩ ⟨i0,-⟩
  exact hO (aB (d:=17) (aB (d:=4) rfl i0) k0) rfl (bG (b:=b2) (o:=0) (k:=2) rfl rfl sM.ok (by decide)) (.refl _)
 ·rintro f M ⟨k0,-⟩-
  exact aU (cQ 0)
 ·rintro f M ⟨k0,k1,-⟩-
  exact aU otm
 ·rintro f M ⟨k0,k1,-⟩-
  exact aU qR
 ·rintro f M ⟨k0,-⟩ ⟨i0,-⟩
  exact hO (aB (d:=12) (aB (d:=3) rfl i0) k0) rfl (bG (b:=b1) (o:=0) (k:=2) rfl rfl sM.ok (by decide)) (.refl _)
 ·rintro f M ⟨k0,k1,-⟩-
  refine dU (aB (d:=21) (aB (d:=22) rfl k0) k1) ?_
  refine lu (mS 0 (#[Ix ((a.a0)+((s)*(b.a0))),Ix ((a.a1)+((s)*(b.a1))),Ix ((a.a2)+((s)*(b.a2))),Ix (a.a3)])) (aH ?_)
  exact bB (aB (d:=21) (aB (d:=22) rfl k0) k1) trivial (aA 0 rfl)
 rintro fa6 ⟨-,-,-,-,-,-,-,-,-,-,-,-,-⟩ ⟨j0,j1,j2,j3,j4,-⟩
 refine jI ?_
 refine aD (d:=2) j0 (aD (d:=3) j1 (aD (d:=4) j2 (aD (d:=6) j3 (aD (d:=7) j4 (aR (bD (aC ?_)))))))
 refine lE aX (lE qR (lE bN (aH (bI (eD 1 (eS (aC (lE aX (lE gH (aN (dL rfl (eF (aL (aK ?_))))))))))))))
 refine jH [sv 12 (.int .i64 (3)) [] [] [0],sv 13 (.int .i64 (3)) [] [] [0],sv 14 (pp b1 3) [1] [1] [1],sv 15 (Ix (a.a3)) [1,2] [2] [],sv 16 (Ix (s)) [] [] [2],sv 17 (.int .i64 (3)) [] [] [0],sv 18 (pp b2 3) [5] [5] [3],sv 19 (Ix (b.a3)) [5,6] [6] [],sv 20 (Ix ((s)*(b.a3))) [4,5,6,7] [4,7] [],sv 21 (Ix ((a.a3)+((s)*(b.a3)))) [1,2,3,4,5,6,7,8] [3,8] [],sv 22 (pp b1 3) (List.range 10) [0] [1],⟨(List.range 11),[10,9],[],[],fun _=>True⟩] [u0,u1 [7],(some 11,[3,11])] [⟨(some 11),none,[],[],fun _=>pt b1 (.cells #[Ix ((a.a0)+((s)*(b.a0))),Ix ((a.a1)+((s)*(b.a1))),Ix ((a.a2)+((s)*(b.a2))),Ix ((a.a3)+((s)*(b.a3)))] 43)⟩] [(7,.int .i64 (3)),(3,pp b1 0),(2,Ix (s)),(4,pp b2 0),(6,pp b3 0)] [2,1,3,4,0] ⟨rfl,rfl,rfl,rfl,rfl,trivial⟩ ⟨?_,?_,?_,?_,?_,?_,?_,?_,?_,?_,?_,?_,trivial⟩ ?_
 ·rintro f M-⟨i0,-⟩
  exact aU aX
 ·rintro f M-⟨i0,-⟩
  exact aU aX
 ·rintro f M ⟨k0,-⟩ ⟨i0,-⟩
  exact hO (aB (d:=13) (aB (d:=3) rfl i0) k0) rfl (bG (b:=b1) (o:=0) (k:=3) rfl rfl sM.ok (by decide)) (.refl _)
 ·rintro f M ⟨k0,-⟩-
  exact aU (cQ 0)
 ·rintro f M-⟨i0,-⟩
  exact aU aX
 ·rintro f M-⟨i0,-⟩
  exact aU aX
 ·rintro f M ⟨k0,-⟩ ⟨i0,-⟩
  exact hO (aB (d:=17) (aB (d:=4) rfl i0) k0) rfl (bG (b:=b2) (o:=0) (k:=3) rfl rfl sM.ok (by decide)) (.refl _)
 ·rintro f M ⟨k0,-⟩-
  exact aU (cQ 0)
 ·rintro f M ⟨k0,k1,-⟩-
  exact aU otm
 ·rintro f M ⟨k0,k1,-⟩-
  exact aU qR
 ·rintro f M ⟨k0,-⟩ ⟨i0,-⟩
  exact hO (aB (d:=12) (aB (d:=3) rfl i0) k0) rfl (bG (b:=b1) (o:=0) (k:=3) rfl rfl sM.ok (by decide)) (.refl _)
 ·rintro f M ⟨k0,k1,-⟩-
  refine dU (aB (d:=21) (aB (d:=22) rfl k0) k1) ?_
  refine lu (mS 0 (#[Ix ((a.a0)+((s)*(b.a0))),Ix ((a.a1)+((s)*(b.a1))),Ix ((a.a2)+((s)*(b.a2))),Ix ((a.a3)+((s)*(b.a3)))])) (aH ?_)
  exact bB (aB (d:=21) (aB (d:=22) rfl k0) k1) trivial (aA 0 rfl)
 rintro fa7 ⟨-,-,-,-,-,-,-,-,-,-,-,-,-⟩ ⟨j0,j1,j2,j3,j4,-⟩
 refine jI ?_
 refine aD (d:=2) j0 (aD (d:=3) j1 (aD (d:=4) j2 (aD (d:=6) j3 (aD (d:=7) j4 (aR (bD (aC ?_)))))))
 refine lE aX (lE qR (lE bN (aH (bI (eD 0 (eS (aC (lE aX (lE gH (aN (cY rfl (cM (aG (aG (cN ?_)))))))))))))))
 refine kM (lE (dD 2) ?_)
 refine lu (mS 0 (#[Ix ((a.a0)+((s)*(b.a0))),Ix ((a.a1)+((s)*(b.a1))),Ix ((a.a2)+((s)*(b.a2))),Ix ((a.a3)+((s)*(b.a3)))])) (aN ?_)
 refine aT ?_
 refine gA (m:=[.agg #[Ix ((a.a0)+((s)*(b.a0))),Ix ((a.a1)+((s)*(b.a1))),Ix ((a.a2)+((s)*(b.a2))),Ix ((a.a3)+((s)*(b.a3)))]]) Tryz.results122 ⟨bQ tr3.ok rfl (bY 0 rfl rfl) rfl,trivial⟩ rfl ?_
 intro w hw
 exact⟨rfl,aF [false,false,false] rfl hw⟩
theorem aIl(β:Base)(w:World)(hw:St β [] w)(x:KAct):oJ Tryz.prog 50 #[.agg #[Bx (x.kind),Ix (x.owner),Ix (x.other),Ix (x.hold),Ix (x.a.a0),Ix (x.a.a1),Ix (x.a.a2),Ix (x.a.a3)]] β w (.bool x.formed):=by
 refine enter (n:=97) Tryz.func50 rfl Tryz.ntmps50 rfl ?_ hw
 refine bE (mA fun b1=> ?_)
 refine lE dW (aN (eS (aC (lE aY (lE (cQ 0) (aN (aK ?_)))))))
 refine gG (fun(f:Fm) (L:List bU)=>∃(jn:Bool),(f 1=pp b1 0∧f 4=Bx (x.kind)∧f 5= .bool (jn))∧L=[pt b1 (.cells #[Bx (x.kind),Ix (x.owner),Ix (x.other),Ix (x.hold),Ix (x.a.a0),Ix (x.a.a1),Ix (x.a.a2),Ix (x.a.a3)] 120)]∧(jn=x.plain)) ?_ ?_
 ·refine bE (lE eZ (lE dW (aN (cG _ rfl (fun hc2=> ?_) (fun hc2=> ?_)))))
  ·refine cD ?_
   exact bI ⟨decide (((x.kind).toNat:Int)=(1:Int)),⟨rfl,rfl,rfl⟩,rfl,(by simp_all [KAct.plain])⟩
  refine bE (lE eZ (lE dW (aN (cG _ rfl (fun hc3=> ?_) (fun hc3=> ?_)))))
  ·refine cD ?_
   exact bI ⟨decide (((x.kind).toNat:Int)=(2:Int)),⟨rfl,rfl,rfl⟩,rfl,(by simp_all [KAct.plain])⟩
  refine bE (lE eZ (lE dW (aN (cG _ rfl (fun hc4=> ?_) (fun hc4=> ?_)))))
  ·refine cD ?_
   exact bI ⟨decide (((x.kind).toNat:Int)=(4:Int)),⟨rfl,rfl,rfl⟩,rfl,(by simp_all [KAct.plain])⟩
  refine aC (lE eZ (lE dW (aH ?_)))
  exact bI ⟨decide (((x.kind).toNat:Int)=(7:Int)),⟨rfl,rfl,rfl⟩,rfl,(by simp_all [KAct.plain])⟩
 rintro f0 L0 ⟨jn,⟨hs1,hs4,hs5⟩,hL,hjn⟩
 subst L0
 refine bM 1 hs1 (bM 4 hs4 (bM 5 hs5 (fE (jn) rfl (fun hc5=> ?_) (fun hc5=> ?_))))
 ·refine bE (lE aY (lE (cQ 0) (iF iE (fun w β1 sb kn hw1=>rZ β1 w hw1 (x.owner)) ?_)))
  refine fY (fA x.owner) (decide ((x.other)=(0:Int))) rfl (fun hb6 hk6=> ?_) (fun z7 z8 z9=> ?_)
  ·refine gE aY (gE (cQ 0) (gE eZ (lE eC ?_)))
   exact hk6 _ _ _
  refine fY ((fA x.owner)&&(decide ((x.other)=(0:Int)))) (decide ((x.hold)=(0:Int))) rfl (fun hb10 hk10=> ?_) (fun z11 z12 z13=> ?_)
  ·refine gE aY (gE (cQ 0) (gE eZ (lE eC ?_)))
   exact hk10 _ _ _
  refine fY (((fA x.owner)&&(decide ((x.other)=(0:Int))))&&(decide ((x.hold)=(0:Int)))) x.a.within rfl (fun hb14 hk14=> ?_) (fun z15 z16 z17=> ?_)
  ·refine gE aY (gE (dD 0) (eK rfl rfl rfl rfl rfl (cK (vs:=[.agg (eI x.a)]) bEs.ok rfl rfl) ?_))
   intro w hw
   obtain⟨β1,sb,kn,hw1,back⟩:=St.frame_all hw
   refine(kY β1 w hw1 x.a).mono ?_
   rintro e w' ⟨rfl,hw'⟩
   refine⟨_,rfl,_,back _ _ hw',?_⟩
   refine lE eC ?_
   exact hk14 _ _ _
  refine lE dW (aN (aT (aQ (aI (cZ Tryz.results50 rfl ?_)))))
  intro w hw
  exact⟨congrArg (fun b:Bool=>Ending.returned (.bool b)) (show((((fA x.owner)&&(decide ((x.other)=(0:Int))))&&(decide ((x.hold)=(0:Int))))&&x.a.within)=x.formed by unfold KAct.formed;simp_all),aF [false] rfl hw⟩
 refine bE (lE eZ (lE dW (aN (cG _ rfl (fun hc18=> ?_) (fun hc18=> ?_)))))
 ·refine bE (lE aY (lE (cQ 0) (iF iE (fun w β1 sb kn hw1=>rZ β1 w hw1 (x.owner)) ?_)))
  refine fY (fA x.owner) (fA x.other) rfl (fun hb19 hk19=> ?_) (fun z20 z21 z22=> ?_)
  ·refine gE aY (gE (cQ 0) (eK rfl rfl rfl rfl rfl (cK (vs:=[Ix (x.other)]) tr7.ok rfl rfl) ?_))
   intro w hw
   obtain⟨β1,sb,kn,hw1,back⟩:=St.frame_all hw
   refine(rZ β1 w hw1 (x.other)).mono ?_
   rintro e w' ⟨rfl,hw'⟩
   refine⟨_,rfl,_,back _ _ hw',?_⟩
   refine lE eC ?_
   exact hk19 _ _ _
  refine oD ((fA x.owner)&&(fA x.other)) (decide ((x.owner)≠(x.other))) rfl (fun hb23 hk23=> ?_) (fun z24 z25 z26 z27 z28=> ?_)
  ·refine gE aY (gE (cQ 0) (gE aY (gE (cQ 0) (gE lC (lE eC ?_)))))
   exact hk23 _ _ _ _ _
  refine fY (((fA x.owner)&&(fA x.other))&&(decide ((x.owner)≠(x.other)))) (decide ((x.hold)=(0:Int))) rfl (fun hb29 hk29=> ?_) (fun z30 z31 z32=> ?_)
  ·refine gE aY (gE (cQ 0) (gE eZ (lE eC ?_)))
   exact hk29 _ _ _
  refine fY ((((fA x.owner)&&(fA x.other))&&(decide ((x.owner)≠(x.other))))&&(decide ((x.hold)=(0:Int)))) x.a.within rfl (fun hb33 hk33=> ?_) (fun z34 z35 z36=> ?_)
  ·refine gE aY (gE (dD 0) (eK rfl rfl rfl rfl rfl (cK (vs:=[.agg (eI x.a)]) bEs.ok rfl rfl) ?_))
   intro w hw
   obtain⟨β1,sb,kn,hw1,back⟩:=St.frame_all hw
   refine(kY β1 w hw1 x.a).mono ?_
   rintro e w' ⟨rfl,hw'⟩
   refine⟨_,rfl,_,back _ _ hw',?_⟩
   refine lE eC ?_
   exact hk33 _ _ _
  refine lE dW (aN (aT (aQ (aI (cZ Tryz.results50 rfl ?_)))))
  intro w hw
  exact⟨congrArg (fun b:Bool=>Ending.returned (.bool b)) (show(((((fA x.owner)&&(fA x.other))&&(decide ((x.owner)≠(x.other))))&&(decide ((x.hold)=(0:Int))))&&x.a.within)=x.formed by unfold KAct.formed;simp_all),aF [false] rfl hw⟩
 refine bE (lE eZ (lE dW (aN (cG _ rfl (fun hc37=> ?_) (fun hc37=> ?_)))))
 ·refine bE (lE aY (lE (cQ 0) (lE eZ ?_)))
  refine fY (decide ((x.owner)=(0:Int))) (decide ((x.other)=(0:Int))) rfl (fun hb38 hk38=> ?_) (fun z39 z40 z41=> ?_)
  ·have hb38p:=of_decide_eq_true hb38
   refine gE aY (gE (cQ 0) (gE eZ (lE eC ?_)))
   exact hk38 _ _ _
  refine fY ((decide ((x.owner)=(0:Int)))&&(decide ((x.other)=(0:Int)))) (decide ((1:Int)≤(x.hold))) rfl (fun hb42 hk42=> ?_) (fun z43 z44 z45=> ?_)
  ·refine gE aY (gE (cQ 0) (gE oge (lE eC ?_)))
   exact hk42 _ _ _
  refine sZ (((decide ((x.owner)=(0:Int)))&&(decide ((x.other)=(0:Int))))&&(decide ((1:Int)≤(x.hold)))) (decide (x.a=zeroA)) rfl (fun hb46 hk46=> ?_) (fun z47 z48 z49 z50=> ?_)
  ·refine gE aY (gE (dD 0) ?_)
   refine cL (v:= .agg #[.int .i64 (0),.int .i64 (0),.int .i64 (0),.int .i64 (0)]) rfl rfl rfl rfl rfl (eQ tr2.ok sM.ok (vs:=[]) (cells:= #[.int .i64 (0),.int .i64 (0),.int .i64 (0),.int .i64 (0)]) rfl rfl) ?_
   refine cL (v:= .bool (decide (x.a=zeroA))) rfl rfl rfl rfl rfl (pU (xs:=oK x.a) (ys:=oK zeroA) aXx aXy aXz rfl rfl rfl rfl (kP (x:=x.a) (y:=zeroA))) ?_
   refine lE eC ?_
   exact hk46 _ _ _ _
  refine lE dW (aN (aT (aQ (aI (cZ Tryz.results50 rfl ?_)))))
  intro w hw
  exact⟨congrArg (fun b:Bool=>Ending.returned (.bool b)) (show((((decide ((x.owner)=(0:Int)))&&(decide ((x.other)=(0:Int))))&&(decide ((1:Int)≤(x.hold))))&&(decide (x.a=zeroA)))=x.formed by unfold KAct.formed;simp_all),aF [false] rfl hw⟩
 refine bE (lE eZ (lE dW (aN (cG _ rfl (fun hc51=> ?_) (fun hc51=> ?_)))))
 ·refine bE (lE aY (lE (cQ 0) (lE eZ (fY (decide ((x.owner)=(0:Int))) (fA x.other) rfl (fun hb52 hk52=> ?_) (fun z53 z54 z55=> ?_)))))
  ·have hb52p:=of_decide_eq_true hb52
   refine gE aY (gE (cQ 0) (eK rfl rfl rfl rfl rfl (cK (vs:=[Ix (x.other)]) tr7.ok rfl rfl) ?_))
   intro w hw
   obtain⟨β1,sb,kn,hw1,back⟩:=St.frame_all hw
   refine(rZ β1 w hw1 (x.other)).mono ?_
   rintro e w' ⟨rfl,hw'⟩
   refine⟨_,rfl,_,back _ _ hw',?_⟩
   refine lE eC ?_
   exact hk52 _ _ _
  refine fY ((decide ((x.owner)=(0:Int)))&&(fA x.other)) (decide ((1:Int)≤(x.hold))) rfl (fun hb56 hk56=> ?_) (fun z57 z58 z59=> ?_)
  ·refine gE aY (gE (cQ 0) (gE oge (lE eC ?_)))
   exact hk56 _ _ _
  refine sZ (((decide ((x.owner)=(0:Int)))&&(fA x.other))&&(decide ((1:Int)≤(x.hold)))) (decide (x.a=zeroA)) rfl (fun hb60 hk60=> ?_) (fun z61 z62 z63 z64=> ?_)
  ·refine gE aY (gE (dD 0) ?_)
   refine cL (v:= .agg #[.int .i64 (0),.int .i64 (0),.int .i64 (0),.int .i64 (0)]) rfl rfl rfl rfl rfl (eQ tr2.ok sM.ok (vs:=[]) (cells:= #[.int .i64 (0),.int .i64 (0),.int .i64 (0),.int .i64 (0)]) rfl rfl) ?_
   refine cL (v:= .bool (decide (x.a=zeroA))) rfl rfl rfl rfl rfl (pU (xs:=oK x.a) (ys:=oK zeroA) aXx aXy aXz rfl rfl rfl rfl (kP (x:=x.a) (y:=zeroA))) ?_
   refine lE eC ?_
   exact hk60 _ _ _ _
  refine lE dW (aN (aT (aQ (aI (cZ Tryz.results50 rfl ?_)))))
  intro w hw
  exact⟨congrArg (fun b:Bool=>Ending.returned (.bool b)) (show((((decide ((x.owner)=(0:Int)))&&(fA x.other))&&(decide ((1:Int)≤(x.hold))))&&(decide (x.a=zeroA)))=x.formed by unfold KAct.formed;simp_all),aF [false] rfl hw⟩
 refine cD (aR (kM (lE dW (aN (aT (cZ Tryz.results50 rfl ?_))))))
 intro w hw
 exact⟨congrArg (fun b:Bool=>Ending.returned (.bool b)) (show false=x.formed by unfold KAct.formed;simp_all),aF [false] rfl hw⟩
theorem rY(β:Base)(w:World)(hw:St β [] w)(v:Value)(q1 q2:Option Addr)(m1 d1 m2 d2:Nat)(ps:List KPu)(hs:Sl jW.R β.heap v ps)(hps:ps.length≤1048576)(la:Int)(su:KAm)(n:Int):oJ Tryz.prog 123 #[.agg #[v,.slice q1 m1 d1,Ix la,Ix su.a0,Ix su.a1,Ix su.a2,Ix su.a3,.slice q2 m2 d2],Ix n] β w (.agg (eI (dR ps n))):=by
 obtain⟨va,vc,rfl,vl,vm,ve⟩:=hs.get
 refine enter (n:=28) Tryz.func123 rfl Tryz.ntmps123 rfl ?_ hw
 refine bE (mA fun b1=> ?_)
 refine gB fun b2=>aN (eS (aC (lE bN (aN (aK ?_)))))
 refine dB (fun(k:Nat) f L=>(f 1=Ix (n)∧f 2=pp b1 0∧f 4=pp b2 0∧f 5=Nx (k))∧L=[pt b2 (.cells #[.int .i64 (0),.int .i64 (0),.int .i64 (0),.int .i64 (0)] 43),pt b1 (.cells #[sB va ps (vc),.slice q1 (m1) d1,Ix (la),Ix (su.a0),Ix (su.a1),Ix (su.a2),Ix (su.a3),.slice q2 (m2) d2] 62)]∧(k≤ps.length∧dR ps n=dR (ps.drop k) n)) (fun k=>ps.length-k) 0 ?_ ?_
 ·exact⟨⟨rfl,rfl,rfl,rfl⟩,rfl,⟨by omega,rfl⟩⟩
 rintro k f0 L0 ⟨⟨hs1,hs2,hs4,hs5⟩,hL,⟨hkl,hk⟩⟩
 subst L0
 refine bM 1 hs1 (bM 2 hs2 (bM 4 hs4 (bM 5 hs5 (eS (aC (lE aX (lE aY (lE (fR 1) (lE gO (lE gH (aN ?_)))))))))))
 refine cG _ rfl (fun hc3=> ?_) (fun hc3=> ?_)
 ·refine eF (aL (aK (bE (lE aY (lE (fR 1) (lE aX ?_))))))
  obtain⟨x4,hx5⟩:=kO ps k (by omega)
  obtain⟨ha6,cs7,hc8,rfl⟩:=ve _ _ hx5
  refine lE (sJ zQ ha6) (lE ofa ?_)
  refine lv (v:=Ix (x4.owner)) (bH tr1.ok rfl (bF.imp (kB hc8) (fun _ h=>Cs.sub (vs:=[Ix (x4.owner)]) 0 h rfl))) (lE aX (lE eZ (aN ?_)))
  refine cG _ rfl (fun hc10=> ?_) (fun hc10=> ?_)
  ·refine bE (lE aY (lE (fR 1) (lE aX (lE (sJ zQ ha6) (lE ofa ?_)))))
   refine lv (v:= .agg (eI x4.a)) (fS tr3.ok rfl (bF.imp (kB hc8) (fun _ h=>Cs.sub (vs:=(oK x4.a)) 1 h rfl)) rfl) (lu (mS 0 (eI x4.a)) ?_)
   refine aN (aT (aQ (aI (aI (aQ (aI ?_))))))
   refine gA (m:=[.agg (eI x4.a)]) Tryz.results123 ⟨bQ tr3.ok rfl (bY 0 rfl rfl) rfl,trivial⟩ rfl ?_
   intro w hw
   refine⟨?_,aF [false,false] rfl hw⟩
   rw[show dR ps n=x4.a from by rw[hk,aBj hx5,if_pos hc10]]<;>rfl
  refine cD (aR (bD (aC (lE aX (lv (v:=Nx (k+1)) (bX rfl rfl (dA (by omega) (by omega))) (lE bN (aH ?_)))))))
  exact bI ⟨k+1,⟨⟨rfl,rfl,rfl,rfl⟩,rfl,⟨by omega,by rw[hk,aBj hx5,if_neg hc10]⟩⟩,(show ps.length-(k+1)<ps.length-k from by omega)⟩
 refine cM (aG (aG (cN (kM ?_))))
 refine lv (v:= .agg #[.int .i64 (0),.int .i64 (0),.int .i64 (0),.int .i64 (0)]) (eQ tr2.ok sM.ok (vs:=[]) (cells:= #[.int .i64 (0),.int .i64 (0),.int .i64 (0),.int .i64 (0)]) rfl rfl) ?_
 refine lu (mS 0 (#[.int .i64 (0),.int .i64 (0),.int .i64 (0),.int .i64 (0)])) (aN (aT ?_))
 refine gA (m:=[.agg #[.int .i64 (0),.int .i64 (0),.int .i64 (0),.int .i64 (0)]]) Tryz.results123 ⟨bQ tr3.ok rfl (bY 0 rfl rfl) rfl,trivial⟩ rfl ?_
 intro w hw
 refine⟨?_,aF [false,false] rfl hw⟩
 rw[show dR ps n=zeroA from by rw[hk,aSj (by omega)]]<;>rfl
theorem aTe(β:Base)(w:World)(hw:St β [] w)(v:Value)(q1 q2:Option Addr)(m1 d1 m2 d2:Nat)(ps:List KPu)(hs:Sl jW.R β.heap v ps)(hps:ps.length≤100000)(la:Int)(su:KAm)(n:Int)(a:KAm):Calls Tryz.prog 124 #[.agg #[v,.slice q1 m1 d1,Ix la,Ix su.a0,Ix su.a1,Ix su.a2,Ix su.a3,.slice q2 m2 d2],Ix n,.agg (eI a)] w fun r w'=>∃p c,r= .returned (.agg #[sB p (cJ n a false ps) c,.slice q1 m1 d1,Ix la,Ix su.a0,Ix su.a1,Ix su.a2,Ix su.a3,.slice q2 m2 d2])∧St β [aM jW 128 p c (cJ n a false ps)] w':=by
 obtain⟨va,vc,rfl,vl,vm,ve⟩:=hs.get
 refine enter (n:=71) Tryz.func124 rfl Tryz.ntmps124 rfl ?_ hw
 refine bE (mA fun b1=> ?_)
 refine mA fun b2=> ?_
 refine gB fun b3=>eY (lE iT (aN (aL (jN (r:=aM jW 128 none 0 []) (eG _ _ _) (aC (lE dW (aN (eS (aC (lE bN ?_))))))))))
 refine aN (aK ?_)
 refine dB (fun(x_:Nat×List KPu×Option Addr×Nat×Bool) f L=>match x_ with|(k,out,p,c,dn)=>(f 1=Ix (n)∧f 3=pp b1 0∧f 5=pp b2 0∧f 6=pp b3 0∧f 7=sB p out c∧f 8= .bool (dn)∧f 9=Nx (k))∧L=[aM jW 128 p c out,pt b3 (.cells #[.slice none 0 0,.slice none 0 0,.int .i64 (0),.int .i64 (0),.int .i64 (0),.int .i64 (0),.int .i64 (0),.slice none 0 0] 62),pt b2 (.cells (eI a) 43),pt b1 (.cells #[sB va ps (vc),.slice q1 (m1) d1,Ix (la),Ix (su.a0),Ix (su.a1),Ix (su.a2),Ix (su.a3),.slice q2 (m2) d2] 62)]∧(k≤ps.length+1∧out.length≤2*k∧cJ n a false ps=out++rWk n a dn ps k)) (fun(k,out,p,c,dn)=>ps.length+1-k) (0,[],none,0,false) ?_ ?_
 ·exact⟨⟨rfl,rfl,rfl,rfl,rfl,rfl,rfl⟩,rfl,⟨by omega,by decide,aYq.symm⟩⟩
 rintro⟨k,out,p,c,dn⟩ f0 L0 ⟨⟨hs1,hs3,hs5,hs6,hs7,hs8,hs9⟩,hL,⟨hk1,hol,hwi⟩⟩
 subst L0
 refine bM 1 hs1 (bM 3 hs3 (bM 5 hs5 (bM 6 hs6 (bM 7 hs7 (bM 8 hs8 (bM 9 hs9 (eS (aC (lE aX (lE aY (lE (fR 3) (lE gO (lE ole (aN ?_))))))))))))))
 refine cG _ rfl (fun hc4=> ?_) (fun hc4=> ?_)
 ·refine eF (aL (aK ?_))
  refine gG (fun(f:Fm) (L:List bU)=>∃(o2:List KPu) (p2:Option Addr) (c2:Nat) (dn2:Bool),(f 1=Ix (n)∧f 3=pp b1 0∧f 5=pp b2 0∧f 6=pp b3 0∧f 7=sB p2 o2 c2∧f 8= .bool (dn2)∧f 9=Nx (k))∧L=[aM jW 128 p2 c2 o2,pt b3 (.cells #[.slice none 0 0,.slice none 0 0,.int .i64 (0),.int .i64 (0),.int .i64 (0),.int .i64 (0),.int .i64 (0),.slice none 0 0] 62),pt b2 (.cells (eI a) 43),pt b1 (.cells #[sB va ps (vc),.slice q1 (m1) d1,Ix (la),Ix (su.a0),Ix (su.a1),Ix (su.a2),Ix (su.a3),.slice q2 (m2) d2] 62)]∧(o2.length≤2*k+1∧cJ n a false ps=o2++rW2 n a dn2 ps k)) ?_ ?_
  ·refine aL ?_
   rcases(Bool.eq_false_or_eq_true dn).symm with hdn|hdn
   ·by_cases hkl:k=ps.length
    ·refine aC (lE fJ (lv (v:= .bool true) (aVn (c:=true) (by rw[hdn];rfl) (aFk rfl)) (lE fJ (gE aX (gE aY (gE (fR 3) (gE gO ?_)))))))
     refine cL (v:= .bool true) rfl rfl rfl rfl rfl (yF (by omega) (fC (a:=((k:Nat):Int)) (b:=((ps.length:Nat):Int)) rfl rfl)) ?_
     refine gE fJ ?_
     iterate 8 refine iG ?_
     refine gE eC (lE eC (aN (dL rfl (bE (lE dW (eY (lE (dD 2) ?_)))))))
     refine lv (v:= .agg #[.int .i64 (0),.int .i64 (0),.int .i64 (0),.int .i64 (0)]) (eQ tr2.ok sM.ok (vs:=[]) (cells:= #[.int .i64 (0),.int .i64 (0),.int .i64 (0),.int .i64 (0)]) rfl rfl) ?_
     refine lv (v:= .bool (decide (¬(a=zeroA)))) (gS (xs:=oK a) (ys:=oK zeroA) aXx aXy aXz rfl rfl rfl rfl (not_congr (kP (x:=a) (y:=zeroA)))) ?_
     refine aN (cG _ rfl (fun hc5=> ?_) (fun hc5=> ?_))
     ·refine aC (lE fN (lE aX (lE (dD 2) ?_)))
      refine lv (v:= .agg #[Ix (n),Ix (a.a0),Ix (a.a1),Ix (a.a2),Ix (a.a3)]) (cR aTr.ok bEt (vs:=[(0,Ix (n)),(1,.agg (eI a))]) (cells:= #[Ix (n),Ix (a.a0),Ix (a.a1),Ix (a.a2),Ix (a.a3)]) rfl rfl) ?_
      refine dX rfl rfl rfl (dO zQ aTr.ok (cells:= #[Ix (n),Ix (a.a0),Ix (a.a1),Ix (a.a2),Ix (a.a3)]) rfl rfl rfl rfl) ?_
      rintro _ _ ⟨b6,rfl,rfl⟩
      refine dX rfl rfl rfl (dF (F:=jW) 1 zQ bCf (p:=p) (m:=out.length) (xs:=out) (ys:=[(⟨n,a⟩:KPu)]) (ao:=(some ⟨b6,0,none⟩)) (k:=1) (c:=1) rfl rfl rfl rfl rfl (jM (z:=(⟨n,a⟩:KPu)) 0 rfl rfl) (by first|omega|simp only[List.length_nil,List.length_cons,List.length_append,List.length_set];omega) (by first|omega|simp only[List.length_nil,List.length_cons,List.length_append,List.length_set];omega)) ?_
      rintro _ _ ⟨rp7,rc8,rfl,rfl⟩
      refine lE iT (aH (dM [false,true,true,true,true] rfl ?_))
      exact bI ⟨(out++[(⟨n,a⟩:KPu)]),rp7,rc8,true,⟨rfl,rfl,rfl,rfl,rfl,rfl,rfl⟩,rfl,⟨by first|omega|(rw[List.length_append,List.length_singleton];omega),by rw[hwi,hdn,aYo hkl hc5]<;>simp only[sB,rB,List.append_assoc]⟩⟩
     refine cD ?_
     exact bI ⟨out,p,c,true,⟨rfl,rfl,rfl,rfl,rfl,rfl,rfl⟩,rfl,⟨by first|omega|(rw[List.length_append,List.length_singleton];omega),by rw[hwi,hdn,aYn hkl (Decidable.not_not.1 hc5)]⟩⟩
    refine aC (lE fJ (lv (v:= .bool true) (aVn (c:=true) (by rw[hdn];rfl) (aFk rfl)) (lE fJ (gE aX (gE aY (gE (fR 3) (gE gO ?_)))))))
    refine cL (v:= .bool false) rfl rfl rfl rfl rfl (iM (by omega) (fC (a:=((k:Nat):Int)) (b:=((ps.length:Nat):Int)) rfl rfl)) ?_
    refine gE fJ (gE aY (gE (fR 3) (gE aX ?_)))
    obtain⟨x9,hx10⟩:=kO ps k (by omega)
    obtain⟨ha11,cs12,hc13,rfl⟩:=ve _ _ hx10
    refine gE (sJ zQ ha11) (gE ofa ?_)
    refine cL (v:=Ix (x9.owner)) rfl rfl rfl rfl rfl (bH tr1.ok rfl (bF.imp (kB hc13) (fun _ h=>Cs.sub (vs:=[Ix (x9.owner)]) 0 h rfl))) ?_
    refine gE aX (gE oge (gE dP (lE eC (aN (cG _ rfl (fun hc15=> ?_) (fun hc15=> ?_))))))
    ·refine bE (lE dW (eY (lE (dD 2) ?_)))
     refine lv (v:= .agg #[.int .i64 (0),.int .i64 (0),.int .i64 (0),.int .i64 (0)]) (eQ tr2.ok sM.ok (vs:=[]) (cells:= #[.int .i64 (0),.int .i64 (0),.int .i64 (0),.int .i64 (0)]) rfl rfl) ?_
     refine lv (v:= .bool (decide (¬(a=zeroA)))) (gS (xs:=oK a) (ys:=oK zeroA) aXx aXy aXz rfl rfl rfl rfl (not_congr (kP (x:=a) (y:=zeroA)))) ?_
     refine aN (cG _ rfl (fun hc16=> ?_) (fun hc16=> ?_))
     ·refine aC (lE fN (lE aX (lE (dD 2) ?_)))
      refine lv (v:= .agg #[Ix (n),Ix (a.a0),Ix (a.a1),Ix (a.a2),Ix (a.a3)]) (cR aTr.ok bEt (vs:=[(0,Ix (n)),(1,.agg (eI a))]) (cells:= #[Ix (n),Ix (a.a0),Ix (a.a1),Ix (a.a2),Ix (a.a3)]) rfl rfl) ?_
      refine dX rfl rfl rfl (dO zQ aTr.ok (cells:= #[Ix (n),Ix (a.a0),Ix (a.a1),Ix (a.a2),Ix (a.a3)]) rfl rfl rfl rfl) ?_
      rintro _ _ ⟨b17,rfl,rfl⟩
      refine dX rfl rfl rfl (dF (F:=jW) 1 zQ bCf (p:=p) (m:=out.length) (xs:=out) (ys:=[(⟨n,a⟩:KPu)]) (ao:=(some ⟨b17,0,none⟩)) (k:=1) (c:=1) rfl rfl rfl rfl rfl (jM (z:=(⟨n,a⟩:KPu)) 0 rfl rfl) (by first|omega|simp only[List.length_nil,List.length_cons,List.length_append,List.length_set];omega) (by first|omega|simp only[List.length_nil,List.length_cons,List.length_append,List.length_set];omega)) ?_
      rintro _ _ ⟨rp18,rc19,rfl,rfl⟩
      refine lE iT (aH (dM [false,true,true,true,true] rfl ?_))
      exact bI ⟨(out++[(⟨n,a⟩:KPu)]),rp18,rc19,true,⟨rfl,rfl,rfl,rfl,rfl,rfl,rfl⟩,rfl,⟨by first|omega|(rw[List.length_append,List.length_singleton];omega),by rw[hwi,hdn,aUe hx10 hc15 hc16]<;>simp only[sB,rB,List.append_assoc]⟩⟩
     refine cD ?_
     exact bI ⟨out,p,c,true,⟨rfl,rfl,rfl,rfl,rfl,rfl,rfl⟩,rfl,⟨by first|omega|(rw[List.length_append,List.length_singleton];omega),by rw[hwi,hdn,aUd hx10 hc15 (Decidable.not_not.1 hc16)]⟩⟩
    refine cD ?_
    exact bI ⟨out,p,c,dn,⟨rfl,rfl,rfl,rfl,rfl,rfl,rfl⟩,rfl,⟨by omega,by rw[hwi,hdn,bCs hx10 hc15]⟩⟩
   refine aC (lE fJ (lv (v:= .bool false) (aVn (c:=false) (by rw[hdn];rfl) (aFk rfl)) (lE fJ ?_)))
   iterate 6 refine iG ?_
   refine lJ rfl rfl rfl rfl rfl (lJ rfl rfl rfl rfl rfl (lJ rfl rfl rfl rfl rfl (lJ rfl rfl rfl rfl rfl ?_)))
   refine lJ rfl rfl rfl rfl rfl (lJ rfl rfl rfl rfl rfl (lJ rfl rfl rfl rfl rfl (lJ rfl rfl rfl rfl rfl (iG (lE dP (aN ?_))))))
   refine cY rfl (cD ?_)
   exact bI ⟨out,p,c,dn,⟨rfl,rfl,rfl,rfl,rfl,rfl,rfl⟩,rfl,⟨by omega,by rw[hwi,hdn,aYm (by omega)]⟩⟩
  rintro f0 L0 ⟨o2,p2,c2,dn2,⟨hs1,hs3,hs5,hs6,hs7,hs8,hs9⟩,hL,⟨hol2,hwi2⟩⟩
  subst L0
  refine bM 1 hs1 (bM 3 hs3 (bM 5 hs5 (bM 6 hs6 (bM 7 hs7 (bM 8 hs8 (bM 9 hs9 (aL ?_)))))))
  by_cases hkl:k=ps.length
  ·refine aC (lE aX (lE aY (lE (fR 3) (lE gO ?_))))
   refine lv (v:= .bool false) (iM (by omega) (aJk (a:=((k:Nat):Int)) (b:=((ps.length:Nat):Int)) rfl rfl)) (lE fJ ?_)
   iterate 8 refine iG ?_
   refine lE dP (aN (cY rfl (cD (aR (bD (aC (lE aX (lv (v:=Nx (k+1)) (bX rfl rfl (dA (by omega) (by omega))) ?_))))))))
   refine lE bN (aH ?_)
   exact bI ⟨(k+1,o2,p2,c2,dn2),⟨⟨rfl,rfl,rfl,rfl,rfl,rfl,rfl⟩,rfl,⟨by omega,by first|omega|(rw[List.length_append,List.length_singleton];omega),by rw[hwi2,bCt hkl]⟩⟩,(show ps.length+1-(k+1)<ps.length+1-k from by omega)⟩
  refine aC (lE aX (lE aY (lE (fR 3) (lE gO ?_))))
  refine lv (v:= .bool true) (yF (by omega) (aJk (a:=((k:Nat):Int)) (b:=((ps.length:Nat):Int)) rfl rfl)) (lE fJ (gE aY ?_))
  refine gE (fR 3) (gE aX ?_)
  obtain⟨x20,hx21⟩:=kO ps k (by omega)
  obtain⟨ha22,cs23,hc24,rfl⟩:=ve _ _ hx21
  refine gE (sJ zQ ha22) (gE ofa ?_)
  refine cL (v:=Ix (x20.owner)) rfl rfl rfl rfl rfl (bH tr1.ok rfl (bF.imp (kB hc24) (fun _ h=>Cs.sub (vs:=[Ix (x20.owner)]) 0 h rfl))) ?_
  refine gE aX (gE lC (lE eC (aN (cG _ rfl (fun hc26=> ?_) (fun hc26=> ?_)))))
  ·refine aC (lE fN (lE aY (lE (fR 3) (lE aX (lE (sJ zQ ha22) ?_)))))
   refine lv (v:= .agg #[Ix (x20.owner),Ix (x20.a.a0),Ix (x20.a.a1),Ix (x20.a.a2),Ix (x20.a.a3)]) (fS bHu.ok rfl (kB hc24) rfl) ?_
   refine dX rfl rfl rfl (dO zQ aTr.ok (cells:= #[Ix (x20.owner),Ix (x20.a.a0),Ix (x20.a.a1),Ix (x20.a.a2),Ix (x20.a.a3)]) rfl rfl rfl rfl) ?_
   rintro _ _ ⟨b27,rfl,rfl⟩
   refine dX rfl rfl rfl (dF (F:=jW) 1 zQ bCf (p:=p2) (m:=o2.length) (xs:=o2) (ys:=[x20]) (ao:=(some ⟨b27,0,none⟩)) (k:=1) (c:=1) rfl rfl rfl rfl rfl (jM (z:=x20) 0 rfl rfl) (by first|omega|simp only[List.length_nil,List.length_cons,List.length_append,List.length_set];omega) (by first|omega|simp only[List.length_nil,List.length_cons,List.length_append,List.length_set];omega)) ?_
   rintro _ _ ⟨rp28,rc29,rfl,rfl⟩
   refine lE iT (aH (aR (bD (aC (lE aX (lv (v:=Nx (k+1)) (bX rfl rfl (dA (by omega) (by omega))) (lE bN (aH ?_))))))))
   refine dM [false,true,true,true,true] rfl ?_
   exact bI ⟨(k+1,(o2++[x20]),rp28,rc29,dn2),⟨⟨rfl,rfl,rfl,rfl,rfl,rfl,rfl⟩,rfl,⟨by omega,by first|omega|(rw[List.length_append,List.length_singleton];omega),by rw[hwi2,bGv hx21 hc26]<;>simp only[sB,rB,List.append_assoc]⟩⟩,(show ps.length+1-(k+1)<ps.length+1-k from by omega)⟩
  refine cD (aR (bD (aC (lE aX (lv (v:=Nx (k+1)) (bX rfl rfl (dA (by omega) (by omega))) (lE bN (aH ?_)))))))
  exact bI ⟨(k+1,o2,p2,c2,dn2),⟨⟨rfl,rfl,rfl,rfl,rfl,rfl,rfl⟩,rfl,⟨by omega,by first|omega|(rw[List.length_append,List.length_singleton];omega),by rw[hwi2,bGu hx21 (Decidable.not_not.1 hc26)]⟩⟩,(show ps.length+1-(k+1)<ps.length+1-k from by omega)⟩
 refine cM (aG (aG (cN (kM (lE fN (lE aY ?_))))))
 refine lu (mS 3 (#[sB p out c,.slice q1 (m1) d1,Ix (la),Ix (su.a0),Ix (su.a1),Ix (su.a2),Ix (su.a3),.slice q2 (m2) d2])) (eY (lE (dD 3) ?_))
 refine lu (mS 1 (#[sB p out c,.slice q1 (m1) d1,Ix (la),Ix (su.a0),Ix (su.a1),Ix (su.a2),Ix (su.a3),.slice q2 (m2) d2])) (aN (aT ?_))
 refine gA (m:=[.agg #[sB p out c,.slice q1 (m1) d1,Ix (la),Ix (su.a0),Ix (su.a1),Ix (su.a2),Ix (su.a3),.slice q2 (m2) d2]]) Tryz.results124 ⟨bQ bHv.ok rfl (bY 1 rfl rfl) rfl,trivial⟩ rfl ?_
 intro w hw
 have hoe:out=cJ n a false ps:=by rw[hwi,aYp (by omega),List.append_nil]
 subst hoe
 exact⟨p,c,rfl,aF [true,false,false,false] rfl hw⟩
end Go.Proofs
