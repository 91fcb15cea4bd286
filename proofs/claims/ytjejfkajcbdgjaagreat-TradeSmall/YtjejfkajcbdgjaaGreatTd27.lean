/-
 The reference's amounts and purses: walked. Printed by a program of my own.
-/
import Derived.Test.YtjejfkajcbdgjaaGreatTdOpen
set_option linter.all false
set_option maxHeartbeats 4000000
namespace Go.Proofs
open Go Go.Sl Go.Td Go.Jn
instance sY:ArrC Tryz.prog 43 4 3 1:={}
instance tr1:TyC Tryz.prog 3 false 1:={}
instance tr2:ZerC Tryz.prog 43 (.agg #[.int .i64 (0),.int .i64 (0),.int .i64 (0),.int .i64 (0)]):={}
instance tr3:TyC Tryz.prog 43 true 4:={}
instance tr4:FldC Tryz.prog 120 0 0 1 false:={}
instance tr5:TyC Tryz.prog 5 false 1:={}
instance tr6:FldC Tryz.prog 120 1 1 1 false:={}
instance tr7:CfC Tryz.prog 97:={}
instance tr8:FldC Tryz.prog 120 2 2 1 false:={}
instance tr9:FldC Tryz.prog 120 3 3 1 false:={}
instance tr10:FldC Tryz.prog 120 4 4 4 true:={}
instance bFp:CfC Tryz.prog 98:={}
theorem aYn:zC Tryz.prog 10000 43=some [.int .i64,.int .i64,.int .i64,.int .i64]:=by kernel_rfl
theorem aYo:gM Tryz.prog 43=true:=by kernel_rfl
theorem aYp:Tryz.prog.eqGuardType Tryz.prog.depth 43=false:=by kernel_rfl
instance tr15:FldC Tryz.prog 62 0 0 1 false:={}
instance tr16:TyC Tryz.prog 58 false 1:={}
instance tr17:UndC Tryz.prog 58 128:={}
theorem aAf:lY Tryz.prog 58 128 5=true:=by kernel_rfl
instance tr19:FldC Tryz.prog 128 0 0 1 false:={}
instance tr20:FldC Tryz.prog 128 1 1 4 true:={}
instance tr21:ZerC Tryz.prog 62 (.agg #[.slice none 0 0,.slice none 0 0,.int .i64 (0),.int .i64 (0),.int .i64 (0),.int .i64 (0),.int .i64 (0),.slice none 0 0]):={}
theorem bFq:xC Tryz.prog 128 [(0,1),(1,4)]=true:=by kernel_rfl
instance aUh:ZerC Tryz.prog 128 (.agg #[.int .i64 (0),.int .i64 (0),.int .i64 (0),.int .i64 (0),.int .i64 (0)]):={}
theorem bCx:vR Tryz.prog 128 5 40=true:=by kernel_rfl
instance bIv:TyC Tryz.prog 128 true 5:={}
instance bIw:TyC Tryz.prog 62 true 8:={}
theorem sN(β:Base)(w:World)(hw:St β [] w)(n:Int):oP Tryz.prog 97 #[Ix n] β w (.bool (fE n)):=by
 refine enter (n:=9) Tryz.func97 rfl Tryz.ntmps97 rfl ?_ hw
 refine bD (lE dP (eY (lE aU (lE oge (zA (decide ((1:Int)≤(n))) (decide ((n)≤(65536:Int))) rfl (fun hb1 hk1=> ?_) (fun z2 z3=> ?_))))))
 ·have hb1p:=of_decide_eq_true hb1
  refine gE aU (gE ole (lE eF ?_))
  exact hk1 _ _
 refine lE dP (aN (aV (dJ Tryz.results97 rfl ?_)))
 intro w hw
 exact⟨rfl,aG [] rfl hw⟩
theorem lI(β:Base)(w:World)(hw:St β [] w)(a:KAm):oP Tryz.prog 98 #[.agg (eK a)] β w (.bool a.within):=by
 refine enter (n:=18) Tryz.func98 rfl Tryz.ntmps98 rfl ?_ hw
 refine bD (mL fun b1=> ?_)
 refine lE dP (aN (eR (aC (lE bN (aN (aJ (mU 5 (eH 4 (eR (aC (lE aU (lE gN (aN (dN rfl (eB (aL (aJ ?_)))))))))))))))))
 refine aL ?_
 rcases lU (a.a0)with hi0|hi0
 ·refine aC (lE aU (lv (v:=pp b1 0) (bF (b:=b1) (o:=0) (k:=0) rfl rfl sY.ok (by decide)) (lE (cY 0) (lE gN ?_))))
  refine tE (decide ((a.a0)<(0:Int))) (decide ((2147483647:Int)<(a.a0))) rfl (fun hb2 hk2=> ?_) (fun z3 z4 z5 z6=> ?_)
  ·have hb2p:=of_decide_eq_false hb2
   refine gE aU (cU (v:=pp b1 0) rfl rfl rfl rfl rfl (bF (b:=b1) (o:=0) (k:=0) rfl rfl sY.ok (by decide)) (gE (cY 0) (gE oQ ?_)))
   refine lE dT ?_
   exact hk2 _ _ _ _
  refine aN (fH (((decide ((a.a0)<(0:Int)))||(decide ((2147483647:Int)<(a.a0))))) rfl (fun hc7=> ?_) (fun hc7=> ?_))
  ·rw[hi0.2]at hc7;cases hc7
  refine cG (aP (bA (aC (lE aU (lE rF (lE bN (aH (bG (eH 3 (eR (aC (lE aU (lE gN (aN (dN rfl (eB ?_))))))))))))))))
  refine aL (aJ (aL ?_))
  rcases lU (a.a1)with hi1|hi1
  ·refine aC (lE aU (lv (v:=pp b1 1) (bF (b:=b1) (o:=0) (k:=1) rfl rfl sY.ok (by decide)) (lE (cY 0) (lE gN ?_))))
   refine tE (decide ((a.a1)<(0:Int))) (decide ((2147483647:Int)<(a.a1))) rfl (fun hb8 hk8=> ?_) (fun z9 z10 z11 z12=> ?_)
   ·have hb8p:=of_decide_eq_false hb8
    refine gE aU (cU (v:=pp b1 1) rfl rfl rfl rfl rfl (bF (b:=b1) (o:=0) (k:=1) rfl rfl sY.ok (by decide)) (gE (cY 0) (gE oQ ?_)))
    refine lE dT ?_
    exact hk8 _ _ _ _
   refine aN (fH (((decide ((a.a1)<(0:Int)))||(decide ((2147483647:Int)<(a.a1))))) rfl (fun hc13=> ?_) (fun hc13=> ?_))
   ·rw[hi1.2]at hc13;cases hc13
   refine cG (aP (bA (aC (lE aU (lE rF (lE bN (aH (bG (eH 2 (eR (aC (lE aU (lE gN (aN (dN rfl (eB ?_))))))))))))))))
   refine aL (aJ (aL ?_))
   rcases lU (a.a2)with hi2|hi2
   ·refine aC (lE aU (lv (v:=pp b1 2) (bF (b:=b1) (o:=0) (k:=2) rfl rfl sY.ok (by decide)) (lE (cY 0) (lE gN ?_))))
    refine tE (decide ((a.a2)<(0:Int))) (decide ((2147483647:Int)<(a.a2))) rfl (fun hb14 hk14=> ?_) (fun z15 z16 z17 z18=> ?_)
    ·have hb14p:=of_decide_eq_false hb14
     refine gE aU (cU (v:=pp b1 2) rfl rfl rfl rfl rfl (bF (b:=b1) (o:=0) (k:=2) rfl rfl sY.ok (by decide)) (gE (cY 0) (gE oQ ?_)))
     refine lE dT ?_
     exact hk14 _ _ _ _
    refine aN (fH (((decide ((a.a2)<(0:Int)))||(decide ((2147483647:Int)<(a.a2))))) rfl (fun hc19=> ?_) (fun hc19=> ?_))
    ·rw[hi2.2]at hc19;cases hc19
    refine cG (aP (bA (aC (lE aU (lE rF (lE bN (aH (bG (eH 1 (eR (aC (lE aU (lE gN (aN (dN rfl (eB ?_))))))))))))))))
    refine aL (aJ (aL ?_))
    rcases lU (a.a3)with hi3|hi3
    ·refine aC (lE aU (lv (v:=pp b1 3) (bF (b:=b1) (o:=0) (k:=3) rfl rfl sY.ok (by decide)) (lE (cY 0) (lE gN ?_))))
     refine tE (decide ((a.a3)<(0:Int))) (decide ((2147483647:Int)<(a.a3))) rfl (fun hb20 hk20=> ?_) (fun z21 z22 z23 z24=> ?_)
     ·have hb20p:=of_decide_eq_false hb20
      refine gE aU (cU (v:=pp b1 3) rfl rfl rfl rfl rfl (bF (b:=b1) (o:=0) (k:=3) rfl rfl sY.ok (by decide)) (gE (cY 0) (gE oQ ?_)))
      refine lE dT ?_
      exact hk20 _ _ _ _
     refine aN (fH (((decide ((a.a3)<(0:Int)))||(decide ((2147483647:Int)<(a.a3))))) rfl (fun hc25=> ?_) (fun hc25=> ?_))
     ·rw[hi3.2]at hc25;cases hc25
     refine cG (aP (bA (aC (lE aU (lE rF (lE bN (aH (bG (eH 0 (eR (aC (lE aU (lE gN (aN (cR rfl (cK ?_))))))))))))))))
     refine aF (aF (cL (kM (lE dP (aN (aV (dJ Tryz.results98 rfl ?_)))))))
     intro w hw
     exact⟨by rw[aHm hi0.1 hi1.1 hi2.1 hi3.1]<;>rfl,aG [false] rfl hw⟩
    refine aC (lE aU (lv (v:=pp b1 3) (bF (b:=b1) (o:=0) (k:=3) rfl rfl sY.ok (by decide)) (lE (cY 0) (lE gN ?_))))
    refine tE (decide ((a.a3)<(0:Int))) (decide ((2147483647:Int)<(a.a3))) rfl (fun hb26 hk26=> ?_) (fun z27 z28 z29 z30=> ?_)
    ·have hb26p:=of_decide_eq_false hb26
     refine gE aU (cU (v:=pp b1 3) rfl rfl rfl rfl rfl (bF (b:=b1) (o:=0) (k:=3) rfl rfl sY.ok (by decide)) (gE (cY 0) (gE oQ ?_)))
     refine lE dT ?_
     exact hk26 _ _ _ _
    refine aN (fH (((decide ((a.a3)<(0:Int)))||(decide ((2147483647:Int)<(a.a3))))) rfl (fun hc31=> ?_) (fun hc31=> ?_))
    ·refine bD (lE dP (aN (aV (aR (aI (aI (aR (aI (dJ Tryz.results98 rfl ?_)))))))))
     intro w hw
     exact⟨by rw[aHl hi3.1]<;>rfl,aG [false] rfl hw⟩
    rw[hi3.2]at hc31;cases hc31
   refine aC (lE aU (lv (v:=pp b1 2) (bF (b:=b1) (o:=0) (k:=2) rfl rfl sY.ok (by decide)) (lE (cY 0) (lE gN ?_))))
   refine tE (decide ((a.a2)<(0:Int))) (decide ((2147483647:Int)<(a.a2))) rfl (fun hb32 hk32=> ?_) (fun z33 z34 z35 z36=> ?_)
   ·have hb32p:=of_decide_eq_false hb32
    refine gE aU (cU (v:=pp b1 2) rfl rfl rfl rfl rfl (bF (b:=b1) (o:=0) (k:=2) rfl rfl sY.ok (by decide)) (gE (cY 0) (gE oQ ?_)))
    refine lE dT ?_
    exact hk32 _ _ _ _
   refine aN (fH (((decide ((a.a2)<(0:Int)))||(decide ((2147483647:Int)<(a.a2))))) rfl (fun hc37=> ?_) (fun hc37=> ?_))
   ·refine bD (lE dP (aN (aV (aR (aI (aI (aR (aI (dJ Tryz.results98 rfl ?_)))))))))
    intro w hw
    exact⟨by rw[aHk hi2.1]<;>rfl,aG [false] rfl hw⟩
   rw[hi2.2]at hc37;cases hc37
  refine aC (lE aU (lv (v:=pp b1 1) (bF (b:=b1) (o:=0) (k:=1) rfl rfl sY.ok (by decide)) (lE (cY 0) (lE gN ?_))))
  refine tE (decide ((a.a1)<(0:Int))) (decide ((2147483647:Int)<(a.a1))) rfl (fun hb38 hk38=> ?_) (fun z39 z40 z41 z42=> ?_)
  ·have hb38p:=of_decide_eq_false hb38
   refine gE aU (cU (v:=pp b1 1) rfl rfl rfl rfl rfl (bF (b:=b1) (o:=0) (k:=1) rfl rfl sY.ok (by decide)) (gE (cY 0) (gE oQ ?_)))
   refine lE dT ?_
   exact hk38 _ _ _ _
  refine aN (fH (((decide ((a.a1)<(0:Int)))||(decide ((2147483647:Int)<(a.a1))))) rfl (fun hc43=> ?_) (fun hc43=> ?_))
  ·refine bD (lE dP (aN (aV (aR (aI (aI (aR (aI (dJ Tryz.results98 rfl ?_)))))))))
   intro w hw
   exact⟨by rw[aHj hi1.1]<;>rfl,aG [false] rfl hw⟩
  rw[hi1.2]at hc43;cases hc43
 refine aC (lE aU (lv (v:=pp b1 0) (bF (b:=b1) (o:=0) (k:=0) rfl rfl sY.ok (by decide)) (lE (cY 0) (lE gN ?_))))
 refine tE (decide ((a.a0)<(0:Int))) (decide ((2147483647:Int)<(a.a0))) rfl (fun hb44 hk44=> ?_) (fun z45 z46 z47 z48=> ?_)
 ·have hb44p:=of_decide_eq_false hb44
  refine gE aU (cU (v:=pp b1 0) rfl rfl rfl rfl rfl (bF (b:=b1) (o:=0) (k:=0) rfl rfl sY.ok (by decide)) (gE (cY 0) (gE oQ ?_)))
  refine lE dT ?_
  exact hk44 _ _ _ _
 refine aN (fH (((decide ((a.a0)<(0:Int)))||(decide ((2147483647:Int)<(a.a0))))) rfl (fun hc49=> ?_) (fun hc49=> ?_))
 ·refine bD (lE dP (aN (aV (aR (aI (aI (aR (aI (dJ Tryz.results98 rfl ?_)))))))))
  intro w hw
  exact⟨by rw[aHi hi0.1]<;>rfl,aG [false] rfl hw⟩
 rw[hi0.2]at hc49;cases hc49
theorem pN(β:Base)(w:World)(hw:St β [] w)(a b:KAm)(s:Int)(hs:s=1∨s= -1)(ha:a.bd 4611686018427387903)(hb:b.bd 4611686018427387903):oP Tryz.prog 122 #[.agg (eK a),.agg (eK b),Ix s] β w (.agg (eK (a.plus b s))):=by
 obtain⟨ha0,ha1,ha2,ha3⟩:=ha
 obtain⟨hb0,hb1,hb2,hb3⟩:=hb
 have hm0: -4611686018427387903≤s*b.a0∧s*b.a0≤4611686018427387903:=by rcases hs with rfl|rfl<;>omega
 have hm1: -4611686018427387903≤s*b.a1∧s*b.a1≤4611686018427387903:=by rcases hs with rfl|rfl<;>omega
 have hm2: -4611686018427387903≤s*b.a2∧s*b.a2≤4611686018427387903:=by rcases hs with rfl|rfl<;>omega
 have hm3: -4611686018427387903≤s*b.a3∧s*b.a3≤4611686018427387903:=by rcases hs with rfl|rfl<;>omega
 refine enter (n:=24) Tryz.func122 rfl Tryz.ntmps122 rfl ?_ hw
 refine bD (mL fun b1=> ?_)
 refine mL fun b2=> ?_
 refine gB fun b3=>aN (eR (aC (lE bN (aN (aJ (mU 5 (eH 4 (eR (aC (lE aU (lE gN (aN (dN rfl (eB (aL ?_)))))))))))))))
 refine aJ ?_
 refine jS [sv 12 (.int .i64 (0)) [] [] [0],sv 13 (.int .i64 (0)) [] [] [0],sv 14 (pp b1 0) [1] [1] [1],sv 15 (Ix (a.a0)) [1,2] [2] [],sv 16 (Ix (s)) [] [] [2],sv 17 (.int .i64 (0)) [] [] [0],sv 18 (pp b2 0) [5] [5] [3],sv 19 (Ix (b.a0)) [5,6] [6] [],sv 20 (Ix ((s)*(b.a0))) [4,5,6,7] [4,7] [],sv 21 (Ix ((a.a0)+((s)*(b.a0)))) [1,2,3,4,5,6,7,8] [3,8] [],sv 22 (pp b1 0) (List.range 10) [0] [1],⟨(List.range 11),[10,9],[],[],fun _=>True⟩] [u0,u1 [7],(some 11,[3,11])] [⟨(some 11),none,[],[],fun _=>pt b1 (.cells #[Ix ((a.a0)+((s)*(b.a0))),Ix (a.a1),Ix (a.a2),Ix (a.a3)] 43)⟩] [(7,.int .i64 (0)),(3,pp b1 0),(2,Ix (s)),(4,pp b2 0),(6,pp b3 0)] [2,1,3,4,0] ⟨rfl,rfl,rfl,rfl,rfl,trivial⟩ ⟨?_,?_,?_,?_,?_,?_,?_,?_,?_,?_,?_,?_,trivial⟩ ?_
 ·rintro f M-⟨i0,-⟩
  exact aT aU
 ·rintro f M-⟨i0,-⟩
  exact aT aU
 ·rintro f M ⟨k0,-⟩ ⟨i0,-⟩
  exact gO (aA (d:=13) (aA (d:=3) rfl i0) k0) rfl (bF (b:=b1) (o:=0) (k:=0) rfl rfl sY.ok (by decide)) (.refl _)
 ·rintro f M ⟨k0,-⟩-
  exact aT (cY 0)
 ·rintro f M-⟨i0,-⟩
  exact aT aU
 ·rintro f M-⟨i0,-⟩
  exact aT aU
 ·rintro f M ⟨k0,-⟩ ⟨i0,-⟩
  exact gO (aA (d:=17) (aA (d:=4) rfl i0) k0) rfl (bF (b:=b2) (o:=0) (k:=0) rfl rfl sY.ok (by decide)) (.refl _)
 ·rintro f M ⟨k0,-⟩-
  exact aT (cY 0)
 ·rintro f M ⟨k0,k1,-⟩-
  exact aT otm
 ·rintro f M ⟨k0,k1,-⟩-
  exact aT rF
 ·rintro f M ⟨k0,-⟩ ⟨i0,-⟩
  exact gO (aA (d:=12) (aA (d:=3) rfl i0) k0) rfl (bF (b:=b1) (o:=0) (k:=0) rfl rfl sY.ok (by decide)) (.refl _)
 ·rintro f M ⟨k0,k1,-⟩-
  refine dL (aA (d:=21) (aA (d:=22) rfl k0) k1) ?_
  refine lu (mS 0 (#[Ix ((a.a0)+((s)*(b.a0))),Ix (a.a1),Ix (a.a2),Ix (a.a3)])) (aH ?_)
  exact bC (aA (d:=21) (aA (d:=22) rfl k0) k1) trivial (aB 0 rfl)
 rintro fa4 ⟨-,-,-,-,-,-,-,-,-,-,-,-,-⟩ ⟨j0,j1,j2,j3,j4,-⟩
 refine jD ?_
 refine aD (d:=2) j0 (aD (d:=3) j1 (aD (d:=4) j2 (aD (d:=6) j3 (aD (d:=7) j4 (aP (bA (aC ?_)))))))
 refine lE aU (lE rF (lE bN (aH (bG (eH 3 (eR (aC (lE aU (lE gN (aN (dN rfl (eB (aL (aJ ?_))))))))))))))
 refine jS [sv 12 (.int .i64 (1)) [] [] [0],sv 13 (.int .i64 (1)) [] [] [0],sv 14 (pp b1 1) [1] [1] [1],sv 15 (Ix (a.a1)) [1,2] [2] [],sv 16 (Ix (s)) [] [] [2],sv 17 (.int .i64 (1)) [] [] [0],sv 18 (pp b2 1) [5] [5] [3],sv 19 (Ix (b.a1)) [5,6] [6] [],sv 20 (Ix ((s)*(b.a1))) [4,5,6,7] [4,7] [],sv 21 (Ix ((a.a1)+((s)*(b.a1)))) [1,2,3,4,5,6,7,8] [3,8] [],sv 22 (pp b1 1) (List.range 10) [0] [1],⟨(List.range 11),[10,9],[],[],fun _=>True⟩] [u0,u1 [7],(some 11,[3,11])] [⟨(some 11),none,[],[],fun _=>pt b1 (.cells #[Ix ((a.a0)+((s)*(b.a0))),Ix ((a.a1)+((s)*(b.a1))),Ix (a.a2),Ix (a.a3)] 43)⟩] [(7,.int .i64 (1)),(3,pp b1 0),(2,Ix (s)),(4,pp b2 0),(6,pp b3 0)] [2,1,3,4,0] ⟨rfl,rfl,rfl,rfl,rfl,trivial⟩ ⟨?_,?_,?_,?_,?_,?_,?_,?_,?_,?_,?_,?_,trivial⟩ ?_
 ·rintro f M-⟨i0,-⟩
  exact aT aU
 ·rintro f M-⟨i0,-⟩
  exact aT aU
 ·rintro f M ⟨k0,-⟩ ⟨i0,-⟩
  exact gO (aA (d:=13) (aA (d:=3) rfl i0) k0) rfl (bF (b:=b1) (o:=0) (k:=1) rfl rfl sY.ok (by decide)) (.refl _)
 ·rintro f M ⟨k0,-⟩-
  exact aT (cY 0)
 ·rintro f M-⟨i0,-⟩
  exact aT aU
 ·rintro f M-⟨i0,-⟩
  exact aT aU
 ·rintro f M ⟨k0,-⟩ ⟨i0,-⟩
  exact gO (aA (d:=17) (aA (d:=4) rfl i0) k0) rfl (bF (b:=b2) (o:=0) (k:=1) rfl rfl sY.ok (by decide)) (.refl _)
 ·rintro f M ⟨k0,-⟩-
  exact aT (cY 0)
 ·rintro f M ⟨k0,k1,-⟩-
  exact aT otm
 ·rintro f M ⟨k0,k1,-⟩-
  exact aT rF
 ·rintro f M ⟨k0,-⟩ ⟨i0,-⟩
  exact gO (aA (d:=12) (aA (d:=3) rfl i0) k0) rfl (bF (b:=b1) (o:=0) (k:=1) rfl rfl sY.ok (by decide)) (.refl _)
 ·rintro f M ⟨k0,k1,-⟩-
  refine dL (aA (d:=21) (aA (d:=22) rfl k0) k1) ?_
  refine lu (mS 0 (#[Ix ((a.a0)+((s)*(b.a0))),Ix ((a.a1)+((s)*(b.a1))),Ix (a.a2),Ix (a.a3)])) (aH ?_)
  exact bC (aA (d:=21) (aA (d:=22) rfl k0) k1) trivial (aB 0 rfl)
 rintro fa5 ⟨-,-,-,-,-,-,-,-,-,-,-,-,-⟩ ⟨j0,j1,j2,j3,j4,-⟩
 refine jD ?_
 refine aD (d:=2) j0 (aD (d:=3) j1 (aD (d:=4) j2 (aD (d:=6) j3 (aD (d:=7) j4 (aP (bA (aC ?_)))))))
 refine lE aU (lE rF (lE bN (aH (bG (eH 2 (eR (aC (lE aU (lE gN (aN (dN rfl (eB (aL (aJ ?_))))))))))))))
 refine jS [sv 12 (.int .i64 (2)) [] [] [0],sv 13 (.int .i64 (2)) [] [] [0],sv 14 (pp b1 2) [1] [1] [1],sv 15 (Ix (a.a2)) [1,2] [2] [],sv 16 (Ix (s)) [] [] [2],sv 17 (.int .i64 (2)) [] [] [0],sv 18 (pp b2 2) [5] [5] [3],sv 19 (Ix (b.a2)) [5,6] [6] [],sv 20 (Ix ((s)*(b.a2))) [4,5,6,7] [4,7] [],sv 21 (Ix ((a.a2)+((s)*(b.a2)))) [1,2,3,4,5,6,7,8] [3,8] [],sv 22 (pp b1 2) (List.range 10) [0] [1],⟨(List.range 11),[10,9],[],[],fun _=>True⟩] [u0,u1 [7],(some 11,[3,11])] [⟨(some 11),none,[],[],fun _=>pt b1 (.cells #[Ix ((a.a0)+((s)*(b.a0))),Ix ((a.a1)+((s)*(b.a1))),Ix ((a.a2)+((s)*(b.a2))),Ix (a.a3)] 43)⟩] [(7,.int .i64 (2)),(3,pp b1 0),(2,Ix (s)),(4,pp b2 0),(6,pp b3 0)] [2,1,3,4,0] ⟨rfl,rfl,rfl,rfl,rfl,trivial⟩ ⟨?_,?_,?_,?_,?_,?_,?_,?_,?_,?_,?_,?_,trivial⟩ ?_
 ·rintro f M-⟨i0,-⟩
  exact aT aU
 ·rintro f M-⟨i0,-⟩
  exact aT aU
 ·rintro f M ⟨k0,-⟩ ⟨i0,-⟩
  exact gO (aA (d:=13) (aA (d:=3) rfl i0) k0) rfl (bF (b:=b1) (o:=0) (k:=2) rfl rfl sY.ok (by decide)) (.refl _)
 ·rintro f M ⟨k0,-⟩-
  exact aT (cY 0)
 ·rintro f M-⟨i0,-⟩
  exact aT aU
 ·rintro f M-⟨i0,-⟩
  exact aT aU
 ·rintro f M ⟨k0,-⟩ ⟨i0,-⟩
  exact gO (aA (d:=17) (aA (d:=4) rfl i0) k0) rfl (bF (b:=b2) (o:=0) (k:=2) rfl rfl sY.ok (by decide)) (.refl _)
 ·rintro f M ⟨k0,-⟩-
  exact aT (cY 0)
 ·rintro f M ⟨k0,k1,-⟩-
  exact aT otm
 ·rintro f M ⟨k0,k1,-⟩-
  exact aT rF
 ·rintro f M ⟨k0,-⟩ ⟨i0,-⟩
  exact gO (aA (d:=12) (aA (d:=3) rfl i0) k0) rfl (bF (b:=b1) (o:=0) (k:=2) rfl rfl sY.ok (by decide)) (.refl _)
 ·rintro f M ⟨k0,k1,-⟩-
  refine dL (aA (d:=21) (aA (d:=22) rfl k0) k1) ?_
  refine lu (mS 0 (#[Ix ((a.a0)+((s)*(b.a0))),Ix ((a.a1)+((s)*(b.a1))),Ix ((a.a2)+((s)*(b.a2))),Ix (a.a3)])) (aH ?_)
  exact bC (aA (d:=21) (aA (d:=22) rfl k0) k1) trivial (aB 0 rfl)
 rintro fa6 ⟨-,-,-,-,-,-,-,-,-,-,-,-,-⟩ ⟨j0,j1,j2,j3,j4,-⟩
 refine jD ?_
 refine aD (d:=2) j0 (aD (d:=3) j1 (aD (d:=4) j2 (aD (d:=6) j3 (aD (d:=7) j4 (aP (bA (aC ?_)))))))
 refine lE aU (lE rF (lE bN (aH (bG (eH 1 (eR (aC (lE aU (lE gN (aN (dN rfl (eB (aL (aJ ?_))))))))))))))
 refine jS [sv 12 (.int .i64 (3)) [] [] [0],sv 13 (.int .i64 (3)) [] [] [0],sv 14 (pp b1 3) [1] [1] [1],sv 15 (Ix (a.a3)) [1,2] [2] [],sv 16 (Ix (s)) [] [] [2],sv 17 (.int .i64 (3)) [] [] [0],sv 18 (pp b2 3) [5] [5] [3],sv 19 (Ix (b.a3)) [5,6] [6] [],sv 20 (Ix ((s)*(b.a3))) [4,5,6,7] [4,7] [],sv 21 (Ix ((a.a3)+((s)*(b.a3)))) [1,2,3,4,5,6,7,8] [3,8] [],sv 22 (pp b1 3) (List.range 10) [0] [1],⟨(List.range 11),[10,9],[],[],fun _=>True⟩] [u0,u1 [7],(some 11,[3,11])] [⟨(some 11),none,[],[],fun _=>pt b1 (.cells #[Ix ((a.a0)+((s)*(b.a0))),Ix ((a.a1)+((s)*(b.a1))),Ix ((a.a2)+((s)*(b.a2))),Ix ((a.a3)+((s)*(b.a3)))] 43)⟩] [(7,.int .i64 (3)),(3,pp b1 0),(2,Ix (s)),(4,pp b2 0),(6,pp b3 0)] [2,1,3,4,0] ⟨rfl,rfl,rfl,rfl,rfl,trivial⟩ ⟨?_,?_,?_,?_,?_,?_,?_,?_,?_,?_,?_,?_,trivial⟩ ?_
 ·rintro f M-⟨i0,-⟩
  exact aT aU
 ·rintro f M-⟨i0,-⟩
  exact aT aU
 ·rintro f M ⟨k0,-⟩ ⟨i0,-⟩
  exact gO (aA (d:=13) (aA (d:=3) rfl i0) k0) rfl (bF (b:=b1) (o:=0) (k:=3) rfl rfl sY.ok (by decide)) (.refl _)
 ·rintro f M ⟨k0,-⟩-
  exact aT (cY 0)
 ·rintro f M-⟨i0,-⟩
  exact aT aU
 ·rintro f M-⟨i0,-⟩
  exact aT aU
 ·rintro f M ⟨k0,-⟩ ⟨i0,-⟩
  exact gO (aA (d:=17) (aA (d:=4) rfl i0) k0) rfl (bF (b:=b2) (o:=0) (k:=3) rfl rfl sY.ok (by decide)) (.refl _)
 ·rintro f M ⟨k0,-⟩-
  exact aT (cY 0)
 ·rintro f M ⟨k0,k1,-⟩-
  exact aT otm
 ·rintro f M ⟨k0,k1,-⟩-
  exact aT rF
 ·rintro f M ⟨k0,-⟩ ⟨i0,-⟩
  exact gO (aA (d:=12) (aA (d:=3) rfl i0) k0) rfl (bF (b:=b1) (o:=0) (k:=3) rfl rfl sY.ok (by decide)) (.refl _)
 ·rintro f M ⟨k0,k1,-⟩-
  refine dL (aA (d:=21) (aA (d:=22) rfl k0) k1) ?_
  refine lu (mS 0 (#[Ix ((a.a0)+((s)*(b.a0))),Ix ((a.a1)+((s)*(b.a1))),Ix ((a.a2)+((s)*(b.a2))),Ix ((a.a3)+((s)*(b.a3)))])) (aH ?_)
  exact bC (aA (d:=21) (aA (d:=22) rfl k0) k1) trivial (aB 0 rfl)
 rintro fa7 ⟨-,-,-,-,-,-,-,-,-,-,-,-,-⟩ ⟨j0,j1,j2,j3,j4,-⟩
 refine jD ?_
 refine aD (d:=2) j0 (aD (d:=3) j1 (aD (d:=4) j2 (aD (d:=6) j3 (aD (d:=7) j4 (aP (bA (aC ?_)))))))
 refine lE aU (lE rF (lE bN (aH (bG (eH 0 (eR (aC (lE aU (lE gN (aN (cR rfl (cK (aF (aF (cL ?_)))))))))))))))
 refine kM (lE (dK 2) ?_)
 refine lu (mS 0 (#[Ix ((a.a0)+((s)*(b.a0))),Ix ((a.a1)+((s)*(b.a1))),Ix ((a.a2)+((s)*(b.a2))),Ix ((a.a3)+((s)*(b.a3)))])) (aN ?_)
 refine aV ?_
 refine gK (m:=[.agg #[Ix ((a.a0)+((s)*(b.a0))),Ix ((a.a1)+((s)*(b.a1))),Ix ((a.a2)+((s)*(b.a2))),Ix ((a.a3)+((s)*(b.a3)))]]) Tryz.results122 ⟨bS tr3.ok rfl (cD 0 rfl rfl) rfl,trivial⟩ rfl ?_
 intro w hw
 exact⟨rfl,aG [false,false,false] rfl hw⟩
theorem aIz(β:Base)(w:World)(hw:St β [] w)(x:KAct):oP Tryz.prog 50 #[.agg #[Bx (x.kind),Ix (x.owner),Ix (x.other),Ix (x.hold),Ix (x.a.a0),Ix (x.a.a1),Ix (x.a.a2),Ix (x.a.a3)]] β w (.bool x.formed):=by
 refine enter (n:=97) Tryz.func50 rfl Tryz.ntmps50 rfl ?_ hw
 refine bD (mL fun b1=> ?_)
 refine lE dP (aN (eR (aC (lE aY (lE (cY 0) (aN (aJ ?_)))))))
 refine gL (fun(f:Fm) (L:List bU)=>∃(jn:Bool),(f 1=pp b1 0∧f 4=Bx (x.kind)∧f 5= .bool (jn))∧L=[pt b1 (.cells #[Bx (x.kind),Ix (x.owner),Ix (x.other),Ix (x.hold),Ix (x.a.a0),Ix (x.a.a1),Ix (x.a.a2),Ix (x.a.a3)] 120)]∧(jn=x.plain)) ?_ ?_
 ·refine bD (lE fD (lE dP (aN (cN _ rfl (fun hc2=> ?_) (fun hc2=> ?_)))))
  ·refine cG ?_
   exact bG ⟨decide (((x.kind).toNat:Int)=(1:Int)),⟨rfl,rfl,rfl⟩,rfl,(by simp_all [KAct.plain])⟩
  refine bD (lE fD (lE dP (aN (cN _ rfl (fun hc3=> ?_) (fun hc3=> ?_)))))
  ·refine cG ?_
   exact bG ⟨decide (((x.kind).toNat:Int)=(2:Int)),⟨rfl,rfl,rfl⟩,rfl,(by simp_all [KAct.plain])⟩
  refine bD (lE fD (lE dP (aN (cN _ rfl (fun hc4=> ?_) (fun hc4=> ?_)))))
  ·refine cG ?_
   exact bG ⟨decide (((x.kind).toNat:Int)=(4:Int)),⟨rfl,rfl,rfl⟩,rfl,(by simp_all [KAct.plain])⟩
  refine aC (lE fD (lE dP (aH ?_)))
  exact bG ⟨decide (((x.kind).toNat:Int)=(7:Int)),⟨rfl,rfl,rfl⟩,rfl,(by simp_all [KAct.plain])⟩
 rintro f0 L0 ⟨jn,⟨hs1,hs4,hs5⟩,hL,hjn⟩
 subst L0
 refine bJ 1 hs1 (bJ 4 hs4 (bJ 5 hs5 (fH (jn) rfl (fun hc5=> ?_) (fun hc5=> ?_))))
 ·refine bD (lE aY (lE (cY 0) (gI gH (fun w β1 sb kn hw1=>sN β1 w hw1 (x.owner)) ?_)))
  refine gF (fE x.owner) (decide ((x.other)=(0:Int))) rfl (fun hb6 hk6=> ?_) (fun z7 z8 z9=> ?_)
  ·refine gE aY (gE (cY 0) (gE fD (lE eF ?_)))
   exact hk6 _ _ _
  refine gF ((fE x.owner)&&(decide ((x.other)=(0:Int)))) (decide ((x.hold)=(0:Int))) rfl (fun hb10 hk10=> ?_) (fun z11 z12 z13=> ?_)
  ·refine gE aY (gE (cY 0) (gE fD (lE eF ?_)))
   exact hk10 _ _ _
  refine gF (((fE x.owner)&&(decide ((x.other)=(0:Int))))&&(decide ((x.hold)=(0:Int)))) x.a.within rfl (fun hb14 hk14=> ?_) (fun z15 z16 z17=> ?_)
  ·refine gE aY (gE (dK 0) (eM rfl rfl rfl rfl rfl (cT (vs:=[.agg (eK x.a)]) bFp.ok rfl rfl) ?_))
   intro w hw
   obtain⟨β1,sb,kn,hw1,back⟩:=St.frame_all hw
   refine(lI β1 w hw1 x.a).mono ?_
   rintro e w' ⟨rfl,hw'⟩
   refine⟨_,rfl,_,back _ _ hw',?_⟩
   refine lE eF ?_
   exact hk14 _ _ _
  refine lE dP (aN (aV (aR (aI (dJ Tryz.results50 rfl ?_)))))
  intro w hw
  exact⟨congrArg (fun b:Bool=>Ending.returned (.bool b)) (show((((fE x.owner)&&(decide ((x.other)=(0:Int))))&&(decide ((x.hold)=(0:Int))))&&x.a.within)=x.formed by unfold KAct.formed;simp_all),aG [false] rfl hw⟩
 refine bD (lE fD (lE dP (aN (cN _ rfl (fun hc18=> ?_) (fun hc18=> ?_)))))
 ·refine bD (lE aY (lE (cY 0) (gI gH (fun w β1 sb kn hw1=>sN β1 w hw1 (x.owner)) ?_)))
  refine gF (fE x.owner) (fE x.other) rfl (fun hb19 hk19=> ?_) (fun z20 z21 z22=> ?_)
  ·refine gE aY (gE (cY 0) (eM rfl rfl rfl rfl rfl (cT (vs:=[Ix (x.other)]) tr7.ok rfl rfl) ?_))
   intro w hw
   obtain⟨β1,sb,kn,hw1,back⟩:=St.frame_all hw
   refine(sN β1 w hw1 (x.other)).mono ?_
   rintro e w' ⟨rfl,hw'⟩
   refine⟨_,rfl,_,back _ _ hw',?_⟩
   refine lE eF ?_
   exact hk19 _ _ _
  refine oL ((fE x.owner)&&(fE x.other)) (decide ((x.owner)≠(x.other))) rfl (fun hb23 hk23=> ?_) (fun z24 z25 z26 z27 z28=> ?_)
  ·refine gE aY (gE (cY 0) (gE aY (gE (cY 0) (gE lO (lE eF ?_)))))
   exact hk23 _ _ _ _ _
  refine gF (((fE x.owner)&&(fE x.other))&&(decide ((x.owner)≠(x.other)))) (decide ((x.hold)=(0:Int))) rfl (fun hb29 hk29=> ?_) (fun z30 z31 z32=> ?_)
  ·refine gE aY (gE (cY 0) (gE fD (lE eF ?_)))
   exact hk29 _ _ _
  refine gF ((((fE x.owner)&&(fE x.other))&&(decide ((x.owner)≠(x.other))))&&(decide ((x.hold)=(0:Int)))) x.a.within rfl (fun hb33 hk33=> ?_) (fun z34 z35 z36=> ?_)
  ·refine gE aY (gE (dK 0) (eM rfl rfl rfl rfl rfl (cT (vs:=[.agg (eK x.a)]) bFp.ok rfl rfl) ?_))
   intro w hw
   obtain⟨β1,sb,kn,hw1,back⟩:=St.frame_all hw
   refine(lI β1 w hw1 x.a).mono ?_
   rintro e w' ⟨rfl,hw'⟩
   refine⟨_,rfl,_,back _ _ hw',?_⟩
   refine lE eF ?_
   exact hk33 _ _ _
  refine lE dP (aN (aV (aR (aI (dJ Tryz.results50 rfl ?_)))))
  intro w hw
  exact⟨congrArg (fun b:Bool=>Ending.returned (.bool b)) (show(((((fE x.owner)&&(fE x.other))&&(decide ((x.owner)≠(x.other))))&&(decide ((x.hold)=(0:Int))))&&x.a.within)=x.formed by unfold KAct.formed;simp_all),aG [false] rfl hw⟩
 refine bD (lE fD (lE dP (aN (cN _ rfl (fun hc37=> ?_) (fun hc37=> ?_)))))
 ·refine bD (lE aY (lE (cY 0) (lE fD ?_)))
  refine gF (decide ((x.owner)=(0:Int))) (decide ((x.other)=(0:Int))) rfl (fun hb38 hk38=> ?_) (fun z39 z40 z41=> ?_)
  ·have hb38p:=of_decide_eq_true hb38
   refine gE aY (gE (cY 0) (gE fD (lE eF ?_)))
   exact hk38 _ _ _
  refine gF ((decide ((x.owner)=(0:Int)))&&(decide ((x.other)=(0:Int)))) (decide ((1:Int)≤(x.hold))) rfl (fun hb42 hk42=> ?_) (fun z43 z44 z45=> ?_)
  ·refine gE aY (gE (cY 0) (gE oge (lE eF ?_)))
   exact hk42 _ _ _
  refine tM (((decide ((x.owner)=(0:Int)))&&(decide ((x.other)=(0:Int))))&&(decide ((1:Int)≤(x.hold)))) (decide (x.a=zeroA)) rfl (fun hb46 hk46=> ?_) (fun z47 z48 z49 z50=> ?_)
  ·refine gE aY (gE (dK 0) ?_)
   refine cU (v:= .agg #[.int .i64 (0),.int .i64 (0),.int .i64 (0),.int .i64 (0)]) rfl rfl rfl rfl rfl (eQ tr2.ok sY.ok (vs:=[]) (cells:= #[.int .i64 (0),.int .i64 (0),.int .i64 (0),.int .i64 (0)]) rfl rfl) ?_
   refine cU (v:= .bool (decide (x.a=zeroA))) rfl rfl rfl rfl rfl (qF (xs:=oT x.a) (ys:=oT zeroA) aYn aYo aYp rfl rfl rfl rfl (kY (x:=x.a) (y:=zeroA))) ?_
   refine lE eF ?_
   exact hk46 _ _ _ _
  refine lE dP (aN (aV (aR (aI (dJ Tryz.results50 rfl ?_)))))
  intro w hw
  exact⟨congrArg (fun b:Bool=>Ending.returned (.bool b)) (show((((decide ((x.owner)=(0:Int)))&&(decide ((x.other)=(0:Int))))&&(decide ((1:Int)≤(x.hold))))&&(decide (x.a=zeroA)))=x.formed by unfold KAct.formed;simp_all),aG [false] rfl hw⟩
 refine bD (lE fD (lE dP (aN (cN _ rfl (fun hc51=> ?_) (fun hc51=> ?_)))))
 ·refine bD (lE aY (lE (cY 0) (lE fD (gF (decide ((x.owner)=(0:Int))) (fE x.other) rfl (fun hb52 hk52=> ?_) (fun z53 z54 z55=> ?_)))))
  ·have hb52p:=of_decide_eq_true hb52
   refine gE aY (gE (cY 0) (eM rfl rfl rfl rfl rfl (cT (vs:=[Ix (x.other)]) tr7.ok rfl rfl) ?_))
   intro w hw
   obtain⟨β1,sb,kn,hw1,back⟩:=St.frame_all hw
   refine(sN β1 w hw1 (x.other)).mono ?_
   rintro e w' ⟨rfl,hw'⟩
   refine⟨_,rfl,_,back _ _ hw',?_⟩
   refine lE eF ?_
   exact hk52 _ _ _
  refine gF ((decide ((x.owner)=(0:Int)))&&(fE x.other)) (decide ((1:Int)≤(x.hold))) rfl (fun hb56 hk56=> ?_) (fun z57 z58 z59=> ?_)
  ·refine gE aY (gE (cY 0) (gE oge (lE eF ?_)))
   exact hk56 _ _ _
  refine tM (((decide ((x.owner)=(0:Int)))&&(fE x.other))&&(decide ((1:Int)≤(x.hold)))) (decide (x.a=zeroA)) rfl (fun hb60 hk60=> ?_) (fun z61 z62 z63 z64=> ?_)
  ·refine gE aY (gE (dK 0) ?_)
   refine cU (v:= .agg #[.int .i64 (0),.int .i64 (0),.int .i64 (0),.int .i64 (0)]) rfl rfl rfl rfl rfl (eQ tr2.ok sY.ok (vs:=[]) (cells:= #[.int .i64 (0),.int .i64 (0),.int .i64 (0),.int .i64 (0)]) rfl rfl) ?_
   refine cU (v:= .bool (decide (x.a=zeroA))) rfl rfl rfl rfl rfl (qF (xs:=oT x.a) (ys:=oT zeroA) aYn aYo aYp rfl rfl rfl rfl (kY (x:=x.a) (y:=zeroA))) ?_
   refine lE eF ?_
   exact hk60 _ _ _ _
  refine lE dP (aN (aV (aR (aI (dJ Tryz.results50 rfl ?_)))))
  intro w hw
  exact⟨congrArg (fun b:Bool=>Ending.returned (.bool b)) (show((((decide ((x.owner)=(0:Int)))&&(fE x.other))&&(decide ((1:Int)≤(x.hold))))&&(decide (x.a=zeroA)))=x.formed by unfold KAct.formed;simp_all),aG [false] rfl hw⟩
 refine cG (aP (kM (lE dP (aN (aV (dJ Tryz.results50 rfl ?_))))))
 intro w hw
 exact⟨congrArg (fun b:Bool=>Ending.returned (.bool b)) (show false=x.formed by unfold KAct.formed;simp_all),aG [false] rfl hw⟩
theorem sM(β:Base)(w:World)(hw:St β [] w)(v:Value)(q1 q2:Option Addr)(m1 d1 m2 d2:Nat)(ps:List KPu)(hs:Sl kF.R β.heap v ps)(hps:ps.length≤1048576)(la:Int)(su:KAm)(n:Int):oP Tryz.prog 123 #[.agg #[v,.slice q1 m1 d1,Ix la,Ix su.a0,Ix su.a1,Ix su.a2,Ix su.a3,.slice q2 m2 d2],Ix n] β w (.agg (eK (dV ps n))):=by
 obtain⟨va,vc,rfl,vl,vm,ve⟩:=hs.get
 refine enter (n:=28) Tryz.func123 rfl Tryz.ntmps123 rfl ?_ hw
 refine bD (mL fun b1=> ?_)
 refine gB fun b2=>aN (eR (aC (lE bN (aN (aJ ?_)))))
 refine cZ (fun(k:Nat) f L=>(f 1=Ix (n)∧f 2=pp b1 0∧f 4=pp b2 0∧f 5=Nx (k))∧L=[pt b2 (.cells #[.int .i64 (0),.int .i64 (0),.int .i64 (0),.int .i64 (0)] 43),pt b1 (.cells #[sB va ps (vc),.slice q1 (m1) d1,Ix (la),Ix (su.a0),Ix (su.a1),Ix (su.a2),Ix (su.a3),.slice q2 (m2) d2] 62)]∧(k≤ps.length∧dV ps n=dV (ps.drop k) n)) (fun k=>ps.length-k) 0 ?_ ?_
 ·exact⟨⟨rfl,rfl,rfl,rfl⟩,rfl,⟨by omega,rfl⟩⟩
 rintro k f0 L0 ⟨⟨hs1,hs2,hs4,hs5⟩,hL,⟨hkl,hk⟩⟩
 subst L0
 refine bJ 1 hs1 (bJ 2 hs2 (bJ 4 hs4 (bJ 5 hs5 (eR (aC (lE aU (lE aY (lE (fQ 1) (lE gY (lE gN (aN ?_)))))))))))
 refine cN _ rfl (fun hc3=> ?_) (fun hc3=> ?_)
 ·refine eB (aL (aJ (bD (lE aY (lE (fQ 1) (lE aU ?_))))))
  obtain⟨x4,hx5⟩:=kX ps k (by omega)
  obtain⟨ha6,cs7,hc8,rfl⟩:=ve _ _ hx5
  refine lE (sW aAf ha6) (lE ofa ?_)
  refine lv (v:=Ix (x4.owner)) (bI tr1.ok rfl (bH.imp (kB hc8) (fun _ h=>Cs.sub (vs:=[Ix (x4.owner)]) 0 h rfl))) (lE aU (lE fD (aN ?_)))
  refine cN _ rfl (fun hc10=> ?_) (fun hc10=> ?_)
  ·refine bD (lE aY (lE (fQ 1) (lE aU (lE (sW aAf ha6) (lE ofa ?_)))))
   refine lv (v:= .agg (eK x4.a)) (fV tr3.ok rfl (bH.imp (kB hc8) (fun _ h=>Cs.sub (vs:=(oT x4.a)) 1 h rfl)) rfl) (lu (mS 0 (eK x4.a)) ?_)
   refine aN (aV (aR (aI (aI (aR (aI ?_))))))
   refine gK (m:=[.agg (eK x4.a)]) Tryz.results123 ⟨bS tr3.ok rfl (cD 0 rfl rfl) rfl,trivial⟩ rfl ?_
   intro w hw
   refine⟨?_,aG [false,false] rfl hw⟩
   rw[show dV ps n=x4.a from by rw[hk,aBu hx5,if_pos hc10]]<;>rfl
  refine cG (aP (bA (aC (lE aU (lv (v:=Nx (k+1)) (bO rfl rfl (cW (by omega) (by omega))) (lE bN (aH ?_)))))))
  exact bG ⟨k+1,⟨⟨rfl,rfl,rfl,rfl⟩,rfl,⟨by omega,by rw[hk,aBu hx5,if_neg hc10]⟩⟩,(show ps.length-(k+1)<ps.length-k from by omega)⟩
 refine cK (aF (aF (cL (kM ?_))))
 refine lv (v:= .agg #[.int .i64 (0),.int .i64 (0),.int .i64 (0),.int .i64 (0)]) (eQ tr2.ok sY.ok (vs:=[]) (cells:= #[.int .i64 (0),.int .i64 (0),.int .i64 (0),.int .i64 (0)]) rfl rfl) ?_
 refine lu (mS 0 (#[.int .i64 (0),.int .i64 (0),.int .i64 (0),.int .i64 (0)])) (aN (aV ?_))
 refine gK (m:=[.agg #[.int .i64 (0),.int .i64 (0),.int .i64 (0),.int .i64 (0)]]) Tryz.results123 ⟨bS tr3.ok rfl (cD 0 rfl rfl) rfl,trivial⟩ rfl ?_
 intro w hw
 refine⟨?_,aG [false,false] rfl hw⟩
 rw[show dV ps n=zeroA from by rw[hk,aSy (by omega)]]<;>rfl
theorem aTt(β:Base)(w:World)(hw:St β [] w)(v:Value)(q1 q2:Option Addr)(m1 d1 m2 d2:Nat)(ps:List KPu)(hs:Sl kF.R β.heap v ps)(hps:ps.length≤100000)(la:Int)(su:KAm)(n:Int)(a:KAm):Calls Tryz.prog 124 #[.agg #[v,.slice q1 m1 d1,Ix la,Ix su.a0,Ix su.a1,Ix su.a2,Ix su.a3,.slice q2 m2 d2],Ix n,.agg (eK a)] w fun r w'=>∃p c,r= .returned (.agg #[sB p (cS n a false ps) c,.slice q1 m1 d1,Ix la,Ix su.a0,Ix su.a1,Ix su.a2,Ix su.a3,.slice q2 m2 d2])∧St β [aK kF 128 p c (cS n a false ps)] w':=by
 obtain⟨va,vc,rfl,vl,vm,ve⟩:=hs.get
 refine enter (n:=71) Tryz.func124 rfl Tryz.ntmps124 rfl ?_ hw
 refine bD (mL fun b1=> ?_)
 refine mL fun b2=> ?_
 refine gB fun b3=>eY (lE iO (aN (aL (iK (r:=aK kF 128 none 0 []) (eA _ _ _) (aC (lE dP (aN (eR (aC (lE bN ?_))))))))))
 refine aN (aJ ?_)
 refine cZ (fun(x_:Nat×List KPu×Option Addr×Nat×Bool) f L=>match x_ with|(k,out,p,c,dn)=>(f 1=Ix (n)∧f 3=pp b1 0∧f 5=pp b2 0∧f 6=pp b3 0∧f 7=sB p out c∧f 8= .bool (dn)∧f 9=Nx (k))∧L=[aK kF 128 p c out,pt b3 (.cells #[.slice none 0 0,.slice none 0 0,.int .i64 (0),.int .i64 (0),.int .i64 (0),.int .i64 (0),.int .i64 (0),.slice none 0 0] 62),pt b2 (.cells (eK a) 43),pt b1 (.cells #[sB va ps (vc),.slice q1 (m1) d1,Ix (la),Ix (su.a0),Ix (su.a1),Ix (su.a2),Ix (su.a3),.slice q2 (m2) d2] 62)]∧(k≤ps.length+1∧out.length≤2*k∧cS n a false ps=out++rWk n a dn ps k)) (fun(k,out,p,c,dn)=>ps.length+1-k) (0,[],none,0,false) ?_ ?_
 ·exact⟨⟨rfl,rfl,rfl,rfl,rfl,rfl,rfl⟩,rfl,⟨by omega,by decide,aZi.symm⟩⟩
 rintro⟨k,out,p,c,dn⟩ f0 L0 ⟨⟨hs1,hs3,hs5,hs6,hs7,hs8,hs9⟩,hL,⟨hk1,hol,hwi⟩⟩
 subst L0
 refine bJ 1 hs1 (bJ 3 hs3 (bJ 5 hs5 (bJ 6 hs6 (bJ 7 hs7 (bJ 8 hs8 (bJ 9 hs9 (eR (aC (lE aU (lE aY (lE (fQ 3) (lE gY (lE ole (aN ?_))))))))))))))
 refine cN _ rfl (fun hc4=> ?_) (fun hc4=> ?_)
 ·refine eB (aL (aJ ?_))
  refine gL (fun(f:Fm) (L:List bU)=>∃(o2:List KPu) (p2:Option Addr) (c2:Nat) (dn2:Bool),(f 1=Ix (n)∧f 3=pp b1 0∧f 5=pp b2 0∧f 6=pp b3 0∧f 7=sB p2 o2 c2∧f 8= .bool (dn2)∧f 9=Nx (k))∧L=[aK kF 128 p2 c2 o2,pt b3 (.cells #[.slice none 0 0,.slice none 0 0,.int .i64 (0),.int .i64 (0),.int .i64 (0),.int .i64 (0),.int .i64 (0),.slice none 0 0] 62),pt b2 (.cells (eK a) 43),pt b1 (.cells #[sB va ps (vc),.slice q1 (m1) d1,Ix (la),Ix (su.a0),Ix (su.a1),Ix (su.a2),Ix (su.a3),.slice q2 (m2) d2] 62)]∧(o2.length≤2*k+1∧cS n a false ps=o2++rW2 n a dn2 ps k)) ?_ ?_
  ·refine aL ?_
   rcases(Bool.eq_false_or_eq_true dn).symm with hdn|hdn
   ·by_cases hkl:k=ps.length
    ·refine aC (lE fM (lv (v:= .bool true) (aWc (c:=true) (by rw[hdn];rfl) (aFw rfl)) (lE fM (gE aU (gE aY (gE (fQ 3) (gE gY ?_)))))))
     refine cU (v:= .bool true) rfl rfl rfl rfl rfl (uM (by omega) (dX (a:=((k:Nat):Int)) (b:=((ps.length:Nat):Int)) rfl rfl)) ?_
     refine gE fM ?_
     iterate 8 refine iP ?_
     refine gE eF (lE eF (aN (dN rfl (bD (lE dP (eY (lE (dK 2) ?_)))))))
     refine lv (v:= .agg #[.int .i64 (0),.int .i64 (0),.int .i64 (0),.int .i64 (0)]) (eQ tr2.ok sY.ok (vs:=[]) (cells:= #[.int .i64 (0),.int .i64 (0),.int .i64 (0),.int .i64 (0)]) rfl rfl) ?_
     refine lv (v:= .bool (decide (¬(a=zeroA)))) (iA (xs:=oT a) (ys:=oT zeroA) aYn aYo aYp rfl rfl rfl rfl (not_congr (kY (x:=a) (y:=zeroA)))) ?_
     refine aN (cN _ rfl (fun hc5=> ?_) (fun hc5=> ?_))
     ·refine aC (lE fL (lE aU (lE (dK 2) ?_)))
      refine lv (v:= .agg #[Ix (n),Ix (a.a0),Ix (a.a1),Ix (a.a2),Ix (a.a3)]) (bV aUh.ok bFq (vs:=[(0,Ix (n)),(1,.agg (eK a))]) (cells:= #[Ix (n),Ix (a.a0),Ix (a.a1),Ix (a.a2),Ix (a.a3)]) rfl rfl) ?_
      refine dA rfl rfl rfl (bZ aAf aUh.ok (cells:= #[Ix (n),Ix (a.a0),Ix (a.a1),Ix (a.a2),Ix (a.a3)]) rfl rfl rfl rfl) ?_
      rintro _ _ ⟨b6,rfl,rfl⟩
      refine dA rfl rfl rfl (cF (F:=kF) 1 aAf bCx (p:=p) (m:=out.length) (xs:=out) (ys:=[(⟨n,a⟩:KPu)]) (ao:=(some ⟨b6,0,none⟩)) (k:=1) (c:=1) rfl rfl rfl rfl rfl (gX (z:=(⟨n,a⟩:KPu)) 0 rfl rfl) (by first|omega|simp only[List.length_nil,List.length_cons,List.length_append,List.length_set];omega) (by first|omega|simp only[List.length_nil,List.length_cons,List.length_append,List.length_set];omega)) ?_
      rintro _ _ ⟨rp7,rc8,rfl,rfl⟩
      refine lE iO (aH (dD [false,true,true,true,true] rfl ?_))
      exact bG ⟨(out++[(⟨n,a⟩:KPu)]),rp7,rc8,true,⟨rfl,rfl,rfl,rfl,rfl,rfl,rfl⟩,rfl,⟨by first|omega|(rw[List.length_append,List.length_singleton];omega),by rw[hwi,hdn,aZg hkl hc5]<;>simp only[sB,rB,List.append_assoc]⟩⟩
     refine cG ?_
     exact bG ⟨out,p,c,true,⟨rfl,rfl,rfl,rfl,rfl,rfl,rfl⟩,rfl,⟨by first|omega|(rw[List.length_append,List.length_singleton];omega),by rw[hwi,hdn,aZf hkl (Decidable.not_not.1 hc5)]⟩⟩
    refine aC (lE fM (lv (v:= .bool true) (aWc (c:=true) (by rw[hdn];rfl) (aFw rfl)) (lE fM (gE aU (gE aY (gE (fQ 3) (gE gY ?_)))))))
    refine cU (v:= .bool false) rfl rfl rfl rfl rfl (fZ (by omega) (dX (a:=((k:Nat):Int)) (b:=((ps.length:Nat):Int)) rfl rfl)) ?_
    refine gE fM (gE aY (gE (fQ 3) (gE aU ?_)))
    obtain⟨x9,hx10⟩:=kX ps k (by omega)
    obtain⟨ha11,cs12,hc13,rfl⟩:=ve _ _ hx10
    refine gE (sW aAf ha11) (gE ofa ?_)
    refine cU (v:=Ix (x9.owner)) rfl rfl rfl rfl rfl (bI tr1.ok rfl (bH.imp (kB hc13) (fun _ h=>Cs.sub (vs:=[Ix (x9.owner)]) 0 h rfl))) ?_
    refine gE aU (gE oge (gE dT (lE eF (aN (cN _ rfl (fun hc15=> ?_) (fun hc15=> ?_))))))
    ·refine bD (lE dP (eY (lE (dK 2) ?_)))
     refine lv (v:= .agg #[.int .i64 (0),.int .i64 (0),.int .i64 (0),.int .i64 (0)]) (eQ tr2.ok sY.ok (vs:=[]) (cells:= #[.int .i64 (0),.int .i64 (0),.int .i64 (0),.int .i64 (0)]) rfl rfl) ?_
     refine lv (v:= .bool (decide (¬(a=zeroA)))) (iA (xs:=oT a) (ys:=oT zeroA) aYn aYo aYp rfl rfl rfl rfl (not_congr (kY (x:=a) (y:=zeroA)))) ?_
     refine aN (cN _ rfl (fun hc16=> ?_) (fun hc16=> ?_))
     ·refine aC (lE fL (lE aU (lE (dK 2) ?_)))
      refine lv (v:= .agg #[Ix (n),Ix (a.a0),Ix (a.a1),Ix (a.a2),Ix (a.a3)]) (bV aUh.ok bFq (vs:=[(0,Ix (n)),(1,.agg (eK a))]) (cells:= #[Ix (n),Ix (a.a0),Ix (a.a1),Ix (a.a2),Ix (a.a3)]) rfl rfl) ?_
      refine dA rfl rfl rfl (bZ aAf aUh.ok (cells:= #[Ix (n),Ix (a.a0),Ix (a.a1),Ix (a.a2),Ix (a.a3)]) rfl rfl rfl rfl) ?_
      rintro _ _ ⟨b17,rfl,rfl⟩
      refine dA rfl rfl rfl (cF (F:=kF) 1 aAf bCx (p:=p) (m:=out.length) (xs:=out) (ys:=[(⟨n,a⟩:KPu)]) (ao:=(some ⟨b17,0,none⟩)) (k:=1) (c:=1) rfl rfl rfl rfl rfl (gX (z:=(⟨n,a⟩:KPu)) 0 rfl rfl) (by first|omega|simp only[List.length_nil,List.length_cons,List.length_append,List.length_set];omega) (by first|omega|simp only[List.length_nil,List.length_cons,List.length_append,List.length_set];omega)) ?_
      rintro _ _ ⟨rp18,rc19,rfl,rfl⟩
      refine lE iO (aH (dD [false,true,true,true,true] rfl ?_))
      exact bG ⟨(out++[(⟨n,a⟩:KPu)]),rp18,rc19,true,⟨rfl,rfl,rfl,rfl,rfl,rfl,rfl⟩,rfl,⟨by first|omega|(rw[List.length_append,List.length_singleton];omega),by rw[hwi,hdn,aUt hx10 hc15 hc16]<;>simp only[sB,rB,List.append_assoc]⟩⟩
     refine cG ?_
     exact bG ⟨out,p,c,true,⟨rfl,rfl,rfl,rfl,rfl,rfl,rfl⟩,rfl,⟨by first|omega|(rw[List.length_append,List.length_singleton];omega),by rw[hwi,hdn,aUs hx10 hc15 (Decidable.not_not.1 hc16)]⟩⟩
    refine cG ?_
    exact bG ⟨out,p,c,dn,⟨rfl,rfl,rfl,rfl,rfl,rfl,rfl⟩,rfl,⟨by omega,by rw[hwi,hdn,bDl hx10 hc15]⟩⟩
   refine aC (lE fM (lv (v:= .bool false) (aWc (c:=false) (by rw[hdn];rfl) (aFw rfl)) (lE fM ?_)))
   iterate 6 refine iP ?_
   refine lV rfl rfl rfl rfl rfl (lV rfl rfl rfl rfl rfl (lV rfl rfl rfl rfl rfl (lV rfl rfl rfl rfl rfl ?_)))
   refine lV rfl rfl rfl rfl rfl (lV rfl rfl rfl rfl rfl (lV rfl rfl rfl rfl rfl (lV rfl rfl rfl rfl rfl (iP (lE dT (aN ?_))))))
   refine cR rfl (cG ?_)
   exact bG ⟨out,p,c,dn,⟨rfl,rfl,rfl,rfl,rfl,rfl,rfl⟩,rfl,⟨by omega,by rw[hwi,hdn,aZe (by omega)]⟩⟩
  rintro f0 L0 ⟨o2,p2,c2,dn2,⟨hs1,hs3,hs5,hs6,hs7,hs8,hs9⟩,hL,⟨hol2,hwi2⟩⟩
  subst L0
  refine bJ 1 hs1 (bJ 3 hs3 (bJ 5 hs5 (bJ 6 hs6 (bJ 7 hs7 (bJ 8 hs8 (bJ 9 hs9 (aL ?_)))))))
  by_cases hkl:k=ps.length
  ·refine aC (lE aU (lE aY (lE (fQ 3) (lE gY ?_))))
   refine lv (v:= .bool false) (fZ (by omega) (aJz (a:=((k:Nat):Int)) (b:=((ps.length:Nat):Int)) rfl rfl)) (lE fM ?_)
   iterate 8 refine iP ?_
   refine lE dT (aN (cR rfl (cG (aP (bA (aC (lE aU (lv (v:=Nx (k+1)) (bO rfl rfl (cW (by omega) (by omega))) ?_))))))))
   refine lE bN (aH ?_)
   exact bG ⟨(k+1,o2,p2,c2,dn2),⟨⟨rfl,rfl,rfl,rfl,rfl,rfl,rfl⟩,rfl,⟨by omega,by first|omega|(rw[List.length_append,List.length_singleton];omega),by rw[hwi2,bDm hkl]⟩⟩,(show ps.length+1-(k+1)<ps.length+1-k from by omega)⟩
  refine aC (lE aU (lE aY (lE (fQ 3) (lE gY ?_))))
  refine lv (v:= .bool true) (uM (by omega) (aJz (a:=((k:Nat):Int)) (b:=((ps.length:Nat):Int)) rfl rfl)) (lE fM (gE aY ?_))
  refine gE (fQ 3) (gE aU ?_)
  obtain⟨x20,hx21⟩:=kX ps k (by omega)
  obtain⟨ha22,cs23,hc24,rfl⟩:=ve _ _ hx21
  refine gE (sW aAf ha22) (gE ofa ?_)
  refine cU (v:=Ix (x20.owner)) rfl rfl rfl rfl rfl (bI tr1.ok rfl (bH.imp (kB hc24) (fun _ h=>Cs.sub (vs:=[Ix (x20.owner)]) 0 h rfl))) ?_
  refine gE aU (gE lO (lE eF (aN (cN _ rfl (fun hc26=> ?_) (fun hc26=> ?_)))))
  ·refine aC (lE fL (lE aY (lE (fQ 3) (lE aU (lE (sW aAf ha22) ?_)))))
   refine lv (v:= .agg #[Ix (x20.owner),Ix (x20.a.a0),Ix (x20.a.a1),Ix (x20.a.a2),Ix (x20.a.a3)]) (fV bIv.ok rfl (kB hc24) rfl) ?_
   refine dA rfl rfl rfl (bZ aAf aUh.ok (cells:= #[Ix (x20.owner),Ix (x20.a.a0),Ix (x20.a.a1),Ix (x20.a.a2),Ix (x20.a.a3)]) rfl rfl rfl rfl) ?_
   rintro _ _ ⟨b27,rfl,rfl⟩
   refine dA rfl rfl rfl (cF (F:=kF) 1 aAf bCx (p:=p2) (m:=o2.length) (xs:=o2) (ys:=[x20]) (ao:=(some ⟨b27,0,none⟩)) (k:=1) (c:=1) rfl rfl rfl rfl rfl (gX (z:=x20) 0 rfl rfl) (by first|omega|simp only[List.length_nil,List.length_cons,List.length_append,List.length_set];omega) (by first|omega|simp only[List.length_nil,List.length_cons,List.length_append,List.length_set];omega)) ?_
   rintro _ _ ⟨rp28,rc29,rfl,rfl⟩
   refine lE iO (aH (aP (bA (aC (lE aU (lv (v:=Nx (k+1)) (bO rfl rfl (cW (by omega) (by omega))) (lE bN (aH ?_))))))))
   refine dD [false,true,true,true,true] rfl ?_
   exact bG ⟨(k+1,(o2++[x20]),rp28,rc29,dn2),⟨⟨rfl,rfl,rfl,rfl,rfl,rfl,rfl⟩,rfl,⟨by omega,by first|omega|(rw[List.length_append,List.length_singleton];omega),by rw[hwi2,bHu hx21 hc26]<;>simp only[sB,rB,List.append_assoc]⟩⟩,(show ps.length+1-(k+1)<ps.length+1-k from by omega)⟩
  refine cG (aP (bA (aC (lE aU (lv (v:=Nx (k+1)) (bO rfl rfl (cW (by omega) (by omega))) (lE bN (aH ?_)))))))
  exact bG ⟨(k+1,o2,p2,c2,dn2),⟨⟨rfl,rfl,rfl,rfl,rfl,rfl,rfl⟩,rfl,⟨by omega,by first|omega|(rw[List.length_append,List.length_singleton];omega),by rw[hwi2,bHt hx21 (Decidable.not_not.1 hc26)]⟩⟩,(show ps.length+1-(k+1)<ps.length+1-k from by omega)⟩
 refine cK (aF (aF (cL (kM (lE fL (lE aY ?_))))))
 refine lu (mS 3 (#[sB p out c,.slice q1 (m1) d1,Ix (la),Ix (su.a0),Ix (su.a1),Ix (su.a2),Ix (su.a3),.slice q2 (m2) d2])) (eY (lE (dK 3) ?_))
 refine lu (mS 1 (#[sB p out c,.slice q1 (m1) d1,Ix (la),Ix (su.a0),Ix (su.a1),Ix (su.a2),Ix (su.a3),.slice q2 (m2) d2])) (aN (aV ?_))
 refine gK (m:=[.agg #[sB p out c,.slice q1 (m1) d1,Ix (la),Ix (su.a0),Ix (su.a1),Ix (su.a2),Ix (su.a3),.slice q2 (m2) d2]]) Tryz.results124 ⟨bS bIw.ok rfl (cD 1 rfl rfl) rfl,trivial⟩ rfl ?_
 intro w hw
 have hoe:out=cS n a false ps:=by rw[hwi,aZh (by omega),List.append_nil]
 subst hoe
 exact⟨p,c,rfl,aG [true,false,false,false] rfl hw⟩
end Go.Proofs
