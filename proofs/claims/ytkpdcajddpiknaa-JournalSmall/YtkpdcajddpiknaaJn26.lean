/-
 filled,walked. Printed by a program of my own.
-/
import Derived.Test.YtkpdcajddpiknaaJn25
set_option linter.all false
set_option maxHeartbeats 4000000
namespace Go.Proofs
open Go Go.Sl Go.Jn
theorem eX{h:bR}{p:Option Addr}{c m:Nat}{xs:Bs}(hr:rB p xs c h)(hm:m≤xs.length):Sl bE h (.slice p m c) (xs.take m):=by
 obtain⟨_,h1,h2,h3⟩:=(fB hr).parts
 have e:(xs.take m).length=m:=by rw[List.length_take];omega
 exact⟨p,c,by rw[e],by rw[e];omega,h2,bO.take m h3⟩
theorem aKx:Lst nI fQ 0:=aCl
theorem wS{P:Program}{ro:Option Nat}{n:Nat}{ds:List Deferred}{β:Base}{Q:Exit→Act→World→Prop}{f:Fm}{L:List cE}{ops:Array Oper}{rest:List Oper}{S:Nat}{pH pA pB:Option Addr}{cH cA cB:Nat}{k:KS}{M:List cE}
 (hL:L=stL S pH pA pB cH cA cB k++M)(K:cQ P ro n ds β ops Q rest f (aS S k::M)):cQ P ro n ds β ops Q rest f L:=fun a w ha hw=>by
 subst hL
 exact K a w ha (St.closeStore hw)
theorem aCi(β:Base)(w:World)(hw:St β [] w):kH Try.prog 35 #[] β w (.bool true):=by
 refine enter (n:=152) Try.func35 rfl Try.ntmps35 rfl ?_ hw
 refine cC ?_
 refine lE eE ?_
 refine eJ ?_
 refine lv (v:= .agg #[.slice none 0 0,.slice none 0 0,.slice none 0 0,.int .i64 (-1)]) (dW lN.ok mL (vs:=[(3,.int .i64 (-1))]) (cells:= #[.slice none 0 0,.slice none 0 0,.slice none 0 0,.int .i64 (-1)]) rfl rfl) ?_
 refine pD fun b1=> ?_
 refine lE nV ?_
 refine aW ?_
 refine aO ?_
 refine iW (r:=row (.slice none 0 0) 5 1 0 (BX [])) (eS _ _ _) ?_
 refine iW (r:=row (.slice none 0 0) 5 1 0 (BX [])) (eS _ _ _) ?_
 refine iW (r:=row (.slice none 0 0) 5 1 0 (BX [])) (eS _ _ _) ?_
 refine eG [3,0,1,2] 4 rfl (by kernel_rfl) ?_
 refine bW (S:=b1) (k:=nI) (pH:=none) (pA:=none) (pB:=none) (cH:=0) (cA:=0) (cB:=0) (M:=([])) (by rfl) ?_
 refine aC ?_
 refine lE eP ?_
 refine bP rfl rfl rfl (cY (vs:=[pp b1 0]) pM.ok rfl rfl) ?_
 intro w hw
 obtain⟨β1,sb,kn,hw1,back⟩:=St.frame (L:=[_]) (M:=[]) hw
 refine(oO β1 w b1 nI (by decide+kernel) (by decide) fQ (by decide+kernel) (by decide+kernel) hw1).mono ?_
 rintro e w' ⟨J2,rfl,hw'⟩
 refine⟨_,rfl,_,back _ _ hw',?_⟩
 refine lE iK ?_
 refine lE zU ?_
 refine lE kK ?_
 refine lE nV ?_
 refine lE bV ?_
 refine eJ ?_
 refine lv (v:= .agg #[.slice none 0 0,.slice none 0 0,.slice none 0 0,.int .i64 (-1)]) (dW lN.ok mL (vs:=[(3,.int .i64 (-1))]) (cells:= #[.slice none 0 0,.slice none 0 0,.slice none 0 0,.int .i64 (-1)]) rfl rfl) ?_
 refine jH (cY (vs:=[.agg #[.slice none 0 0,.slice none 0 0,.slice none 0 0,.int .i64 (-1)]]) aGe.ok rfl rfl) rfl fun w β1 sb kn hw1 back=>(zF β1 w hw1 nI _ _ _ (Sl.nil bE _) (Sl.nil bE _) (Sl.nil bE _) (by decide+kernel) (by decide) fQ (by decide+kernel) (by decide+kernel)).mono ?_
 rintro e w' ⟨pH3,pA4,pB5,cH6,cA7,cB8,ps9,cs10,pr11,cr12,us13,rfl,hx14,hw'⟩
 refine⟨_,rfl,_,back _ _ hw',?_⟩
 refine lE iK ?_
 refine lE mV ?_
 refine lE kK ?_
 refine fZ fun b15=> ?_
 refine lu (mS 0 (#[sB pH3 ((aV nI fQ.epoch fQ.size).head) cH6,sB pA4 ((aV nI fQ.epoch fQ.size).a) cA7,sB pB5 ((aV nI fQ.epoch fQ.size).b) cB8,Ix ((aV nI fQ.epoch fQ.size).power),Nx (fQ.epoch),Nx (fQ.next),sB ps9 fQ.state cs10,sB pr11 fQ.recs cr12,Nx (fQ.size),.bool false])) ?_
 refine lE bV ?_
 refine aW ?_
 refine dX ?_
 refine iW (r:=row (.slice none 0 0) 5 1 0 (BX [])) (eS _ _ _) ?_
 refine iW (r:=row (.slice none 0 0) 5 1 0 (BX [])) (eS _ _ _) ?_
 refine eG [3,4,5,0,1,6,2,7,8] 9 rfl (by kernel_rfl) ?_
 refine kJ (K:=[rB pH3 ((aV nI fQ.epoch fQ.size).head) cH6,rB pA4 ((aV nI fQ.epoch fQ.size).a) cA7,rB pB5 ((aV nI fQ.epoch fQ.size).b) cB8,row (.slice none 0 0) 5 1 (0) (BX []),row (.slice none 0 0) 5 1 (0) (BX []),row (sB pr11 fQ.recs cr12) 30 1 (fQ.recs.length) (us13)]) (F:=iT (sB pH3 (aV nI fQ.epoch fQ.size).head cH6) (sB pA4 (aV nI fQ.epoch fQ.size).a cA7) (sB pB5 (aV nI fQ.epoch fQ.size).b cB8) (sB ps9 fQ.state cs10) (sB pr11 fQ.recs cr12) (aV nI fQ.epoch fQ.size) fQ) rfl (fun _ h=>aEy (k:=nI) h hx14) ?_
 refine eG [1,0,2,3] 4 rfl (by kernel_rfl) ?_
 refine kJ (K:=[pt b15 (.cells #[sB pH3 ((aV nI fQ.epoch fQ.size).head) cH6,sB pA4 ((aV nI fQ.epoch fQ.size).a) cA7,sB pB5 ((aV nI fQ.epoch fQ.size).b) cB8,Ix ((aV nI fQ.epoch fQ.size).power),Nx (fQ.epoch),Nx (fQ.next),sB ps9 fQ.state cs10,sB pr11 fQ.recs cr12,Nx (fQ.size),.bool false] 56),iT (sB pH3 (aV nI fQ.epoch fQ.size).head cH6) (sB pA4 (aV nI fQ.epoch fQ.size).a cA7) (sB pB5 (aV nI fQ.epoch fQ.size).b cB8) (sB ps9 fQ.state cs10) (sB pr11 fQ.recs cr12) (aV nI fQ.epoch fQ.size) fQ]) (F:=uI b15 (aV nI fQ.epoch fQ.size) fQ false) rfl (fun _ h=>⟨_,_,_,_,_,_,_,_,_,_,h⟩) ?_
 refine lR (L':=[uI b15 nI fQ false,dC J2 b1 fQ false,aS b1 nI]) (by show [uI b15 (aV nI fQ.epoch fQ.size) fQ false,dC J2 b1 fQ false,aS b1 (aV nI fQ.epoch fQ.size)]=_;rw[aKx.cutS_self]) ?_
 refine aC ?_
 refine lE bG ?_
 refine lE gO ?_
 refine aW ?_
 refine dI rfl ?_
 refine eT ?_
 refine cC ?_
 refine cF rfl rfl rfl (mU (c:=65537) aKt bQ fV iG.ok rfl rfl (by omega) (by omega)) ?_
 rintro _ _ ⟨b16,rfl,rfl⟩
 refine lE fR ?_
 refine aW ?_
 refine dX ?_
 refine aC ?_
 refine lE eP ?_
 refine lE cX ?_
 refine bP rfl rfl rfl (cY (vs:=[pp J2 0,sB (some ⟨b16,0,none⟩) cP 65537]) sN.ok rfl rfl) ?_
 intro w hw
 replace hw:=hw.perm (L':=_::_::_::_::[]) (by exact((((aB 3 rfl).trans (aB 2 rfl)).trans (aB 2 rfl)).trans (aB 3 rfl)))
 obtain⟨β1,sb,kn,hw1,back⟩:=St.frame (L:=[_]) (M:=_::_::_::[]) hw
 refine(xW β1 w J2 b1 nI fQ false cP (by rw[nM];decide) _ (kU kn 0 rfl) hw1).mono ?_
 rintro e w' ⟨rfl,hw'⟩
 refine⟨_,rfl,_,back _ _ hw',?_⟩
 refine lE iK ?_
 iterate 2 refine lE kK ?_
 iterate 2 refine lE bV ?_
 refine eJ ?_
 refine lE bG ?_
 refine lE gO ?_
 refine lE dQ ?_
 refine gE eP ?_
 refine gE cX ?_
 refine eQ rfl rfl rfl rfl rfl (cY (vs:=[pp J2 0,sB (some ⟨b16,0,none⟩) cP 65537]) zK.ok rfl rfl) ?_
 intro w hw
 obtain⟨β1,sb,kn,hw1,back⟩:=St.frame (L:=[_]) (M:=_::_::_::[]) hw
 refine(yH β1 w J2 b1 nI fQ false cP (by rw[nM];decide) _ (kU kn 0 rfl) hw1).mono ?_
 rintro e w' ⟨rfl,hw'⟩
 refine⟨_,rfl,_,back _ _ hw',?_⟩
 refine gE gO ?_
 refine lE cR ?_
 refine aW ?_
 refine dI rfl ?_
 refine eT ?_
 refine dX ?_
 refine aC ?_
 refine lE bG ?_
 refine aW ?_
 refine aY ?_
 refine eG [0,3,2,1] 4 rfl (by kernel_rfl) ?_
 refine kY [true,true,true,true] rfl ?_
 refine dV (fun(x_:Nat×KS×KI) f L=>match x_ with|(q,K,I)=>(f 1=pp b1 0∧f 2=pp J2 0∧f 4=pp b15 0∧f 6=sB (some ⟨b16,0,none⟩) cP 65537∧f 46=Nx (q))∧L=[dC J2 b1 I false,aS b1 K,uI b15 K I false,rB (some ⟨b16,0,none⟩) cP 65537]∧(q≤6∧Lst K I (flS q)∧I.size=flS q∧I.next=flN q∧I.epoch=0)) (fun(q,K,I)=>6-q) (0,nI,fQ) ?_ ?_
 ·exact⟨⟨rfl,rfl,rfl,rfl,rfl⟩,rfl,⟨by omega,aKx,rfl,rfl,rfl⟩⟩
 rintro⟨q,K,I⟩ f0 L0 ⟨⟨hs1,hs2,hs4,hs6,hs46⟩,hL,⟨hq,hL,hS,hN,hE⟩⟩
 subst L0
 refine dG 1 hs1 ?_
 refine dG 2 hs2 ?_
 refine dG 4 hs4 ?_
 refine dG 6 hs6 ?_
 refine dG 46 hs46 ?_
 have hfl:=aEg hq
 have hbz:=nM
 have hfit:=hL.fits (by omega)
 have hsz:=hL.sz
 have hrl:=hL.recsLen
 have he62:=hL.e62
 have hbig:=hL.wf.big
 have hsze:=hL.size
 refine cC ?_
 refine lE jI ?_
 refine aW ?_
 refine aO ?_
 refine cK _ rfl (fun hc17=> ?_) (fun hc17=> ?_)
 ·refine eT ?_
  refine aO ?_
  refine aY ?_
  refine cC ?_
  refine lE bG ?_
  refine lE bV ?_
  refine eJ ?_
  refine lE cX ?_
  refine lv (v:= .slice (some ⟨b16,0,none⟩) (65536) 65537) (dF (a:=(some ⟨b16,0,none⟩)) (len:=(cP).length) (cap:=65537) (h:=65536) bQ rfl rfl (by omega)) ?_
  refine lE fR ?_
  refine aW ?_
  refine hO (fun(f:Fm) (L:List cE)=>∃m:Nat,(f 1=pp b1 0∧f 2=pp J2 0∧f 4=pp b15 0∧f 6=sB (some ⟨b16,0,none⟩) cP 65537∧f 9=Nx (q)∧f 46=Nx (q))∧f 10= .slice (some ⟨b16,0,none⟩) m 65537∧((q=3→m=65441)∧(q≠3→m=65536))∧L=[dC J2 b1 I false,aS b1 K,uI b15 K I false,rB (some ⟨b16,0,none⟩) cP 65537]) ?_ ?_
  ·refine cC ?_
   refine lE bG ?_
   refine lE dR ?_
   refine aW ?_
   refine cK _ rfl (fun hc18=> ?_) (fun hc18=> ?_)
   ·refine aC ?_
    refine lE cX ?_
    refine lv (v:= .slice (some ⟨b16,0,none⟩) (65441) 65537) (dF (a:=(some ⟨b16,0,none⟩)) (len:=(cP).length) (cap:=65537) (h:=65441) bQ rfl rfl (by omega)) ?_
    refine lE fR ?_
    refine aG ?_
    exact bT ⟨65441,⟨rfl,rfl,rfl,rfl,rfl,rfl⟩,rfl,⟨by omega,by omega⟩,rfl⟩
   refine cM ?_
   exact bT ⟨65536,⟨rfl,rfl,rfl,rfl,rfl,rfl⟩,rfl,⟨by omega,by omega⟩,rfl⟩
  rintro f0 L0 ⟨m0,⟨hs1,hs2,hs4,hs6,hs9,hs46⟩,hs10,⟨hm3,hm5⟩,hL0⟩
  subst L0
  refine dG 1 hs1 ?_
  refine dG 2 hs2 ?_
  refine dG 4 hs4 ?_
  refine dG 6 hs6 ?_
  refine dG 9 hs9 ?_
  refine dG 46 hs46 ?_
  refine dG 10 hs10 ?_
  refine hO (fun(f:Fm) (L:List cE)=>∃m:Nat,(f 1=pp b1 0∧f 2=pp J2 0∧f 4=pp b15 0∧f 6=sB (some ⟨b16,0,none⟩) cP 65537∧f 9=Nx (q)∧f 46=Nx (q))∧f 10= .slice (some ⟨b16,0,none⟩) m 65537∧((q=3→m=65441)∧(q=4→m=65440)∧(q≠3→q≠4→m=65536))∧L=[dC J2 b1 I false,aS b1 K,uI b15 K I false,rB (some ⟨b16,0,none⟩) cP 65537]) ?_ ?_
  ·refine cC ?_
   refine lE bG ?_
   refine lE dR ?_
   refine aW ?_
   refine cK _ rfl (fun hc19=> ?_) (fun hc19=> ?_)
   ·refine aC ?_
    refine lE cX ?_
    refine lv (v:= .slice (some ⟨b16,0,none⟩) (65440) 65537) (dF (a:=(some ⟨b16,0,none⟩)) (len:=(cP).length) (cap:=65537) (h:=65440) bQ rfl rfl (by omega)) ?_
    refine lE fR ?_
    refine aG ?_
    exact bT ⟨65440,⟨rfl,rfl,rfl,rfl,rfl,rfl⟩,rfl,⟨by omega,by omega,by omega⟩,rfl⟩
   refine cM ?_
   exact bT ⟨m0,⟨rfl,rfl,rfl,rfl,rfl,rfl⟩,rfl,⟨by omega,by omega,by omega⟩,rfl⟩
  clear hm3 hm5
  rintro f0 L0 ⟨m,⟨hs1,hs2,hs4,hs6,hs9,hs46⟩,hs10,⟨hm3,hm4,hm5⟩,hL0⟩
  subst L0
  refine dG 1 hs1 ?_
  refine dG 2 hs2 ?_
  refine dG 4 hs4 ?_
  refine dG 6 hs6 ?_
  refine dG 9 hs9 ?_
  refine dG 46 hs46 ?_
  refine dG 10 hs10 ?_
  have hmm:m≤65536:=by omega
  have hbl:=yC (show m≤65537 by omega)
  refine aO ?_
  refine eG [2,0,1,3] 4 rfl (by kernel_rfl) ?_
  refine tO (B:=b15) (k:=K) (i:=I) (dn:=false) (M:=(dC J2 b1 I false::aS b1 K::rB (some ⟨b16,0,none⟩) cP 65537::[])) rfl (fun pH20 pA21 pB22 ps26 pr28 cH23 cA24 cB25 cs27 cr29 us hul hu1 hpr=> ?_)
  by_cases hx:q=3∨q=5
  ·have hx0:=hx
   obtain⟨hf1,hf2,hf3⟩:=aHf (by omega) hm3 hm4 hm5 hx
   have hL2:Lst K I (flS (q+1)):=hL.mono (by omega)
   have hS2:I.size=flS (q+1):=by omega
   have hN2:I.next=flN (q+1):=by omega
   have hE2:=hE
   rcases hx0 with hx3|hx5
   ·refine aC ?_
    refine lE eP ?_
    refine lE cX ?_
    refine bP rfl rfl rfl (cY (vs:=[pp J2 0,.slice (some ⟨b16,0,none⟩) (m) 65537]) sN.ok rfl rfl) ?_
    intro w hw
    replace hw:=hw.perm (L':=_::_::_::_::_::[]) (by exact(((((aB 4 rfl).trans (aB 4 rfl)).trans (aB 3 rfl)).trans (aB 3 rfl)).trans (aB 4 rfl)))
    obtain⟨β1,sb,kn,hw1,back⟩:=St.frame (L:=[_]) (M:=_::_::_::_::[]) hw
    refine(nJ β1 w J2 b1 K I (cP.take m) (by omega) hbig (by omega) (.inl (by omega)) _ (kn _ (aX.of_res 3 rfl (Sl.mono bE _ _) fun _ h=>eX h (by omega))) hw1).mono ?_
    rintro e w' ⟨rfl,hw'⟩
    refine⟨_,rfl,_,back _ _ hw',?_⟩
    refine lE iK ?_
    iterate 2 refine lE kK ?_
    iterate 2 refine lE bV ?_
    refine eJ ?_
    refine lE (dO 1) ?_
    refine lE cX ?_
    refine gW gU (fun w β1 sb kn hw1=>rQ β1 w hw1 K _ _ _ (kn _ (aX.of_res 2 rfl (Sl.mono bE _ _) fun _ h=>h.1)) (kn _ (aX.of_res 2 rfl (Sl.mono bE _ _) fun _ h=>h.2.1)) (kn _ (aX.of_res 2 rfl (Sl.mono bE _ _) fun _ h=>h.2.2.1)) I ps26 pr28 cs27 cr29 us hul (kn (fun h=>Cs h (ba pr28) us) (aX.of_res 2 rfl (Cs.mono _ _) fun _ h=>h.2.2.2.2.1)) hu1 hpr (cP.take m) _ (kn _ (aX.of_res 4 rfl (Sl.mono bE _ _) fun _ h=>eX h (by omega))) hfit ⟨by omega,by omega,by omega,by omega⟩ (by omega) (.inl (by omega))) ?_
    refine lE iK ?_
    refine lE mV ?_
    iterate 2 refine lE kK ?_
    refine fZ fun b30=> ?_
    refine lu (mS 0 (#[sB pH20 K.head cH23,sB pA21 K.a cA24,sB pB22 K.b cB25,Ix (K.power),Nx (I.epoch),Nx (I.next),sB ps26 I.state cs27,sB pr28 I.recs cr29,Nx (I.size),.bool false])) ?_
    iterate 2 refine lE bV ?_
    refine eJ ?_
    refine lE (dO 0) ?_
    refine lu (mS 2 (#[sB pH20 K.head cH23,sB pA21 K.a cA24,sB pB22 K.b cB25,Ix (K.power),Nx (I.epoch),Nx (I.next),sB ps26 I.state cs27,sB pr28 I.recs cr29,Nx (I.size),.bool false])) ?_
    refine aW ?_
    refine aO ?_
    refine eG [4,0,1,2,3,5] 6 rfl (by kernel_rfl) ?_
    refine cI rfl (fun pH31 pA32 pB33 cH34 cA35 cB36=> ?_)
    refine bA 1 rfl (fun hcl37 hcm38=> ?_)
    refine bA 2 rfl (fun hcl39 hcm40=> ?_)
    refine bA 3 rfl (fun hcl41 hcm42=> ?_)
    refine eF (by kernel_rfl) (by kernel_rfl) ?_
    iterate 2 refine qE bG ?_
    refine qE gO ?_
    refine qE dQ ?_
    iterate 2 refine rE bG ?_
    refine rE gO ?_
    refine qE cR ?_
    refine qE dQ ?_
    refine rE bG ?_
    refine rE dR ?_
    refine rE bG ?_
    refine rE dR ?_
    refine rE dQ ?_
    refine mW (s:=86) rfl (fun h=> ?_) (fun h=> ?_)
    rotate_left;exact absurd (by omega) h
    iterate 2 refine qsE ?_
    refine rE dY ?_
    refine jB (v:= .bool false) rfl rfl rfl rfl rfl (mT (a:=true) (b:=true) rfl rfl uS) ?_
    refine qE cR ?_
    refine qE dQ ?_
    refine rE eP ?_
    refine rE eY ?_
    refine rE bM ?_
    refine rE (fA 0) ?_
    refine rE fC ?_
    iterate 2 refine rE bM ?_
    refine rE (fA 6) ?_
    refine rE fC ?_
    refine rE gO ?_
    refine qE cR ?_
    refine fW ?_
    refine aQ ?_
    refine cK _ rfl (fun hc43=> ?_) (fun hc43=> ?_)
    ·exact absurd hc43 (fun h=>h rfl)
    refine cM ?_
    refine bD ?_
    refine aQ ?_
    refine eG [6,7,0,1,2,3,4,5,8] 9 rfl (by kernel_rfl) ?_
    refine kJ (K:=[pt b15 (.cells #[sB pH20 K.head cH23,sB pA21 K.a cA24,sB pB22 K.b cB25,Ix (K.power),Nx (I.epoch),Nx (I.next),sB ps26 I.state cs27,sB pr28 I.recs cr29,Nx (I.size),.bool false] 56),sW pH20 pA21 pB22 ps26 pr28 cH23 cA24 cB25 cs27 cr29 us K I]) (F:=uI b15 K I false) rfl (fun _ h=>⟨_,_,_,_,_,_,_,_,_,_,uQ h⟩) ?_
    refine eG [1,2,3,4,0,5,6,7] 8 rfl (by kernel_rfl) ?_
    refine bW (S:=b1) (k:=K) (pH:=pH31) (pA:=pA32) (pB:=pB33) (cH:=cH34) (cA:=cA35) (cB:=cB36) (M:=(uI b15 K I false::pt b30 (.cells #[sB pH20 K.head cH23,sB pA21 K.a cA24,sB pB22 K.b cB25,Ix (K.power),Nx (I.epoch),Nx (I.next),sB ps26 I.state cs27,sB pr28 I.recs cr29,Nx (I.size),.bool false] 56)::dC J2 b1 I false::rB (some ⟨b16,0,none⟩) cP 65537::[])) rfl ?_
    refine aC ?_
    refine lv (v:=Nx (q+1)) (bJ rfl rfl (bU (by omega) (by omega))) ?_
    refine lE bG ?_
    refine aG ?_
    refine fpn [3,0,1,4,2] 5 ?_
    refine dL [true,true,true,true,false] rfl ?_
    exact bT ⟨(q+1,K,I),⟨⟨rfl,rfl,rfl,rfl,rfl⟩,rfl,⟨by omega,hL2,hS2,hN2,hE2⟩⟩,(show 6-(q+1)<6-q from by omega)⟩
   refine aC ?_
   refine lE eP ?_
   refine lE cX ?_
   refine bP rfl rfl rfl (cY (vs:=[pp J2 0,.slice (some ⟨b16,0,none⟩) (m) 65537]) sN.ok rfl rfl) ?_
   intro w hw
   replace hw:=hw.perm (L':=_::_::_::_::_::[]) (by exact(((((aB 4 rfl).trans (aB 4 rfl)).trans (aB 3 rfl)).trans (aB 3 rfl)).trans (aB 4 rfl)))
   obtain⟨β1,sb,kn,hw1,back⟩:=St.frame (L:=[_]) (M:=_::_::_::_::[]) hw
   refine(nJ β1 w J2 b1 K I (cP.take m) (by omega) hbig (by omega) (.inl (by omega)) _ (kn _ (aX.of_res 3 rfl (Sl.mono bE _ _) fun _ h=>eX h (by omega))) hw1).mono ?_
   rintro e w' ⟨rfl,hw'⟩
   refine⟨_,rfl,_,back _ _ hw',?_⟩
   refine lE iK ?_
   iterate 2 refine lE kK ?_
   iterate 2 refine lE bV ?_
   refine eJ ?_
   refine lE (dO 1) ?_
   refine lE cX ?_
   refine gW gU (fun w β1 sb kn hw1=>rQ β1 w hw1 K _ _ _ (kn _ (aX.of_res 2 rfl (Sl.mono bE _ _) fun _ h=>h.1)) (kn _ (aX.of_res 2 rfl (Sl.mono bE _ _) fun _ h=>h.2.1)) (kn _ (aX.of_res 2 rfl (Sl.mono bE _ _) fun _ h=>h.2.2.1)) I ps26 pr28 cs27 cr29 us hul (kn (fun h=>Cs h (ba pr28) us) (aX.of_res 2 rfl (Cs.mono _ _) fun _ h=>h.2.2.2.2.1)) hu1 hpr (cP.take m) _ (kn _ (aX.of_res 4 rfl (Sl.mono bE _ _) fun _ h=>eX h (by omega))) hfit ⟨by omega,by omega,by omega,by omega⟩ (by omega) (.inl (by omega))) ?_
   refine lE iK ?_
   refine lE mV ?_
   iterate 2 refine lE kK ?_
   refine fZ fun b44=> ?_
   refine lu (mS 0 (#[sB pH20 K.head cH23,sB pA21 K.a cA24,sB pB22 K.b cB25,Ix (K.power),Nx (I.epoch),Nx (I.next),sB ps26 I.state cs27,sB pr28 I.recs cr29,Nx (I.size),.bool false])) ?_
   iterate 2 refine lE bV ?_
   refine eJ ?_
   refine lE (dO 0) ?_
   refine lu (mS 2 (#[sB pH20 K.head cH23,sB pA21 K.a cA24,sB pB22 K.b cB25,Ix (K.power),Nx (I.epoch),Nx (I.next),sB ps26 I.state cs27,sB pr28 I.recs cr29,Nx (I.size),.bool false])) ?_
   refine aW ?_
   refine aO ?_
   refine eG [4,0,1,2,3,5] 6 rfl (by kernel_rfl) ?_
   refine cI rfl (fun pH45 pA46 pB47 cH48 cA49 cB50=> ?_)
   refine bA 1 rfl (fun hcl51 hcm52=> ?_)
   refine bA 2 rfl (fun hcl53 hcm54=> ?_)
   refine bA 3 rfl (fun hcl55 hcm56=> ?_)
   refine eF (by kernel_rfl) (by kernel_rfl) ?_
   iterate 2 refine qE bG ?_
   refine qE gO ?_
   refine qE dQ ?_
   iterate 2 refine rE bG ?_
   refine rE gO ?_
   refine qE cR ?_
   refine qE dQ ?_
   refine rE bG ?_
   refine rE dR ?_
   refine rE bG ?_
   refine rE dR ?_
   refine rE dQ ?_
   refine mW (s:=86) rfl (fun h=> ?_) (fun h=> ?_)
   exact absurd h (by omega)
   refine rE bG ?_
   refine rE dR ?_
   refine rE cR ?_
   refine jB (v:= .bool (!(true==(decide (((q:Nat):Int)=(5:Int)))))) rfl rfl rfl rfl rfl (mT (a:=true) (b:=decide (((q:Nat):Int)=(5:Int))) rfl rfl uS) ?_
   refine qE cR ?_
   refine qE dQ ?_
   refine yW (s:=92) (b:= !(true==(decide (((q:Nat):Int)=(5:Int))))) rfl (fun h=> ?_) (fun h=> ?_)
   (rw[(show(!(true==(decide (((q:Nat):Int)=(5:Int)))))=false by rw[decide_eq_true (show((q:Nat):Int)=(5:Int) by omega)];rfl)]at h;cases h)
   refine rE eP ?_
   refine rE eY ?_
   refine rE bM ?_
   refine rE (fA 0) ?_
   refine rE fC ?_
   iterate 2 refine rE bM ?_
   refine rE (fA 6) ?_
   refine rE fC ?_
   refine rE gO ?_
   refine qE cR ?_
   refine fW ?_
   refine aQ ?_
   refine cK _ rfl (fun hc57=> ?_) (fun hc57=> ?_)
   ·exact absurd hc57 (fun h=>h rfl)
   refine cM ?_
   refine bD ?_
   refine aQ ?_
   refine eG [6,7,0,1,2,3,4,5,8] 9 rfl (by kernel_rfl) ?_
   refine kJ (K:=[pt b15 (.cells #[sB pH20 K.head cH23,sB pA21 K.a cA24,sB pB22 K.b cB25,Ix (K.power),Nx (I.epoch),Nx (I.next),sB ps26 I.state cs27,sB pr28 I.recs cr29,Nx (I.size),.bool false] 56),sW pH20 pA21 pB22 ps26 pr28 cH23 cA24 cB25 cs27 cr29 us K I]) (F:=uI b15 K I false) rfl (fun _ h=>⟨_,_,_,_,_,_,_,_,_,_,uQ h⟩) ?_
   refine eG [1,2,3,4,0,5,6,7] 8 rfl (by kernel_rfl) ?_
   refine bW (S:=b1) (k:=K) (pH:=pH45) (pA:=pA46) (pB:=pB47) (cH:=cH48) (cA:=cA49) (cB:=cB50) (M:=(uI b15 K I false::pt b44 (.cells #[sB pH20 K.head cH23,sB pA21 K.a cA24,sB pB22 K.b cB25,Ix (K.power),Nx (I.epoch),Nx (I.next),sB ps26 I.state cs27,sB pr28 I.recs cr29,Nx (I.size),.bool false] 56)::dC J2 b1 I false::rB (some ⟨b16,0,none⟩) cP 65537::[])) rfl ?_
   refine aC ?_
   refine lv (v:=Nx (q+1)) (bJ rfl rfl (bU (by omega) (by omega))) ?_
   refine lE bG ?_
   refine aG ?_
   refine fpn [3,0,1,4,2] 5 ?_
   refine dL [true,true,true,true,false] rfl ?_
   exact bT ⟨(q+1,K,I),⟨⟨rfl,rfl,rfl,rfl,rfl⟩,rfl,⟨by omega,hL2,hS2,hN2,hE2⟩⟩,(show 6-(q+1)<6-q from by omega)⟩
  obtain⟨hf1,hf2⟩:=aHg (by omega) hm3 hm4 hm5 hx
  have hfl2:=aEg (show q+1≤6 by omega)
  have hL2:=hL.ap (bs:=(cP.take m)) (by omega) (by omega) (show flS q≤flS (q+1) by omega) (by omega)
  have hS2:(hG I (cP.take m)).size=flS (q+1):=by rw[aDi];omega
  have hN2:(hG I (cP.take m)).next=flN (q+1):=by show I.next+1=_;omega
  have hE2:(hG I (cP.take m)).epoch=0:=hE
  refine aC ?_
  refine lE eP ?_
  refine lE cX ?_
  refine bP rfl rfl rfl (cY (vs:=[pp J2 0,.slice (some ⟨b16,0,none⟩) (m) 65537]) sN.ok rfl rfl) ?_
  intro w hw
  replace hw:=hw.perm (L':=_::_::_::_::_::[]) (by exact(((((aB 4 rfl).trans (aB 2 rfl)).trans (aB 2 rfl)).trans (aB 4 rfl)).trans (aB 4 rfl)))
  obtain⟨β1,sb,kn,hw1,back⟩:=St.frame (L:=[_,_]) (M:=_::_::_::[]) hw
  refine(rC β1 w J2 b1 K I (cP.take m) (by omega) hfit (by omega) (by omega) (by omega) (by omega) (by omega) (wH hL.pw) _ (kn _ (aX.of_res 2 rfl (Sl.mono bE _ _) fun _ h=>eX h (by omega))) hw1).mono ?_
  rintro e w' ⟨rfl,hw'⟩
  refine⟨_,rfl,_,back _ _ hw',?_⟩
  refine lE iK ?_
  iterate 2 refine lE kK ?_
  iterate 2 refine lE bV ?_
  refine eJ ?_
  refine lE (dO 2) ?_
  refine lE cX ?_
  refine jH (cY (vs:=[.agg #[sB pH20 K.head cH23,sB pA21 K.a cA24,sB pB22 K.b cB25,Ix (K.power),Nx (I.epoch),Nx (I.next),sB ps26 I.state cs27,sB pr28 I.recs cr29,Nx (I.size),.bool false],.slice (some ⟨b16,0,none⟩) (m) 65537]) aJg.ok rfl rfl) rfl fun w β1 sb kn hw1 back=>(yY β1 w hw1 K _ _ _ (kn _ (aX.of_res 3 rfl (Sl.mono bE _ _) fun _ h=>h.1)) (kn _ (aX.of_res 3 rfl (Sl.mono bE _ _) fun _ h=>h.2.1)) (kn _ (aX.of_res 3 rfl (Sl.mono bE _ _) fun _ h=>h.2.2.1)) I ps26 pr28 cs27 cr29 us hul (kn (fun h=>Cs h (ba pr28) us) (aX.of_res 3 rfl (Cs.mono _ _) fun _ h=>h.2.2.2.2.1)) hu1 hpr (cP.take m) _ (kn _ (aX.of_res 4 rfl (Sl.mono bE _ _) fun _ h=>eX h (by omega))) hfit ⟨by omega,by omega,by omega,by omega⟩ (by omega) (by omega) (by omega) (wH hL.pw)).mono ?_
  rintro e w' ⟨pH58,pA59,pB60,cH61,cA62,cB63,p64,c65,rfl,hw'⟩
  refine⟨_,rfl,_,back _ _ hw',?_⟩
  refine lE iK ?_
  refine lE mV ?_
  iterate 2 refine lE kK ?_
  refine fZ fun b66=> ?_
  refine lu (mS 0 (#[sB pH58 ((gK K I (cP.take m)).head) cH61,sB pA59 ((gK K I (cP.take m)).a) cA62,sB pB60 ((gK K I (cP.take m)).b) cB63,Ix ((gK K I (cP.take m)).power),Nx ((hG I (cP.take m)).epoch),Nx ((hG I (cP.take m)).next),sB ps26 (hG I (cP.take m)).state cs27,sB p64 (hG I (cP.take m)).recs c65,Nx ((hG I (cP.take m)).size),.bool false])) ?_
  iterate 2 refine lE bV ?_
  refine eJ ?_
  refine lE (dO 0) ?_
  refine lu (mS 7 (#[sB pH58 ((gK K I (cP.take m)).head) cH61,sB pA59 ((gK K I (cP.take m)).a) cA62,sB pB60 ((gK K I (cP.take m)).b) cB63,Ix ((gK K I (cP.take m)).power),Nx ((hG I (cP.take m)).epoch),Nx ((hG I (cP.take m)).next),sB ps26 (hG I (cP.take m)).state cs27,sB p64 (hG I (cP.take m)).recs c65,Nx ((hG I (cP.take m)).size),.bool false])) ?_
  refine aW ?_
  refine aO ?_
  refine eG [6,0,1,2,3,4,5,7,8,9] 10 rfl (by kernel_rfl) ?_
  refine cI rfl (fun pH67 pA68 pB69 cH70 cA71 cB72=> ?_)
  refine bA 1 rfl (fun hcl73 hcm74=> ?_)
  refine bA 2 rfl (fun hcl75 hcm76=> ?_)
  refine bA 3 rfl (fun hcl77 hcm78=> ?_)
  refine eF (by kernel_rfl) (by kernel_rfl) ?_
  iterate 2 refine qE bG ?_
  refine qE gO ?_
  refine qE dQ ?_
  refine mW (s:=76) rfl (fun h=> ?_) (fun h=> ?_)
  exact absurd h (fun h=>h rfl)
  iterate 2 refine rE bG ?_
  refine rE gO ?_
  refine qE cR ?_
  refine qE dQ ?_
  refine rE bG ?_
  refine rE dR ?_
  refine rE bG ?_
  refine rE dR ?_
  refine rE dQ ?_
  refine mW (s:=86) rfl (fun h=> ?_) (fun h=> ?_)
  exact absurd h (by omega)
  refine rE bG ?_
  refine rE dR ?_
  refine rE cR ?_
  refine jB (v:= .bool (!(false==(decide (((q:Nat):Int)=(5:Int)))))) rfl rfl rfl rfl rfl (mT (a:=false) (b:=decide (((q:Nat):Int)=(5:Int))) rfl rfl uS) ?_
  refine qE cR ?_
  refine qE dQ ?_
  refine yW (s:=92) (b:= !(false==(decide (((q:Nat):Int)=(5:Int))))) rfl (fun h=> ?_) (fun h=> ?_)
  (rw[(show(!(false==(decide (((q:Nat):Int)=(5:Int)))))=false by rw[decide_eq_false (show ¬((q:Nat):Int)=(5:Int) by omega)];rfl)]at h;cases h)
  refine rE eP ?_
  refine rE eY ?_
  refine rE bM ?_
  refine rE (fA 0) ?_
  refine rE fC ?_
  iterate 2 refine rE bM ?_
  refine rE (fA 10) ?_
  refine rE fC ?_
  refine rE gO ?_
  refine qE cR ?_
  refine fW ?_
  refine aQ ?_
  refine cK _ rfl (fun hc79=> ?_) (fun hc79=> ?_)
  ·exact absurd hc79 (fun h=>h rfl)
  refine cM ?_
  refine bD ?_
  refine aQ ?_
  refine eG [5,6,7,8,11,0,1,2,3,4,9,10,12] 13 rfl (by kernel_rfl) ?_
  refine kJ (K:=[rB pH58 ((gK K I (cP.take m)).head) cH61,rB pA59 ((gK K I (cP.take m)).a) cA62,rB pB60 ((gK K I (cP.take m)).b) cB63,apR p64 c65 us I.recs.length (cP.take m),sW pH20 pA21 pB22 ps26 pr28 cH23 cA24 cB25 cs27 cr29 us K I]) (F:=iT (sB pH58 (gK K I (cP.take m)).head cH61) (sB pA59 (gK K I (cP.take m)).a cA62) (sB pB60 (gK K I (cP.take m)).b cB63) (sB ps26 (hG I (cP.take m)).state cs27) (sB p64 (hG I (cP.take m)).recs c65) (gK K I (cP.take m)) (hG I (cP.take m))) rfl (fun _ h=>aEx h) ?_
  refine eG [7,0,1,2,3,4,5,6,8] 9 rfl (by kernel_rfl) ?_
  refine kJ (K:=[pt b15 (.cells #[sB pH58 ((gK K I (cP.take m)).head) cH61,sB pA59 ((gK K I (cP.take m)).a) cA62,sB pB60 ((gK K I (cP.take m)).b) cB63,Ix ((gK K I (cP.take m)).power),Nx ((hG I (cP.take m)).epoch),Nx ((hG I (cP.take m)).next),sB ps26 (hG I (cP.take m)).state cs27,sB p64 (hG I (cP.take m)).recs c65,Nx ((hG I (cP.take m)).size),.bool false] 56),iT (sB pH58 (gK K I (cP.take m)).head cH61) (sB pA59 (gK K I (cP.take m)).a cA62) (sB pB60 (gK K I (cP.take m)).b cB63) (sB ps26 (hG I (cP.take m)).state cs27) (sB p64 (hG I (cP.take m)).recs c65) (gK K I (cP.take m)) (hG I (cP.take m))]) (F:=uI b15 (gK K I (cP.take m)) (hG I (cP.take m)) false) rfl (fun _ h=>⟨_,_,_,_,_,_,_,_,_,_,h⟩) ?_
  refine eG [1,2,3,4,0,5,6,7] 8 rfl (by kernel_rfl) ?_
  refine bW (S:=b1) (k:=(gK K I (cP.take m))) (pH:=pH67) (pA:=pA68) (pB:=pB69) (cH:=cH70) (cA:=cA71) (cB:=cB72) (M:=(uI b15 (gK K I (cP.take m)) (hG I (cP.take m)) false::pt b66 (.cells #[sB pH58 ((gK K I (cP.take m)).head) cH61,sB pA59 ((gK K I (cP.take m)).a) cA62,sB pB60 ((gK K I (cP.take m)).b) cB63,Ix ((gK K I (cP.take m)).power),Nx ((hG I (cP.take m)).epoch),Nx ((hG I (cP.take m)).next),sB ps26 (hG I (cP.take m)).state cs27,sB p64 (hG I (cP.take m)).recs c65,Nx ((hG I (cP.take m)).size),.bool false] 56)::dC J2 b1 (hG I (cP.take m)) false::rB (some ⟨b16,0,none⟩) cP 65537::[])) rfl ?_
  refine aC ?_
  refine lv (v:=Nx (q+1)) (bJ rfl rfl (bU (by omega) (by omega))) ?_
  refine lE bG ?_
  refine aG ?_
  refine fpn [3,0,1,4,2] 5 ?_
  refine dL [true,true,true,true,false] rfl ?_
  exact bT ⟨(q+1,(gK K I (cP.take m)),(hG I (cP.take m))),⟨⟨rfl,rfl,rfl,rfl,rfl⟩,rfl,⟨by omega,hL2,hS2,hN2,hE2⟩⟩,(show 6-(q+1)<6-q from by omega)⟩
 refine dZ ?_
 refine aU ?_
 refine aU ?_
 refine eA ?_
 refine zT ?_
 refine aO ?_
 have hq6:q=6:=by omega
 subst hq6
 have hS6:I.size=262144:=hS.trans rfl
 have hN6:I.next=4:=hN.trans rfl
 have hKa:K.a.length=262144:=by have h:=hL.size;rw[hE]at h;exact h.trans hS6
 have hfl:=aEg hq
 have hbz:=nM
 have hfit:=hL.fits (by decide)
 have hb6:=yC (show 65536≤65537 by decide)
 have hL2:=hL.ck (bs:=(cP.take 65536)) (by omega) (by omega) (Nat.le_refl _) (by rw[hb6];decide)
 refine eG [1,0,2,3] 4 rfl (by kernel_rfl) ?_
 refine cI rfl (fun pH80 pA81 pB82 cH83 cA84 cB85=> ?_)
 refine bA 1 rfl (fun hcl86 hcm87=> ?_)
 refine bA 2 rfl (fun hcl88 hcm89=> ?_)
 refine bA 3 rfl (fun hcl90 hcm91=> ?_)
 refine aC ?_
 refine lE eP ?_
 refine lE eY ?_
 refine lE bM ?_
 refine lE (fA 0) ?_
 refine lE fC ?_
 refine lE gO ?_
 refine lE dQ ?_
 refine cD (s:=111) rfl (fun h=> ?_) (fun h=> ?_)
 exact absurd h (Decidable.not_not.2 (by omega))
 refine gE eP ?_
 refine gE cX ?_
 refine pQ (L':=[pt b1 (.cells #[sB pH80 K.head cH83,sB pA81 K.a cA84,sB pB82 K.b cB85,Ix (K.power)] 32),rB pH80 K.head cH83,rB pA81 K.a cA84,rB pB82 K.b cB85,dC J2 b1 I false,uI b15 K I false,rB (some ⟨b16,0,none⟩) cP 65537]) (by exact(bN [0,1,2,3,4,5,6] 7 rfl (by kernel_rfl) (by kernel_rfl))) ?_
 refine wS (S:=b1) (k:=K) (pH:=pH80) (pA:=pA81) (pB:=pB82) (cH:=cH83) (cA:=cA84) (cB:=cB85) (M:=(dC J2 b1 I false::uI b15 K I false::rB (some ⟨b16,0,none⟩) cP 65537::[])) rfl ?_
 refine fN (v:= .slice (some ⟨b16,0,none⟩) (65536) 65537) rfl rfl rfl rfl rfl (dF (a:=(some ⟨b16,0,none⟩)) (len:=(cP).length) (cap:=65537) (h:=65536) bQ rfl rfl (by omega)) ?_
 refine eQ rfl rfl rfl rfl rfl (cY (vs:=[pp J2 0,.slice (some ⟨b16,0,none⟩) (65536) 65537]) zK.ok rfl rfl) ?_
 intro w hw
 replace hw:=hw.perm (L':=_::_::_::_::[]) (by exact((((aB 3 rfl).trans (aB 3 rfl)).trans (aB 2 rfl)).trans (aB 3 rfl)))
 obtain⟨β1,sb,kn,hw1,back⟩:=St.frame (L:=[_,_]) (M:=_::_::[]) hw
 refine(rD β1 w J2 b1 K I (cP.take 65536) (by omega) hfit (by omega) (tT hL.pw) _ (kn _ (aX.of_res 1 rfl (Sl.mono bE _ _) fun _ h=>eX h (by omega))) hw1).mono ?_
 rintro e w' ⟨rfl,hw'⟩
 refine⟨_,rfl,_,back _ _ hw',?_⟩
 refine gE gO ?_
 refine lE cR ?_
 refine lE dQ ?_
 refine gE eP ?_
 refine eQ rfl rfl rfl rfl rfl (cY (vs:=[pp J2 0]) aKg.ok rfl rfl) ?_
 intro w hw
 obtain⟨β1,sb,kn,hw1,back⟩:=St.frame_all hw
 refine(tH β1 w hw1 J2 b1 (nF I (cP.take 65536)) false (kn _ (aX.of_res 0 rfl (JF.mono _ _ _ _) fun _ h=>iX h))).mono ?_
 rintro e w' ⟨rfl,hw'⟩
 refine⟨_,rfl,_,back _ _ hw',?_⟩
 refine gE gO ?_
 refine lE cR ?_
 refine lE dQ ?_
 refine cD (s:=123) rfl (fun h=> ?_) (fun h=> ?_)
 exact absurd h (Decidable.not_not.2 (by show((I.next:Nat):Int)=4;omega))
 refine gE eP ?_
 refine eQ rfl rfl rfl rfl rfl (cY (vs:=[pp J2 0]) aLo.ok rfl rfl) ?_
 intro w hw
 obtain⟨β1,sb,kn,hw1,back⟩:=St.frame_all hw
 refine(uG β1 w hw1 J2 b1 (nF I (cP.take 65536)) false (kn _ (aX.of_res 0 rfl (JF.mono _ _ _ _) fun _ h=>iX h)) (Nat.zero_le _) (fun b hb=>absurd hb List.not_mem_nil)).mono ?_
 rintro e w' ⟨p92,c93,rfl,hw'⟩
 refine⟨_,rfl,_,back _ _ hw',?_⟩
 refine gE fC ?_
 refine gE gO ?_
 refine lE cR ?_
 refine aW ?_
 refine cK _ rfl (fun hc94=> ?_) (fun hc94=> ?_)
 ·exact absurd hc94 (Decidable.not_not.2 (rfl))
 refine eT ?_
 refine cC ?_
 refine lE eP ?_
 refine bP rfl rfl rfl (cY (vs:=[pp b1 0]) pM.ok rfl rfl) ?_
 intro w hw
 replace hw:=hw.perm (L':=_::_::_::_::_::[]) (by exact(((((aB 4 rfl).trans (aB 4 rfl)).trans (aB 3 rfl)).trans (aB 3 rfl)).trans (aB 4 rfl)))
 obtain⟨β1,sb,kn,hw1,back⟩:=St.frame (L:=[_]) (M:=_::_::_::_::[]) hw
 refine(oO β1 w b1 (iE K (I.epoch+1) I.next (cP.take 65536)) (hL2.okP (by decide)) (by rw[hL2.pw];decide) (nF I (cP.take 65536)) hL2.read hL2.cutOk hw1).mono ?_
 rintro e w' ⟨J95,rfl,hw'⟩
 refine⟨_,rfl,_,back _ _ hw',?_⟩
 refine lE iK ?_
 refine lE zU ?_
 refine lE kK ?_
 refine lE nV ?_
 refine lE bV ?_
 refine eJ ?_
 refine lE bG ?_
 refine lE dR ?_
 refine lE dQ ?_
 refine gE eP ?_
 refine eQ rfl rfl rfl rfl rfl (cY (vs:=[pp J95 0]) aLm.ok rfl rfl) ?_
 intro w hw
 obtain⟨β1,sb,kn,hw1,back⟩:=St.frame_all hw
 refine(rH β1 w hw1 J95 b1 (nF I (cP.take 65536)) false (kn _ (aX.of_res 0 rfl (JF.mono _ _ _ _) fun _ h=>iX h))).mono ?_
 rintro e w' ⟨rfl,hw'⟩
 refine⟨_,rfl,_,back _ _ hw',?_⟩
 refine gE dR ?_
 refine lE dY ?_
 refine lE dQ ?_
 refine cD (s:=141) rfl (fun h=> ?_) (fun h=> ?_)
 rotate_left;exact absurd (by show((I.epoch+1:Nat):Int)=1;omega) h
 refine gE eP ?_
 refine eQ rfl rfl rfl rfl rfl (cY (vs:=[pp J95 0]) aLn.ok rfl rfl) ?_
 intro w hw
 obtain⟨β1,sb,kn,hw1,back⟩:=St.frame_all hw
 refine(zJ β1 w hw1 J95 b1 (nF I (cP.take 65536)) false (kn _ (aX.of_res 0 rfl (JF.mono _ _ _ _) fun _ h=>iX h)) (by show(cP.take 65536).length≤_;omega)).mono ?_
 rintro e w' ⟨p96,c97,rfl,hw'⟩
 refine⟨_,rfl,_,back _ _ hw',?_⟩
 refine gE fC ?_
 refine gE dR ?_
 refine lE dY ?_
 refine lE dQ ?_
 refine cD (s:=147) rfl (fun h=> ?_) (fun h=> ?_)
 rotate_left;exact absurd (by show(((cP.take 65536).length:Nat):Int)=65536;omega) h
 refine gE eP ?_
 refine eQ rfl rfl rfl rfl rfl (cY (vs:=[pp J95 0]) aKg.ok rfl rfl) ?_
 intro w hw
 obtain⟨β1,sb,kn,hw1,back⟩:=St.frame_all hw
 refine(tH β1 w hw1 J95 b1 (nF I (cP.take 65536)) false (kn _ (aX.of_res 1 rfl (JF.mono _ _ _ _) fun _ h=>iX h))).mono ?_
 rintro e w' ⟨rfl,hw'⟩
 refine⟨_,rfl,_,back _ _ hw',?_⟩
 refine gE dR ?_
 refine lE dY ?_
 refine lE eE ?_
 refine aW ?_
 refine bB ?_
 refine dS Try.results35 rfl ?_
 intro w hw
 exact⟨congrArg (fun b=>Ending.returned (Value.bool b)) (decide_eq_true (by show((I.next:Nat):Int)=4;omega)),aF [false,false,false,false,false,false,false] rfl hw⟩
end Go.Proofs
