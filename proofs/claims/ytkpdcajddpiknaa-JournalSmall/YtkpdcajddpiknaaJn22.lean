/-
 opened,walked. Printed by a program of my own.
-/
import Derived.Test.YtkpdcajddpiknaaJn21
set_option linter.all false
set_option maxHeartbeats 4000000
namespace Go.Proofs
open Go Go.Sl Go.Jn
def zI:KI:=⟨0,0,[],[],0⟩
theorem zG{v:Value}{T n m:Nat}{vs:List Value}:oZ (fun h=>∃a,gR a h∧row v T n m vs a):=fun _ _ hs ⟨a,ha,hr⟩=>⟨a,ha.trans hs,hr⟩
theorem tK{p:Option Addr}{c T:Nat}{xs:List Bs}{us:List Value}{h:bR}(hr:∃a,gR a h∧row (sB p xs c) T 1 xs.length us a)(hi:tX us xs h):Sl rA h (sB p xs c) xs:=by
 obtain⟨a,ha,hr⟩:=hr
 have hl:=qR hr
 refine⟨p,c,rfl,hl.2.1,by have:=hl.2.2;unfold maxLen at this;omega,fun j x hj=> ?_⟩
 have hlt:=(List.getElem?_eq_some_iff.1 hj).1
 obtain⟨q,cur,rfl,hq,_⟩:=jC hr (by omega)
 obtain⟨u,hu⟩:∃u,us[j]? =some u:=⟨_,List.getElem?_eq_getElem (by rw[hi.1];exact hlt)⟩
 refine⟨rfl,[u],Cs.mono _ _ _ _ ha (?_:Cs a _ _),u,rfl,hi.2 j x u hj hu⟩
 show Cs a ((ba (some ⟨q,0,none⟩)).add (j*1)) _
 rw[Nat.mul_one]
 refine xH hr ?_ (Nat.succ_pos _)
 rw[List.drop_eq_getElem_cons (by omega)]
 have:=(List.getElem?_eq_some_iff.1 hu).2
 simp[this]
theorem iM{L:List cE}{h:bR}{p:Option Addr}{c:Nat}{xs:Bs}(hL:kI L h)(i:Nat)(hi:L[i]? =some (rB p xs c)):Sl bE h (sB p xs c) xs:=by
 obtain⟨a,ha,hr⟩:=hL.each _ (List.mem_of_getElem? hi)
 exact Sl.mono _ _ _ _ _ ha (fB hr)
theorem aEy{pH pA pB qA qB pr:Option Addr}{cH cA cB dA dB cr:Nat}{k' k:KS}{i:KI}{us:List Value}{vS:Value}{a:bR}
 (h:kI [rB pH k'.head cH,rB pA k'.a cA,rB pB k'.b cB,rB qA k.a dA,rB qB k.b dB,row (sB pr i.recs cr) 30 1 i.recs.length us] a)
 (hx:∀h,Sl bE h (sB qA k.a dA) k.a→Sl bE h (sB qB k.b dB) k.b→Sl bE h vS i.state∧tX us i.recs h):iT (sB pH k'.head cH) (sB pA k'.a cA) (sB pB k'.b cB) vS (sB pr i.recs cr) k' i a:=by
 obtain⟨h1,h2⟩:=hx a (iM h 3 rfl) (iM h 4 rfl)
 exact⟨iM h 0 rfl,iM h 1 rfl,iM h 2 rfl,h1,tK (T:=30) (h.each _ (List.mem_of_getElem? (i:=5) rfl)) h2⟩
theorem wW{pH pA pB:Option Addr}{cH cA cB:Nat}{k':KS}{a:bR}(h:kI [rB pH k'.head cH,rB pA k'.a cA,rB pB k'.b cB] a):
 iT (sB pH k'.head cH) (sB pA k'.a cA) (sB pB k'.b cB) (.slice none 0 0) (.slice none 0 0) k' zI a:=⟨iM h 0 rfl,iM h 1 rfl,iM h 2 rfl,Sl.nil bE a,Sl.nil rA a⟩
instance aGe:CfC Try.prog 61:={}
theorem uS:Try.prog.underlying 4=some .bool:=by kernel_rfl
instance aBq:CfC Try.prog 29:={}
theorem aAe(β:Base)(w:World)(S:Nat)(k:KS)(hl1:k.head.length≤1048576)(hl2:k.a.length≤1048576)(hl3:k.b.length≤1048576)(hno:¬k.okP)(hw:St β [aS S k] w):Calls Try.prog 22 #[pp S 0] w fun r w'=>∃pH pA pB cH cA cB,r= .returned (.tuple #[.pointer none,.agg #[sB pH k.head cH,sB pA k.a cA,sB pB k.b cB,Ix k.power,.int .i64 0,.int .i64 0,.slice none 0 0,.slice none 0 0,.int .i64 0,.bool false],.bool true])∧St β [aS S k,iT (sB pH k.head cH) (sB pA k.a cA) (sB pB k.b cB) (.slice none 0 0) (.slice none 0 0) k zI] w':=by
 refine enter (n:=86) Try.func22 rfl Try.ntmps22 rfl ?_ hw
 refine cC ?_
 refine lE nV ?_
 refine fZ fun b1=> ?_
 refine lE eE ?_
 refine aW ?_
 refine aO ?_
 refine eG [1,0] 2 rfl (by kernel_rfl) ?_
 refine cI rfl (fun pH2 pA3 pB4 cH5 cA6 cB7=> ?_)
 refine bA 1 rfl (fun hcl8 hcm9=> ?_)
 refine bA 2 rfl (fun hcl10 hcm11=> ?_)
 refine bA 3 rfl (fun hcl12 hcm13=> ?_)
 refine aC ?_
 refine lE eP ?_
 refine lE eY ?_
 refine lE (dO 0) ?_
 refine jH (cY (vs:=[.agg #[sB pH2 k.head cH5,sB pA3 k.a cA6,sB pB4 k.b cB7,Ix (k.power)]]) qW.ok rfl rfl) rfl fun w β1 sb kn hw1 back=>(lB β1 w hw1 k _ _ _ (kU kn 1 rfl) (kU kn 2 rfl) (kU kn 3 rfl) (by omega) (by omega) (by omega)).mono ?_
 rintro e w' ⟨pH14,pA15,pB16,cH17,cA18,cB19,rfl,hw'⟩
 refine⟨_,rfl,_,back _ _ hw',?_⟩
 refine fZ fun b20=> ?_
 refine lu (mS 0 (#[sB pH14 k.head cH17,sB pA15 k.a cA18,sB pB16 k.b cB19,Ix (k.power)])) ?_
 refine eJ ?_
 refine lE eP ?_
 refine lE eY ?_
 refine lE (dO 4) ?_
 refine gW gU (fun w β1 sb kn hw1=>vW β1 w hw1 k _ _ _ (kU kn 5 rfl) (kU kn 6 rfl) (kU kn 7 rfl) hno) ?_
 refine lE iK ?_
 refine lE mV ?_
 refine lE kK ?_
 refine fZ fun b21=> ?_
 refine lu (mS 0 (#[.int .i64 (0),.int .i64 (0),.slice none 0 0,.slice none 0 0,.int .i64 (0)])) ?_
 refine lE bV ?_
 refine eJ ?_
 refine lE (dO 1) ?_
 refine gW gU (fun w β1 sb kn hw1=>vZ β1 w hw1 k _ _ _ (kU kn 2 rfl) (kU kn 3 rfl) (kU kn 4 rfl) hno) ?_
 refine lE iK ?_
 refine lE mV ?_
 refine lE kK ?_
 refine fZ fun b22=> ?_
 refine lu (mS 0 (#[.int .i64 (0),.int .i64 (0),.slice none 0 0,.slice none 0 0,.int .i64 (0)])) ?_
 refine lE bV ?_
 refine aW ?_
 refine dX ?_
 refine eF (by kernel_rfl) (by kernel_rfl) ?_
 iterate 2 refine qE bG ?_
 refine qE gO ?_
 refine qE dQ ?_
 refine rE (dO 1) ?_
 refine rE (dO 0) ?_
 refine iJ (v:= .bool true) rfl rfl rfl rfl rfl (cY (vs:=[.agg #[.int .i64 (0),.int .i64 (0),.slice none 0 0,.slice none 0 0,.int .i64 (0)],.agg #[.int .i64 (0),.int .i64 (0),.slice none 0 0,.slice none 0 0,.int .i64 (0)]]) aBp.ok rfl rfl) (fun w hw=> ?_) ?_
 ·obtain⟨β1,sb,kn,hw1,back⟩:=St.frame_all hw
  exact(oB β1 w hw1 zI _ _ _ _ (by decide) (Sl.nil bE _) (Sl.nil rA _) (Sl.nil bE _) (Sl.nil rA _)).mono (fun e w' ⟨he,hw'⟩=>⟨he,aF [true,true,true,true,true,true,true,true,true,true,true] rfl (back _ _ hw')⟩)
 refine rE lI ?_
 refine qE cR ?_
 refine qE dQ ?_
 refine rE eP ?_
 refine rE eY ?_
 refine rE (dO 6) ?_
 refine rE (dO 2) ?_
 refine iJ (v:= .bool true) rfl rfl rfl rfl rfl (cY (vs:=[.agg #[sB pH2 k.head cH5,sB pA3 k.a cA6,sB pB4 k.b cB7,Ix (k.power)],.agg #[sB pH14 k.head cH17,sB pA15 k.a cA18,sB pB16 k.b cB19,Ix (k.power)]]) qX.ok rfl rfl) (fun w hw=> ?_) ?_
 ·obtain⟨β1,sb,kn,hw1,back⟩:=St.frame_all hw
  exact(jE β1 w hw1 k _ _ _ (kU kn 7 rfl) (kU kn 8 rfl) (kU kn 9 rfl) _ _ _ (kU kn 3 rfl) (kU kn 4 rfl) (kU kn 5 rfl)).mono (fun e w' ⟨he,hw'⟩=>⟨he,aF [true,true,true,true,true,true,true,true,true,true,true] rfl (back _ _ hw')⟩)
 refine rE lI ?_
 refine qE cR ?_
 refine fW ?_
 refine aQ ?_
 refine dI rfl ?_
 refine eT ?_
 refine aO ?_
 refine eG [6,7,8,9,0,1,2,3,4,5,10] 11 rfl (by kernel_rfl) ?_
 refine bW (S:=S) (k:=k) (pH:=pH2) (pA:=pA3) (pB:=pB4) (cH:=cH5) (cA:=cA6) (cB:=cB7) (M:=(pt b22 (.cells #[.int .i64 (0),.int .i64 (0),.slice none 0 0,.slice none 0 0,.int .i64 (0)] 54)::pt b21 (.cells #[.int .i64 (0),.int .i64 (0),.slice none 0 0,.slice none 0 0,.int .i64 (0)] 36)::pt b20 (.cells #[sB pH14 k.head cH17,sB pA15 k.a cA18,sB pB16 k.b cB19,Ix (k.power)] 32)::rB pH14 k.head cH17::rB pA15 k.a cA18::rB pB16 k.b cB19::pt b1 (.cells #[.slice none 0 0,.slice none 0 0,.slice none 0 0,.int .i64 (0),.int .i64 (0),.int .i64 (0),.slice none 0 0,.slice none 0 0,.int .i64 (0),.bool false] 56)::[])) rfl ?_
 refine aC ?_
 refine lE eP ?_
 refine bP rfl rfl rfl (cY (vs:=[pp S 0]) pM.ok rfl rfl) ?_
 intro w hw
 obtain⟨β1,sb,kn,hw1,back⟩:=St.frame (L:=[_]) (M:=_::_::_::_::_::_::_::[]) hw
 refine(aFb β1 w S k hno hw1).mono ?_
 rintro e w' ⟨rfl,hw'⟩
 refine⟨_,rfl,_,back _ _ hw',?_⟩
 refine lE iK ?_
 refine lE zU ?_
 refine lE kK ?_
 refine lE nV ?_
 refine lE bV ?_
 refine eJ ?_
 refine lE (dO 3) ?_
 refine gW gU (fun w β1 sb kn hw1=>aCx β1 w hw1 k _ _ _ (kU kn 4 rfl) (kU kn 5 rfl) (kU kn 6 rfl) hno) ?_
 refine lE iK ?_
 refine lE mV ?_
 refine lE kK ?_
 refine fZ fun b23=> ?_
 refine lu (mS 0 (#[sB pH14 k.head cH17,sB pA15 k.a cA18,sB pB16 k.b cB19,Ix (k.power),.int .i64 (0),.int .i64 (0),.slice none 0 0,.slice none 0 0,.int .i64 (0),.bool false])) ?_
 refine lE bV ?_
 refine aW ?_
 refine dX ?_
 refine eG [1,0,2,3,4,5,6,7,8] 9 rfl (by kernel_rfl) ?_
 refine cI rfl (fun pH24 pA25 pB26 cH27 cA28 cB29=> ?_)
 refine bA 1 rfl (fun hcl30 hcm31=> ?_)
 refine bA 2 rfl (fun hcl32 hcm33=> ?_)
 refine bA 3 rfl (fun hcl34 hcm35=> ?_)
 refine eF (by kernel_rfl) (by kernel_rfl) ?_
 iterate 2 refine qE bG ?_
 refine qE gO ?_
 refine qE dQ ?_
 refine rE eP ?_
 refine jB (v:= .bool true) rfl rfl rfl rfl rfl (eL (p:=none) rfl rfl rX) ?_
 refine rE bG ?_
 refine rE gO ?_
 refine jB (v:= .bool false) rfl rfl rfl rfl rfl (mT (a:=true) (b:=true) rfl rfl uS) ?_
 refine qE cR ?_
 refine qE dQ ?_
 refine rE eP ?_
 refine rE eY ?_
 refine rE (dO 0) ?_
 refine rE bM ?_
 refine rE (dO 4) ?_
 refine iJ (v:= .bool true) rfl rfl rfl rfl rfl (cY (vs:=[.agg #[sB pH24 k.head cH27,sB pA25 k.a cA28,sB pB26 k.b cB29,Ix (k.power)],.agg #[sB pH14 k.head cH17,sB pA15 k.a cA18,sB pB16 k.b cB19,Ix (k.power)]]) qX.ok rfl rfl) (fun w hw=> ?_) ?_
 ·obtain⟨β1,sb,kn,hw1,back⟩:=St.frame_all hw
  exact(jE β1 w hw1 k _ _ _ (kU kn 1 rfl) (kU kn 2 rfl) (kU kn 3 rfl) _ _ _ (kU kn 8 rfl) (kU kn 9 rfl) (kU kn 10 rfl)).mono (fun e w' ⟨he,hw'⟩=>⟨he,aF [true,true,true,true,true,true,true,true,true,true,true,true] rfl (back _ _ hw')⟩)
 refine rE lI ?_
 refine qE cR ?_
 refine fW ?_
 refine aQ ?_
 refine dI rfl ?_
 refine eT ?_
 refine aO ?_
 refine eG [0,1,2,3,4,5,6,7,8,9,10,11] 12 rfl (by kernel_rfl) ?_
 refine bW (S:=S) (k:=k) (pH:=pH24) (pA:=pA25) (pB:=pB26) (cH:=cH27) (cA:=cA28) (cB:=cB29) (M:=(pt b23 (.cells #[sB pH14 k.head cH17,sB pA15 k.a cA18,sB pB16 k.b cB19,Ix (k.power),.int .i64 (0),.int .i64 (0),.slice none 0 0,.slice none 0 0,.int .i64 (0),.bool false] 56)::pt b22 (.cells #[.int .i64 (0),.int .i64 (0),.slice none 0 0,.slice none 0 0,.int .i64 (0)] 54)::pt b21 (.cells #[.int .i64 (0),.int .i64 (0),.slice none 0 0,.slice none 0 0,.int .i64 (0)] 36)::pt b20 (.cells #[sB pH14 k.head cH17,sB pA15 k.a cA18,sB pB16 k.b cB19,Ix (k.power)] 32)::rB pH14 k.head cH17::rB pA15 k.a cA18::rB pB16 k.b cB19::pt b1 (.cells #[.slice none 0 0,.slice none 0 0,.slice none 0 0,.int .i64 (0),.int .i64 (0),.int .i64 (0),.slice none 0 0,.slice none 0 0,.int .i64 (0),.bool false] 56)::[])) rfl ?_
 refine eG [5,6,7,0,1,2,3,4,8] 9 rfl (by kernel_rfl) ?_
 refine kJ (K:=[rB pH14 k.head cH17,rB pA15 k.a cA18,rB pB16 k.b cB19]) (F:=iT (sB pH14 k.head cH17) (sB pA15 k.a cA18) (sB pB16 k.b cB19) (.slice none 0 0) (.slice none 0 0) k zI) rfl (fun _ h=>wW h) ?_
 refine rF [sv 76 (.pointer none) [] [] [0],sv 77 (.agg #[sB pH14 k.head cH17,sB pA15 k.a cA18,sB pB16 k.b cB19,Ix (k.power),.int .i64 (0),.int .i64 (0),.slice none 0 0,.slice none 0 0,.int .i64 (0),.bool false]) [] [] [1],sv 78 (.pointer none) [] [] [0],sv 79 (.bool true) [2] [2] [],sv 80 (.bool true) [2,3] [3] [],sv 81 undef [2,3,4] [4] [0],sv 82 undef [2,3,4] [4] [1],sv 83 undef [2,3,4,6] [6,4] [],sv 84 undef [2,3,4,5,6,7] [5,7,4] [],sv 85 (.bool true) [2,3,4,5,6,7,8] [4,8] [],sv 2 (.pointer none) [0,2,3,4,5,6,7,8] [0] [],⟨[0,1,2,3,4,5,6,7,8,10],[1],[2],[],fun _=>True⟩,sv 4 (.bool true) (List.range 12) [9] []] [u0,u0,u1 [1],u0,u0,u0,(some 11,[11])] [⟨(some 11),none,[],[],fun _=>pt b1 (.cells #[sB pH14 k.head cH17,sB pA15 k.a cA18,sB pB16 k.b cB19,Ix (k.power),.int .i64 (0),.int .i64 (0),.slice none 0 0,.slice none 0 0,.int .i64 (0),.bool false] 56)⟩] [(10,.pointer none),(11,pp b23 0),(3,pp b1 0)] [2] ⟨rfl,rfl,rfl,trivial⟩ ⟨?_,?_,?_,?_,?_,?_,?_,?_,?_,?_,?_,?_,?_,trivial⟩ ?_
 ·rintro f M-⟨i0,-⟩
  exact bK eP
 ·rintro f M-⟨i0,-⟩
  exact bK (dO 0)
 ·rintro f M-⟨i0,-⟩
  exact bK eP
 ·rintro f M ⟨k0,-⟩-
  exact nA (aA (d:=78) rfl k0) rfl (eL (p:=none) rfl rfl rX) (.refl _)
 ·rintro f M ⟨k0,-⟩-
  exact bK dQ
 ·rintro f M ⟨k0,-⟩ ⟨i0,-⟩
  refine fF (aA (d:=80) (aA (d:=10) rfl i0) k0) ?_
  refine iU ?_
  refine aG ?_
  exact aI (aA (d:=80) (aA (d:=10) rfl i0) k0) rfl (List.Perm.refl _)
 ·rintro f M ⟨k0,-⟩ ⟨i0,-⟩
  refine fF (aA (d:=80) (aA (d:=11) rfl i0) k0) ?_
  refine iU ?_
  refine aG ?_
  exact aI (aA (d:=80) (aA (d:=11) rfl i0) k0) rfl (List.Perm.refl _)
 ·rintro f M ⟨k0,k1,-⟩-
  refine fF (aA (d:=80) (aA (d:=82) rfl k0) k1) ?_
  refine iU ?_
  refine aG ?_
  exact aI (aA (d:=80) (aA (d:=82) rfl k0) k1) rfl (List.Perm.refl _)
 ·rintro f M ⟨k0,k1,k2,-⟩-
  refine fF (aA (d:=80) (aA (d:=83) (aA (d:=81) rfl k0) k1) k2) ?_
  refine iU ?_
  refine aG ?_
  exact aI (aA (d:=80) (aA (d:=83) (aA (d:=81) rfl k0) k1) k2) rfl (List.Perm.refl _)
 ·rintro f M ⟨k0,k1,-⟩-
  exact bK dY
 ·rintro f M ⟨k0,-⟩-
  exact bK nV
 ·rintro f M ⟨k0,-⟩ ⟨i0,-⟩
  refine fF (aA (d:=77) (aA (d:=3) rfl i0) k0) ?_
  refine lu (mS 0 (#[sB pH14 k.head cH17,sB pA15 k.a cA18,sB pB16 k.b cB19,Ix (k.power),.int .i64 (0),.int .i64 (0),.slice none 0 0,.slice none 0 0,.int .i64 (0),.bool false])) ?_
  refine aG ?_
  exact cT (aA (d:=77) (aA (d:=3) rfl i0) k0) trivial (aB 0 rfl)
 ·rintro f M ⟨k0,-⟩-
  exact bK eE
 rintro fa36 ⟨-,-,-,-,-,-,-,-,-,-,k10,-,k12,-⟩ ⟨j0,-⟩
 refine rL ?_
 refine aJ (d:=2) k10 ?_
 refine aJ (d:=3) j0 ?_
 refine aJ (d:=4) k12 ?_
 refine ftr ?_
 refine fH (m:=[.pointer none,.agg #[sB pH14 k.head cH17,sB pA15 k.a cA18,sB pB16 k.b cB19,Ix (k.power),.int .i64 (0),.int .i64 (0),.slice none 0 0,.slice none 0 0,.int .i64 (0),.bool false],.bool true]) Try.results22 ⟨cN (v:= .pointer none) rfl,bY jK.ok rfl (dM 6 rfl rfl) rfl,cN (v:= .bool true) rfl,trivial⟩ rfl ?_
 intro w hw
 have hw2:=aF [true,true,false,false,false,false,false] rfl (hw.perm (L':=[aS S k,iT (sB pH14 k.head cH17) (sB pA15 k.a cA18) (sB pB16 k.b cB19) (.slice none 0 0) (.slice none 0 0) k zI,pt b23 (.cells #[sB pH14 k.head cH17,sB pA15 k.a cA18,sB pB16 k.b cB19,Ix (k.power),.int .i64 (0),.int .i64 (0),.slice none 0 0,.slice none 0 0,.int .i64 (0),.bool false] 56),pt b22 (.cells #[.int .i64 (0),.int .i64 (0),.slice none 0 0,.slice none 0 0,.int .i64 (0)] 54),pt b21 (.cells #[.int .i64 (0),.int .i64 (0),.slice none 0 0,.slice none 0 0,.int .i64 (0)] 36),pt b20 (.cells #[sB pH14 k.head cH17,sB pA15 k.a cA18,sB pB16 k.b cB19,Ix (k.power)] 32),pt b1 (.cells #[sB pH14 k.head cH17,sB pA15 k.a cA18,sB pB16 k.b cB19,Ix (k.power),.int .i64 (0),.int .i64 (0),.slice none 0 0,.slice none 0 0,.int .i64 (0),.bool false] 56)]) (by exact(bN [1,0,2,3,4,5,6] 7 rfl (by kernel_rfl) (by kernel_rfl))))
 exact⟨_,_,_,_,_,_,rfl,hw2⟩
theorem yV(β:Base)(w:World)(S:Nat)(k:KS)(hl1:k.head.length≤1048576)(hl2:k.a.length≤1048576)(hl3:k.b.length≤1048576)(hok:k.okP)(hri:eW k=none)(hw:St β [aS S k] w):Calls Try.prog 22 #[pp S 0] w fun r w'=>∃pH pA pB cH cA cB,r= .returned (.tuple #[.pointer none,.agg #[sB pH k.head cH,sB pA k.a cA,sB pB k.b cB,Ix k.power,.int .i64 0,.int .i64 0,.slice none 0 0,.slice none 0 0,.int .i64 0,.bool false],.bool true])∧St β [aS S k,iT (sB pH k.head cH) (sB pA k.a cA) (sB pB k.b cB) (.slice none 0 0) (.slice none 0 0) k zI] w':=by
 refine enter (n:=86) Try.func22 rfl Try.ntmps22 rfl ?_ hw
 refine cC ?_
 refine lE nV ?_
 refine fZ fun b1=> ?_
 refine lE eE ?_
 refine aW ?_
 refine aO ?_
 refine eG [1,0] 2 rfl (by kernel_rfl) ?_
 refine cI rfl (fun pH2 pA3 pB4 cH5 cA6 cB7=> ?_)
 refine bA 1 rfl (fun hcl8 hcm9=> ?_)
 refine bA 2 rfl (fun hcl10 hcm11=> ?_)
 refine bA 3 rfl (fun hcl12 hcm13=> ?_)
 refine aC ?_
 refine lE eP ?_
 refine lE eY ?_
 refine lE (dO 0) ?_
 refine jH (cY (vs:=[.agg #[sB pH2 k.head cH5,sB pA3 k.a cA6,sB pB4 k.b cB7,Ix (k.power)]]) qW.ok rfl rfl) rfl fun w β1 sb kn hw1 back=>(lB β1 w hw1 k _ _ _ (kU kn 1 rfl) (kU kn 2 rfl) (kU kn 3 rfl) (by omega) (by omega) (by omega)).mono ?_
 rintro e w' ⟨pH14,pA15,pB16,cH17,cA18,cB19,rfl,hw'⟩
 refine⟨_,rfl,_,back _ _ hw',?_⟩
 refine fZ fun b20=> ?_
 refine lu (mS 0 (#[sB pH14 k.head cH17,sB pA15 k.a cA18,sB pB16 k.b cB19,Ix (k.power)])) ?_
 refine eJ ?_
 refine lE eP ?_
 refine lE eY ?_
 refine lE (dO 4) ?_
 refine gW gU (fun w β1 sb kn hw1=>uE β1 w hw1 k _ _ _ (kU kn 5 rfl) (kU kn 6 rfl) (kU kn 7 rfl) hok hri) ?_
 refine lE iK ?_
 refine lE mV ?_
 refine lE kK ?_
 refine fZ fun b21=> ?_
 refine lu (mS 0 (#[.int .i64 (0),.int .i64 (0),.slice none 0 0,.slice none 0 0,.int .i64 (0)])) ?_
 refine lE bV ?_
 refine eJ ?_
 refine lE (dO 1) ?_
 refine gW gU (fun w β1 sb kn hw1=>uJ β1 w hw1 k _ _ _ (kU kn 2 rfl) (kU kn 3 rfl) (kU kn 4 rfl) hok hri) ?_
 refine lE iK ?_
 refine lE mV ?_
 refine lE kK ?_
 refine fZ fun b22=> ?_
 refine lu (mS 0 (#[.int .i64 (0),.int .i64 (0),.slice none 0 0,.slice none 0 0,.int .i64 (0)])) ?_
 refine lE bV ?_
 refine aW ?_
 refine dX ?_
 refine eF (by kernel_rfl) (by kernel_rfl) ?_
 iterate 2 refine qE bG ?_
 refine qE gO ?_
 refine qE dQ ?_
 refine rE (dO 1) ?_
 refine rE (dO 0) ?_
 refine iJ (v:= .bool true) rfl rfl rfl rfl rfl (cY (vs:=[.agg #[.int .i64 (0),.int .i64 (0),.slice none 0 0,.slice none 0 0,.int .i64 (0)],.agg #[.int .i64 (0),.int .i64 (0),.slice none 0 0,.slice none 0 0,.int .i64 (0)]]) aBp.ok rfl rfl) (fun w hw=> ?_) ?_
 ·obtain⟨β1,sb,kn,hw1,back⟩:=St.frame_all hw
  exact(oB β1 w hw1 zI _ _ _ _ (by decide) (Sl.nil bE _) (Sl.nil rA _) (Sl.nil bE _) (Sl.nil rA _)).mono (fun e w' ⟨he,hw'⟩=>⟨he,aF [true,true,true,true,true,true,true,true,true,true,true] rfl (back _ _ hw')⟩)
 refine rE lI ?_
 refine qE cR ?_
 refine qE dQ ?_
 refine rE eP ?_
 refine rE eY ?_
 refine rE (dO 6) ?_
 refine rE (dO 2) ?_
 refine iJ (v:= .bool true) rfl rfl rfl rfl rfl (cY (vs:=[.agg #[sB pH2 k.head cH5,sB pA3 k.a cA6,sB pB4 k.b cB7,Ix (k.power)],.agg #[sB pH14 k.head cH17,sB pA15 k.a cA18,sB pB16 k.b cB19,Ix (k.power)]]) qX.ok rfl rfl) (fun w hw=> ?_) ?_
 ·obtain⟨β1,sb,kn,hw1,back⟩:=St.frame_all hw
  exact(jE β1 w hw1 k _ _ _ (kU kn 7 rfl) (kU kn 8 rfl) (kU kn 9 rfl) _ _ _ (kU kn 3 rfl) (kU kn 4 rfl) (kU kn 5 rfl)).mono (fun e w' ⟨he,hw'⟩=>⟨he,aF [true,true,true,true,true,true,true,true,true,true,true] rfl (back _ _ hw')⟩)
 refine rE lI ?_
 refine qE cR ?_
 refine fW ?_
 refine aQ ?_
 refine dI rfl ?_
 refine eT ?_
 refine aO ?_
 refine eG [6,7,8,9,0,1,2,3,4,5,10] 11 rfl (by kernel_rfl) ?_
 refine bW (S:=S) (k:=k) (pH:=pH2) (pA:=pA3) (pB:=pB4) (cH:=cH5) (cA:=cA6) (cB:=cB7) (M:=(pt b22 (.cells #[.int .i64 (0),.int .i64 (0),.slice none 0 0,.slice none 0 0,.int .i64 (0)] 54)::pt b21 (.cells #[.int .i64 (0),.int .i64 (0),.slice none 0 0,.slice none 0 0,.int .i64 (0)] 36)::pt b20 (.cells #[sB pH14 k.head cH17,sB pA15 k.a cA18,sB pB16 k.b cB19,Ix (k.power)] 32)::rB pH14 k.head cH17::rB pA15 k.a cA18::rB pB16 k.b cB19::pt b1 (.cells #[.slice none 0 0,.slice none 0 0,.slice none 0 0,.int .i64 (0),.int .i64 (0),.int .i64 (0),.slice none 0 0,.slice none 0 0,.int .i64 (0),.bool false] 56)::[])) rfl ?_
 refine aC ?_
 refine lE eP ?_
 refine bP rfl rfl rfl (cY (vs:=[pp S 0]) pM.ok rfl rfl) ?_
 intro w hw
 obtain⟨β1,sb,kn,hw1,back⟩:=St.frame (L:=[_]) (M:=_::_::_::_::_::_::_::[]) hw
 refine(aCo β1 w S k hok hri hw1).mono ?_
 rintro e w' ⟨rfl,hw'⟩
 refine⟨_,rfl,_,back _ _ hw',?_⟩
 refine lE iK ?_
 refine lE zU ?_
 refine lE kK ?_
 refine lE nV ?_
 refine lE bV ?_
 refine eJ ?_
 refine lE (dO 3) ?_
 refine gW gU (fun w β1 sb kn hw1=>aAk β1 w hw1 k _ _ _ (kU kn 4 rfl) (kU kn 5 rfl) (kU kn 6 rfl) hok hri) ?_
 refine lE iK ?_
 refine lE mV ?_
 refine lE kK ?_
 refine fZ fun b23=> ?_
 refine lu (mS 0 (#[sB pH14 k.head cH17,sB pA15 k.a cA18,sB pB16 k.b cB19,Ix (k.power),.int .i64 (0),.int .i64 (0),.slice none 0 0,.slice none 0 0,.int .i64 (0),.bool false])) ?_
 refine lE bV ?_
 refine aW ?_
 refine dX ?_
 refine eG [1,0,2,3,4,5,6,7,8] 9 rfl (by kernel_rfl) ?_
 refine cI rfl (fun pH24 pA25 pB26 cH27 cA28 cB29=> ?_)
 refine bA 1 rfl (fun hcl30 hcm31=> ?_)
 refine bA 2 rfl (fun hcl32 hcm33=> ?_)
 refine bA 3 rfl (fun hcl34 hcm35=> ?_)
 refine eF (by kernel_rfl) (by kernel_rfl) ?_
 iterate 2 refine qE bG ?_
 refine qE gO ?_
 refine qE dQ ?_
 refine rE eP ?_
 refine jB (v:= .bool true) rfl rfl rfl rfl rfl (eL (p:=none) rfl rfl rX) ?_
 refine rE bG ?_
 refine rE gO ?_
 refine jB (v:= .bool false) rfl rfl rfl rfl rfl (mT (a:=true) (b:=true) rfl rfl uS) ?_
 refine qE cR ?_
 refine qE dQ ?_
 refine rE eP ?_
 refine rE eY ?_
 refine rE (dO 0) ?_
 refine rE bM ?_
 refine rE (dO 4) ?_
 refine iJ (v:= .bool true) rfl rfl rfl rfl rfl (cY (vs:=[.agg #[sB pH24 k.head cH27,sB pA25 k.a cA28,sB pB26 k.b cB29,Ix (k.power)],.agg #[sB pH14 k.head cH17,sB pA15 k.a cA18,sB pB16 k.b cB19,Ix (k.power)]]) qX.ok rfl rfl) (fun w hw=> ?_) ?_
 ·obtain⟨β1,sb,kn,hw1,back⟩:=St.frame_all hw
  exact(jE β1 w hw1 k _ _ _ (kU kn 1 rfl) (kU kn 2 rfl) (kU kn 3 rfl) _ _ _ (kU kn 8 rfl) (kU kn 9 rfl) (kU kn 10 rfl)).mono (fun e w' ⟨he,hw'⟩=>⟨he,aF [true,true,true,true,true,true,true,true,true,true,true,true] rfl (back _ _ hw')⟩)
 refine rE lI ?_
 refine qE cR ?_
 refine fW ?_
 refine aQ ?_
 refine dI rfl ?_
 refine eT ?_
 refine aO ?_
 refine eG [0,1,2,3,4,5,6,7,8,9,10,11] 12 rfl (by kernel_rfl) ?_
 refine bW (S:=S) (k:=k) (pH:=pH24) (pA:=pA25) (pB:=pB26) (cH:=cH27) (cA:=cA28) (cB:=cB29) (M:=(pt b23 (.cells #[sB pH14 k.head cH17,sB pA15 k.a cA18,sB pB16 k.b cB19,Ix (k.power),.int .i64 (0),.int .i64 (0),.slice none 0 0,.slice none 0 0,.int .i64 (0),.bool false] 56)::pt b22 (.cells #[.int .i64 (0),.int .i64 (0),.slice none 0 0,.slice none 0 0,.int .i64 (0)] 54)::pt b21 (.cells #[.int .i64 (0),.int .i64 (0),.slice none 0 0,.slice none 0 0,.int .i64 (0)] 36)::pt b20 (.cells #[sB pH14 k.head cH17,sB pA15 k.a cA18,sB pB16 k.b cB19,Ix (k.power)] 32)::rB pH14 k.head cH17::rB pA15 k.a cA18::rB pB16 k.b cB19::pt b1 (.cells #[.slice none 0 0,.slice none 0 0,.slice none 0 0,.int .i64 (0),.int .i64 (0),.int .i64 (0),.slice none 0 0,.slice none 0 0,.int .i64 (0),.bool false] 56)::[])) rfl ?_
 refine eG [5,6,7,0,1,2,3,4,8] 9 rfl (by kernel_rfl) ?_
 refine kJ (K:=[rB pH14 k.head cH17,rB pA15 k.a cA18,rB pB16 k.b cB19]) (F:=iT (sB pH14 k.head cH17) (sB pA15 k.a cA18) (sB pB16 k.b cB19) (.slice none 0 0) (.slice none 0 0) k zI) rfl (fun _ h=>wW h) ?_
 refine rF [sv 76 (.pointer none) [] [] [0],sv 77 (.agg #[sB pH14 k.head cH17,sB pA15 k.a cA18,sB pB16 k.b cB19,Ix (k.power),.int .i64 (0),.int .i64 (0),.slice none 0 0,.slice none 0 0,.int .i64 (0),.bool false]) [] [] [1],sv 78 (.pointer none) [] [] [0],sv 79 (.bool true) [2] [2] [],sv 80 (.bool true) [2,3] [3] [],sv 81 undef [2,3,4] [4] [0],sv 82 undef [2,3,4] [4] [1],sv 83 undef [2,3,4,6] [6,4] [],sv 84 undef [2,3,4,5,6,7] [5,7,4] [],sv 85 (.bool true) [2,3,4,5,6,7,8] [4,8] [],sv 2 (.pointer none) [0,2,3,4,5,6,7,8] [0] [],⟨[0,1,2,3,4,5,6,7,8,10],[1],[2],[],fun _=>True⟩,sv 4 (.bool true) (List.range 12) [9] []] [u0,u0,u1 [1],u0,u0,u0,(some 11,[11])] [⟨(some 11),none,[],[],fun _=>pt b1 (.cells #[sB pH14 k.head cH17,sB pA15 k.a cA18,sB pB16 k.b cB19,Ix (k.power),.int .i64 (0),.int .i64 (0),.slice none 0 0,.slice none 0 0,.int .i64 (0),.bool false] 56)⟩] [(10,.pointer none),(11,pp b23 0),(3,pp b1 0)] [2] ⟨rfl,rfl,rfl,trivial⟩ ⟨?_,?_,?_,?_,?_,?_,?_,?_,?_,?_,?_,?_,?_,trivial⟩ ?_
 ·rintro f M-⟨i0,-⟩
  exact bK eP
 ·rintro f M-⟨i0,-⟩
  exact bK (dO 0)
 ·rintro f M-⟨i0,-⟩
  exact bK eP
 ·rintro f M ⟨k0,-⟩-
  exact nA (aA (d:=78) rfl k0) rfl (eL (p:=none) rfl rfl rX) (.refl _)
 ·rintro f M ⟨k0,-⟩-
  exact bK dQ
 ·rintro f M ⟨k0,-⟩ ⟨i0,-⟩
  refine fF (aA (d:=80) (aA (d:=10) rfl i0) k0) ?_
  refine iU ?_
  refine aG ?_
  exact aI (aA (d:=80) (aA (d:=10) rfl i0) k0) rfl (List.Perm.refl _)
 ·rintro f M ⟨k0,-⟩ ⟨i0,-⟩
  refine fF (aA (d:=80) (aA (d:=11) rfl i0) k0) ?_
  refine iU ?_
  refine aG ?_
  exact aI (aA (d:=80) (aA (d:=11) rfl i0) k0) rfl (List.Perm.refl _)
 ·rintro f M ⟨k0,k1,-⟩-
  refine fF (aA (d:=80) (aA (d:=82) rfl k0) k1) ?_
  refine iU ?_
  refine aG ?_
  exact aI (aA (d:=80) (aA (d:=82) rfl k0) k1) rfl (List.Perm.refl _)
 ·rintro f M ⟨k0,k1,k2,-⟩-
  refine fF (aA (d:=80) (aA (d:=83) (aA (d:=81) rfl k0) k1) k2) ?_
  refine iU ?_
  refine aG ?_
  exact aI (aA (d:=80) (aA (d:=83) (aA (d:=81) rfl k0) k1) k2) rfl (List.Perm.refl _)
 ·rintro f M ⟨k0,k1,-⟩-
  exact bK dY
 ·rintro f M ⟨k0,-⟩-
  exact bK nV
 ·rintro f M ⟨k0,-⟩ ⟨i0,-⟩
  refine fF (aA (d:=77) (aA (d:=3) rfl i0) k0) ?_
  refine lu (mS 0 (#[sB pH14 k.head cH17,sB pA15 k.a cA18,sB pB16 k.b cB19,Ix (k.power),.int .i64 (0),.int .i64 (0),.slice none 0 0,.slice none 0 0,.int .i64 (0),.bool false])) ?_
  refine aG ?_
  exact cT (aA (d:=77) (aA (d:=3) rfl i0) k0) trivial (aB 0 rfl)
 ·rintro f M ⟨k0,-⟩-
  exact bK eE
 rintro fa36 ⟨-,-,-,-,-,-,-,-,-,-,k10,-,k12,-⟩ ⟨j0,-⟩
 refine rL ?_
 refine aJ (d:=2) k10 ?_
 refine aJ (d:=3) j0 ?_
 refine aJ (d:=4) k12 ?_
 refine ftr ?_
 refine fH (m:=[.pointer none,.agg #[sB pH14 k.head cH17,sB pA15 k.a cA18,sB pB16 k.b cB19,Ix (k.power),.int .i64 (0),.int .i64 (0),.slice none 0 0,.slice none 0 0,.int .i64 (0),.bool false],.bool true]) Try.results22 ⟨cN (v:= .pointer none) rfl,bY jK.ok rfl (dM 6 rfl rfl) rfl,cN (v:= .bool true) rfl,trivial⟩ rfl ?_
 intro w hw
 have hw2:=aF [true,true,false,false,false,false,false] rfl (hw.perm (L':=[aS S k,iT (sB pH14 k.head cH17) (sB pA15 k.a cA18) (sB pB16 k.b cB19) (.slice none 0 0) (.slice none 0 0) k zI,pt b23 (.cells #[sB pH14 k.head cH17,sB pA15 k.a cA18,sB pB16 k.b cB19,Ix (k.power),.int .i64 (0),.int .i64 (0),.slice none 0 0,.slice none 0 0,.int .i64 (0),.bool false] 56),pt b22 (.cells #[.int .i64 (0),.int .i64 (0),.slice none 0 0,.slice none 0 0,.int .i64 (0)] 54),pt b21 (.cells #[.int .i64 (0),.int .i64 (0),.slice none 0 0,.slice none 0 0,.int .i64 (0)] 36),pt b20 (.cells #[sB pH14 k.head cH17,sB pA15 k.a cA18,sB pB16 k.b cB19,Ix (k.power)] 32),pt b1 (.cells #[sB pH14 k.head cH17,sB pA15 k.a cA18,sB pB16 k.b cB19,Ix (k.power),.int .i64 (0),.int .i64 (0),.slice none 0 0,.slice none 0 0,.int .i64 (0),.bool false] 56)]) (by exact(bN [1,0,2,3,4,5,6] 7 rfl (by kernel_rfl) (by kernel_rfl))))
 exact⟨_,_,_,_,_,_,rfl,hw2⟩
theorem aAf(β:Base)(w:World)(S:Nat)(k:KS)(hl1:k.head.length≤1048576)(hl2:k.a.length≤1048576)(hl3:k.b.length≤1048576)(hok:k.okP)(hpw:k.power≤9223372036854775807)(i:KI)(hri:eW k=some i)(hcut:¬cutOk (k.area i.epoch) k.power i.size)(hw:St β [aS S k] w):Calls Try.prog 22 #[pp S 0] w fun r w'=>∃pH pA pB cH cA cB,r= .returned (.tuple #[.pointer none,.agg #[sB pH k.head cH,sB pA k.a cA,sB pB k.b cB,Ix k.power,.int .i64 0,.int .i64 0,.slice none 0 0,.slice none 0 0,.int .i64 0,.bool false],.bool true])∧St β [aS S k,iT (sB pH k.head cH) (sB pA k.a cA) (sB pB k.b cB) (.slice none 0 0) (.slice none 0 0) k zI] w':=by
 refine enter (n:=86) Try.func22 rfl Try.ntmps22 rfl ?_ hw
 refine cC ?_
 refine lE nV ?_
 refine fZ fun b1=> ?_
 refine lE eE ?_
 refine aW ?_
 refine aO ?_
 have hrb:=aAi hri
 have hl:(k.area i.epoch).length≤1048576:=by unfold KS.area;split<;>omega
 have hlen:=hrb.len
 have hn:i.recs.length≤1048576:=by omega
 have hb:i.state.length≤1048576:=by have:=hrb.state;omega
 have hbs:∀b∈i.recs,b.length≤1048576:=fun b hb=>by have:=hrb.recs b hb;omega
 refine eG [1,0] 2 rfl (by kernel_rfl) ?_
 refine cI rfl (fun pH2 pA3 pB4 cH5 cA6 cB7=> ?_)
 refine bA 1 rfl (fun hcl8 hcm9=> ?_)
 refine bA 2 rfl (fun hcl10 hcm11=> ?_)
 refine bA 3 rfl (fun hcl12 hcm13=> ?_)
 refine aC ?_
 refine lE eP ?_
 refine lE eY ?_
 refine lE (dO 0) ?_
 refine jH (cY (vs:=[.agg #[sB pH2 k.head cH5,sB pA3 k.a cA6,sB pB4 k.b cB7,Ix (k.power)]]) qW.ok rfl rfl) rfl fun w β1 sb kn hw1 back=>(lB β1 w hw1 k _ _ _ (kU kn 1 rfl) (kU kn 2 rfl) (kU kn 3 rfl) (by omega) (by omega) (by omega)).mono ?_
 rintro e w' ⟨pH14,pA15,pB16,cH17,cA18,cB19,rfl,hw'⟩
 refine⟨_,rfl,_,back _ _ hw',?_⟩
 refine fZ fun b20=> ?_
 refine lu (mS 0 (#[sB pH14 k.head cH17,sB pA15 k.a cA18,sB pB16 k.b cB19,Ix (k.power)])) ?_
 refine eJ ?_
 refine lE eP ?_
 refine lE eY ?_
 refine lE (dO 4) ?_
 refine jH (cY (vs:=[.agg #[sB pH2 k.head cH5,sB pA3 k.a cA6,sB pB4 k.b cB7,Ix (k.power)]]) aIm.ok rfl rfl) rfl fun w β1 sb kn hw1 back=>(qM β1 w hw1 k _ _ _ (kU kn 5 rfl) (kU kn 6 rfl) (kU kn 7 rfl) hok i hri).mono ?_
 rintro e w' ⟨ps21,pr22,cs23,cr24,rfl,hw'⟩
 refine⟨_,rfl,_,back _ _ hw',?_⟩
 refine lE iK ?_
 refine lE mV ?_
 refine lE kK ?_
 refine fZ fun b25=> ?_
 refine lu (mS 0 (#[Nx (i.epoch),Nx (i.next),sB ps21 i.state cs23,sB pr22 i.recs cr24,Nx (i.size)])) ?_
 refine lE bV ?_
 refine eJ ?_
 refine lE (dO 3) ?_
 refine jH (cY (vs:=[.agg #[sB pH14 k.head cH17,sB pA15 k.a cA18,sB pB16 k.b cB19,Ix (k.power)]]) aGb.ok rfl rfl) rfl fun w β1 sb kn hw1 back=>(pW β1 w hw1 k _ _ _ (kU kn 4 rfl) (kU kn 5 rfl) (kU kn 6 rfl) hok i hri).mono ?_
 rintro e w' ⟨ps26,cs27,pr28,cr29,us30,rfl,hx31,hw'⟩
 refine⟨_,rfl,_,back _ _ hw',?_⟩
 refine lE iK ?_
 refine lE mV ?_
 refine lE kK ?_
 refine fZ fun b32=> ?_
 refine lu (mS 0 (#[Nx (i.epoch),Nx (i.next),sB ps26 i.state cs27,sB pr28 i.recs cr29,Nx (i.size)])) ?_
 refine lE bV ?_
 refine aW ?_
 refine dX ?_
 refine eF (by kernel_rfl) (by kernel_rfl) ?_
 iterate 2 refine qE bG ?_
 refine qE gO ?_
 refine qE dQ ?_
 refine rE (dO 2) ?_
 refine rE (dO 0) ?_
 refine iJ (v:= .bool true) rfl rfl rfl rfl rfl (cY (vs:=[.agg #[Nx (i.epoch),Nx (i.next),sB ps21 i.state cs23,sB pr22 i.recs cr24,Nx (i.size)],.agg #[Nx (i.epoch),Nx (i.next),sB ps26 i.state cs27,sB pr28 i.recs cr29,Nx (i.size)]]) aBp.ok rfl rfl) (fun w hw=> ?_) ?_
 ·obtain⟨β1,sb,kn,hw1,back⟩:=St.frame_all hw
  exact(oB β1 w hw1 i _ _ _ _ hn (kU kn 3 rfl) (kn _ (aX.of_res 4 rfl (Sl.mono rA _ _) fun _ h=>tJ h)) (hx31 _ (kU kn 7 rfl) (kU kn 8 rfl)).1 (tK (kn _ (aX.of_res 1 rfl zG fun a h=>⟨a,gR.refl _,h⟩)) (hx31 _ (kU kn 7 rfl) (kU kn 8 rfl)).2)).mono (fun e w' ⟨he,hw'⟩=>⟨he,aF [true,true,true,true,true,true,true,true,true,true,true,true,true,true] rfl (back _ _ hw')⟩)
 refine rE lI ?_
 refine qE cR ?_
 refine qE dQ ?_
 refine rE eP ?_
 refine rE eY ?_
 refine rE (dO 9) ?_
 refine rE (dO 5) ?_
 refine iJ (v:= .bool true) rfl rfl rfl rfl rfl (cY (vs:=[.agg #[sB pH2 k.head cH5,sB pA3 k.a cA6,sB pB4 k.b cB7,Ix (k.power)],.agg #[sB pH14 k.head cH17,sB pA15 k.a cA18,sB pB16 k.b cB19,Ix (k.power)]]) qX.ok rfl rfl) (fun w hw=> ?_) ?_
 ·obtain⟨β1,sb,kn,hw1,back⟩:=St.frame_all hw
  exact(jE β1 w hw1 k _ _ _ (kU kn 10 rfl) (kU kn 11 rfl) (kU kn 12 rfl) _ _ _ (kU kn 6 rfl) (kU kn 7 rfl) (kU kn 8 rfl)).mono (fun e w' ⟨he,hw'⟩=>⟨he,aF [true,true,true,true,true,true,true,true,true,true,true,true,true,true] rfl (back _ _ hw')⟩)
 refine rE lI ?_
 refine qE cR ?_
 refine fW ?_
 refine aQ ?_
 refine dI rfl ?_
 refine eT ?_
 refine aO ?_
 refine eG [9,10,11,12,0,1,2,3,4,5,6,7,8,13] 14 rfl (by kernel_rfl) ?_
 refine bW (S:=S) (k:=k) (pH:=pH2) (pA:=pA3) (pB:=pB4) (cH:=cH5) (cA:=cA6) (cB:=cB7) (M:=(pt b32 (.cells #[Nx (i.epoch),Nx (i.next),sB ps26 i.state cs27,sB pr28 i.recs cr29,Nx (i.size)] 54)::row (sB pr28 i.recs cr29) 30 1 (i.recs.length) (us30)::pt b25 (.cells #[Nx (i.epoch),Nx (i.next),sB ps21 i.state cs23,sB pr22 i.recs cr24,Nx (i.size)] 36)::rB ps21 i.state cs23::dP 30 pr22 cr24 i.recs::pt b20 (.cells #[sB pH14 k.head cH17,sB pA15 k.a cA18,sB pB16 k.b cB19,Ix (k.power)] 32)::rB pH14 k.head cH17::rB pA15 k.a cA18::rB pB16 k.b cB19::pt b1 (.cells #[.slice none 0 0,.slice none 0 0,.slice none 0 0,.int .i64 (0),.int .i64 (0),.int .i64 (0),.slice none 0 0,.slice none 0 0,.int .i64 (0),.bool false] 56)::[])) rfl ?_
 refine aC ?_
 refine lE eP ?_
 refine bP rfl rfl rfl (cY (vs:=[pp S 0]) pM.ok rfl rfl) ?_
 intro w hw
 obtain⟨β1,sb,kn,hw1,back⟩:=St.frame (L:=[_]) (M:=_::_::_::_::_::_::_::_::_::_::[]) hw
 refine(yU β1 w S k hok hpw i hri hcut hw1).mono ?_
 rintro e w' ⟨rfl,hw'⟩
 refine⟨_,rfl,_,back _ _ hw',?_⟩
 refine lE iK ?_
 refine lE zU ?_
 refine lE kK ?_
 refine lE nV ?_
 refine lE bV ?_
 refine eJ ?_
 refine lE (dO 6) ?_
 refine jH (cY (vs:=[.agg #[sB pH14 k.head cH17,sB pA15 k.a cA18,sB pB16 k.b cB19,Ix (k.power)]]) aGe.ok rfl rfl) rfl fun w β1 sb kn hw1 back=>(aCy β1 w hw1 k _ _ _ (kU kn 7 rfl) (kU kn 8 rfl) (kU kn 9 rfl) hok hpw i hri hcut).mono ?_
 rintro e w' ⟨pH33,pA34,pB35,cH36,cA37,cB38,rfl,hw'⟩
 refine⟨_,rfl,_,back _ _ hw',?_⟩
 refine lE iK ?_
 refine lE mV ?_
 refine lE kK ?_
 refine fZ fun b39=> ?_
 refine lu (mS 0 (#[sB pH33 ((aV k i.epoch i.size).head) cH36,sB pA34 ((aV k i.epoch i.size).a) cA37,sB pB35 ((aV k i.epoch i.size).b) cB38,Ix ((aV k i.epoch i.size).power),.int .i64 (0),.int .i64 (0),.slice none 0 0,.slice none 0 0,.int .i64 (0),.bool false])) ?_
 refine lE bV ?_
 refine aW ?_
 refine dX ?_
 refine lR (L':=[pt b39 (.cells #[sB pH33 k.head cH36,sB pA34 k.a cA37,sB pB35 k.b cB38,Ix (k.power),.int .i64 (0),.int .i64 (0),.slice none 0 0,.slice none 0 0,.int .i64 (0),.bool false] 56),rB pH33 k.head cH36,rB pA34 k.a cA37,rB pB35 k.b cB38,aS S k,pt b32 (.cells #[Nx (i.epoch),Nx (i.next),sB ps26 i.state cs27,sB pr28 i.recs cr29,Nx (i.size)] 54),row (sB pr28 i.recs cr29) 30 1 (i.recs.length) (us30),pt b25 (.cells #[Nx (i.epoch),Nx (i.next),sB ps21 i.state cs23,sB pr22 i.recs cr24,Nx (i.size)] 36),rB ps21 i.state cs23,dP 30 pr22 cr24 i.recs,pt b20 (.cells #[sB pH14 k.head cH17,sB pA15 k.a cA18,sB pB16 k.b cB19,Ix (k.power)] 32),rB pH14 k.head cH17,rB pA15 k.a cA18,rB pB16 k.b cB19,pt b1 (.cells #[.slice none 0 0,.slice none 0 0,.slice none 0 0,.int .i64 (0),.int .i64 (0),.int .i64 (0),.slice none 0 0,.slice none 0 0,.int .i64 (0),.bool false] 56)]) (by show [pt b39 (.cells #[sB pH33 ((aV k i.epoch i.size).head) cH36,sB pA34 ((aV k i.epoch i.size).a) cA37,sB pB35 ((aV k i.epoch i.size).b) cB38,Ix ((aV k i.epoch i.size).power),.int .i64 (0),.int .i64 (0),.slice none 0 0,.slice none 0 0,.int .i64 (0),.bool false] 56),rB pH33 ((aV k i.epoch i.size).head) cH36,rB pA34 ((aV k i.epoch i.size).a) cA37,rB pB35 ((aV k i.epoch i.size).b) cB38,aS S k,pt b32 (.cells #[Nx (i.epoch),Nx (i.next),sB ps26 i.state cs27,sB pr28 i.recs cr29,Nx (i.size)] 54),row (sB pr28 i.recs cr29) 30 1 (i.recs.length) (us30),pt b25 (.cells #[Nx (i.epoch),Nx (i.next),sB ps21 i.state cs23,sB pr22 i.recs cr24,Nx (i.size)] 36),rB ps21 i.state cs23,dP 30 pr22 cr24 i.recs,pt b20 (.cells #[sB pH14 k.head cH17,sB pA15 k.a cA18,sB pB16 k.b cB19,Ix (k.power)] 32),rB pH14 k.head cH17,rB pA15 k.a cA18,rB pB16 k.b cB19,pt b1 (.cells #[.slice none 0 0,.slice none 0 0,.slice none 0 0,.int .i64 (0),.int .i64 (0),.int .i64 (0),.slice none 0 0,.slice none 0 0,.int .i64 (0),.bool false] 56)]=_;rw[aDy hcut]) ?_
 refine eG [4,0,1,2,3,5,6,7,8,9,10,11,12,13,14] 15 rfl (by kernel_rfl) ?_
 refine cI rfl (fun pH40 pA41 pB42 cH43 cA44 cB45=> ?_)
 refine bA 1 rfl (fun hcl46 hcm47=> ?_)
 refine bA 2 rfl (fun hcl48 hcm49=> ?_)
 refine bA 3 rfl (fun hcl50 hcm51=> ?_)
 refine eF (by kernel_rfl) (by kernel_rfl) ?_
 iterate 2 refine qE bG ?_
 refine qE gO ?_
 refine qE dQ ?_
 refine rE eP ?_
 refine jB (v:= .bool true) rfl rfl rfl rfl rfl (eL (p:=none) rfl rfl rX) ?_
 refine rE bG ?_
 refine rE gO ?_
 refine jB (v:= .bool false) rfl rfl rfl rfl rfl (mT (a:=true) (b:=true) rfl rfl uS) ?_
 refine qE cR ?_
 refine qE dQ ?_
 refine rE eP ?_
 refine rE eY ?_
 refine rE (dO 0) ?_
 refine rE bM ?_
 refine rE (dO 4) ?_
 refine iJ (v:= .bool true) rfl rfl rfl rfl rfl (cY (vs:=[.agg #[sB pH40 k.head cH43,sB pA41 k.a cA44,sB pB42 k.b cB45,Ix (k.power)],.agg #[sB pH33 k.head cH36,sB pA34 k.a cA37,sB pB35 k.b cB38,Ix (k.power)]]) qX.ok rfl rfl) (fun w hw=> ?_) ?_
 ·obtain⟨β1,sb,kn,hw1,back⟩:=St.frame_all hw
  exact(jE β1 w hw1 k _ _ _ (kU kn 1 rfl) (kU kn 2 rfl) (kU kn 3 rfl) _ _ _ (kU kn 5 rfl) (kU kn 6 rfl) (kU kn 7 rfl)).mono (fun e w' ⟨he,hw'⟩=>⟨he,aF [true,true,true,true,true,true,true,true,true,true,true,true,true,true,true,true,true,true] rfl (back _ _ hw')⟩)
 refine rE lI ?_
 refine qE cR ?_
 refine fW ?_
 refine aQ ?_
 refine dI rfl ?_
 refine eT ?_
 refine aO ?_
 refine eG [0,1,2,3,4,5,6,7,8,9,10,11,12,13,14,15,16,17] 18 rfl (by kernel_rfl) ?_
 refine bW (S:=S) (k:=k) (pH:=pH40) (pA:=pA41) (pB:=pB42) (cH:=cH43) (cA:=cA44) (cB:=cB45) (M:=(pt b39 (.cells #[sB pH33 k.head cH36,sB pA34 k.a cA37,sB pB35 k.b cB38,Ix (k.power),.int .i64 (0),.int .i64 (0),.slice none 0 0,.slice none 0 0,.int .i64 (0),.bool false] 56)::rB pH33 k.head cH36::rB pA34 k.a cA37::rB pB35 k.b cB38::pt b32 (.cells #[Nx (i.epoch),Nx (i.next),sB ps26 i.state cs27,sB pr28 i.recs cr29,Nx (i.size)] 54)::row (sB pr28 i.recs cr29) 30 1 (i.recs.length) (us30)::pt b25 (.cells #[Nx (i.epoch),Nx (i.next),sB ps21 i.state cs23,sB pr22 i.recs cr24,Nx (i.size)] 36)::rB ps21 i.state cs23::dP 30 pr22 cr24 i.recs::pt b20 (.cells #[sB pH14 k.head cH17,sB pA15 k.a cA18,sB pB16 k.b cB19,Ix (k.power)] 32)::rB pH14 k.head cH17::rB pA15 k.a cA18::rB pB16 k.b cB19::pt b1 (.cells #[.slice none 0 0,.slice none 0 0,.slice none 0 0,.int .i64 (0),.int .i64 (0),.int .i64 (0),.slice none 0 0,.slice none 0 0,.int .i64 (0),.bool false] 56)::[])) rfl ?_
 refine eG [2,3,4,0,1,5,6,7,8,9,10,11,12,13,14] 15 rfl (by kernel_rfl) ?_
 refine kJ (K:=[rB pH33 k.head cH36,rB pA34 k.a cA37,rB pB35 k.b cB38]) (F:=iT (sB pH33 k.head cH36) (sB pA34 k.a cA37) (sB pB35 k.b cB38) (.slice none 0 0) (.slice none 0 0) k zI) rfl (fun _ h=>wW h) ?_
 refine rF [sv 76 (.pointer none) [] [] [0],sv 77 (.agg #[sB pH33 k.head cH36,sB pA34 k.a cA37,sB pB35 k.b cB38,Ix (k.power),.int .i64 (0),.int .i64 (0),.slice none 0 0,.slice none 0 0,.int .i64 (0),.bool false]) [] [] [1],sv 78 (.pointer none) [] [] [0],sv 79 (.bool true) [2] [2] [],sv 80 (.bool true) [2,3] [3] [],sv 81 undef [2,3,4] [4] [0],sv 82 undef [2,3,4] [4] [1],sv 83 undef [2,3,4,6] [6,4] [],sv 84 undef [2,3,4,5,6,7] [5,7,4] [],sv 85 (.bool true) [2,3,4,5,6,7,8] [4,8] [],sv 2 (.pointer none) [0,2,3,4,5,6,7,8] [0] [],⟨[0,1,2,3,4,5,6,7,8,10],[1],[2],[],fun _=>True⟩,sv 4 (.bool true) (List.range 12) [9] []] [u0,u0,u1 [1],u0,u0,u0,u0,u0,u0,u0,u0,u0,(some 11,[11])] [⟨(some 11),none,[],[],fun _=>pt b1 (.cells #[sB pH33 k.head cH36,sB pA34 k.a cA37,sB pB35 k.b cB38,Ix (k.power),.int .i64 (0),.int .i64 (0),.slice none 0 0,.slice none 0 0,.int .i64 (0),.bool false] 56)⟩] [(10,.pointer none),(11,pp b39 0),(3,pp b1 0)] [2] ⟨rfl,rfl,rfl,trivial⟩ ⟨?_,?_,?_,?_,?_,?_,?_,?_,?_,?_,?_,?_,?_,trivial⟩ ?_
 ·rintro f M-⟨i0,-⟩
  exact bK eP
 ·rintro f M-⟨i0,-⟩
  exact bK (dO 0)
 ·rintro f M-⟨i0,-⟩
  exact bK eP
 ·rintro f M ⟨k0,-⟩-
  exact nA (aA (d:=78) rfl k0) rfl (eL (p:=none) rfl rfl rX) (.refl _)
 ·rintro f M ⟨k0,-⟩-
  exact bK dQ
 ·rintro f M ⟨k0,-⟩ ⟨i0,-⟩
  refine fF (aA (d:=80) (aA (d:=10) rfl i0) k0) ?_
  refine iU ?_
  refine aG ?_
  exact aI (aA (d:=80) (aA (d:=10) rfl i0) k0) rfl (List.Perm.refl _)
 ·rintro f M ⟨k0,-⟩ ⟨i0,-⟩
  refine fF (aA (d:=80) (aA (d:=11) rfl i0) k0) ?_
  refine iU ?_
  refine aG ?_
  exact aI (aA (d:=80) (aA (d:=11) rfl i0) k0) rfl (List.Perm.refl _)
 ·rintro f M ⟨k0,k1,-⟩-
  refine fF (aA (d:=80) (aA (d:=82) rfl k0) k1) ?_
  refine iU ?_
  refine aG ?_
  exact aI (aA (d:=80) (aA (d:=82) rfl k0) k1) rfl (List.Perm.refl _)
 ·rintro f M ⟨k0,k1,k2,-⟩-
  refine fF (aA (d:=80) (aA (d:=83) (aA (d:=81) rfl k0) k1) k2) ?_
  refine iU ?_
  refine aG ?_
  exact aI (aA (d:=80) (aA (d:=83) (aA (d:=81) rfl k0) k1) k2) rfl (List.Perm.refl _)
 ·rintro f M ⟨k0,k1,-⟩-
  exact bK dY
 ·rintro f M ⟨k0,-⟩-
  exact bK nV
 ·rintro f M ⟨k0,-⟩ ⟨i0,-⟩
  refine fF (aA (d:=77) (aA (d:=3) rfl i0) k0) ?_
  refine lu (mS 0 (#[sB pH33 k.head cH36,sB pA34 k.a cA37,sB pB35 k.b cB38,Ix (k.power),.int .i64 (0),.int .i64 (0),.slice none 0 0,.slice none 0 0,.int .i64 (0),.bool false])) ?_
  refine aG ?_
  exact cT (aA (d:=77) (aA (d:=3) rfl i0) k0) trivial (aB 0 rfl)
 ·rintro f M ⟨k0,-⟩-
  exact bK eE
 rintro fa52 ⟨-,-,-,-,-,-,-,-,-,-,k10,-,k12,-⟩ ⟨j0,-⟩
 refine rL ?_
 refine aJ (d:=2) k10 ?_
 refine aJ (d:=3) j0 ?_
 refine aJ (d:=4) k12 ?_
 refine ftr ?_
 refine fH (m:=[.pointer none,.agg #[sB pH33 k.head cH36,sB pA34 k.a cA37,sB pB35 k.b cB38,Ix (k.power),.int .i64 (0),.int .i64 (0),.slice none 0 0,.slice none 0 0,.int .i64 (0),.bool false],.bool true]) Try.results22 ⟨cN (v:= .pointer none) rfl,bY jK.ok rfl (dM 12 rfl rfl) rfl,cN (v:= .bool true) rfl,trivial⟩ rfl ?_
 intro w hw
 have hw2:=aF [true,true,false,false,false,false,false,false,false,false,false,false,false] rfl (hw.perm (L':=[aS S k,iT (sB pH33 k.head cH36) (sB pA34 k.a cA37) (sB pB35 k.b cB38) (.slice none 0 0) (.slice none 0 0) k zI,pt b39 (.cells #[sB pH33 k.head cH36,sB pA34 k.a cA37,sB pB35 k.b cB38,Ix (k.power),.int .i64 (0),.int .i64 (0),.slice none 0 0,.slice none 0 0,.int .i64 (0),.bool false] 56),pt b32 (.cells #[Nx (i.epoch),Nx (i.next),sB ps26 i.state cs27,sB pr28 i.recs cr29,Nx (i.size)] 54),row (sB pr28 i.recs cr29) 30 1 (i.recs.length) (us30),pt b25 (.cells #[Nx (i.epoch),Nx (i.next),sB ps21 i.state cs23,sB pr22 i.recs cr24,Nx (i.size)] 36),rB ps21 i.state cs23,dP 30 pr22 cr24 i.recs,pt b20 (.cells #[sB pH14 k.head cH17,sB pA15 k.a cA18,sB pB16 k.b cB19,Ix (k.power)] 32),rB pH14 k.head cH17,rB pA15 k.a cA18,rB pB16 k.b cB19,pt b1 (.cells #[sB pH33 k.head cH36,sB pA34 k.a cA37,sB pB35 k.b cB38,Ix (k.power),.int .i64 (0),.int .i64 (0),.slice none 0 0,.slice none 0 0,.int .i64 (0),.bool false] 56)]) (by exact(bN [1,0,2,3,4,5,6,7,8,9,10,11,12] 13 rfl (by kernel_rfl) (by kernel_rfl))))
 exact⟨_,_,_,_,_,_,rfl,hw2⟩
theorem rO(β:Base)(w:World)(S:Nat)(k:KS)(hl1:k.head.length≤1048576)(hl2:k.a.length≤1048576)(hl3:k.b.length≤1048576)(hok:k.okP)(hpw:k.power≤9223372036854775807)(i:KI)(hri:eW k=some i)(hcut:cutOk (k.area i.epoch) k.power i.size)(hw:St β [aS S k] w):Calls Try.prog 22 #[pp S 0] w fun r w'=>∃J pH pA pB cH cA cB ps cs pr cr,r= .returned (.tuple #[pp J 0,.agg #[sB pH ((aV k i.epoch i.size).head) cH,sB pA ((aV k i.epoch i.size).a) cA,sB pB ((aV k i.epoch i.size).b) cB,Ix (aV k i.epoch i.size).power,Nx i.epoch,Nx i.next,sB ps i.state cs,sB pr i.recs cr,Nx i.size,.bool false],.bool true])∧St β [dC J S i false,aS S (aV k i.epoch i.size),iT (sB pH (aV k i.epoch i.size).head cH) (sB pA (aV k i.epoch i.size).a cA) (sB pB (aV k i.epoch i.size).b cB) (sB ps i.state cs) (sB pr i.recs cr) (aV k i.epoch i.size) i] w':=by
 refine enter (n:=86) Try.func22 rfl Try.ntmps22 rfl ?_ hw
 refine cC ?_
 refine lE nV ?_
 refine fZ fun b1=> ?_
 refine lE eE ?_
 refine aW ?_
 refine aO ?_
 have hrb:=aAi hri
 have hl:(k.area i.epoch).length≤1048576:=by unfold KS.area;split<;>omega
 have hlen:=hrb.len
 have hn:i.recs.length≤1048576:=by omega
 have hb:i.state.length≤1048576:=by have:=hrb.state;omega
 have hbs:∀b∈i.recs,b.length≤1048576:=fun b hb=>by have:=hrb.recs b hb;omega
 refine eG [1,0] 2 rfl (by kernel_rfl) ?_
 refine cI rfl (fun pH2 pA3 pB4 cH5 cA6 cB7=> ?_)
 refine bA 1 rfl (fun hcl8 hcm9=> ?_)
 refine bA 2 rfl (fun hcl10 hcm11=> ?_)
 refine bA 3 rfl (fun hcl12 hcm13=> ?_)
 refine aC ?_
 refine lE eP ?_
 refine lE eY ?_
 refine lE (dO 0) ?_
 refine jH (cY (vs:=[.agg #[sB pH2 k.head cH5,sB pA3 k.a cA6,sB pB4 k.b cB7,Ix (k.power)]]) qW.ok rfl rfl) rfl fun w β1 sb kn hw1 back=>(lB β1 w hw1 k _ _ _ (kU kn 1 rfl) (kU kn 2 rfl) (kU kn 3 rfl) (by omega) (by omega) (by omega)).mono ?_
 rintro e w' ⟨pH14,pA15,pB16,cH17,cA18,cB19,rfl,hw'⟩
 refine⟨_,rfl,_,back _ _ hw',?_⟩
 refine fZ fun b20=> ?_
 refine lu (mS 0 (#[sB pH14 k.head cH17,sB pA15 k.a cA18,sB pB16 k.b cB19,Ix (k.power)])) ?_
 refine eJ ?_
 refine lE eP ?_
 refine lE eY ?_
 refine lE (dO 4) ?_
 refine jH (cY (vs:=[.agg #[sB pH2 k.head cH5,sB pA3 k.a cA6,sB pB4 k.b cB7,Ix (k.power)]]) aIm.ok rfl rfl) rfl fun w β1 sb kn hw1 back=>(qM β1 w hw1 k _ _ _ (kU kn 5 rfl) (kU kn 6 rfl) (kU kn 7 rfl) hok i hri).mono ?_
 rintro e w' ⟨ps21,pr22,cs23,cr24,rfl,hw'⟩
 refine⟨_,rfl,_,back _ _ hw',?_⟩
 refine lE iK ?_
 refine lE mV ?_
 refine lE kK ?_
 refine fZ fun b25=> ?_
 refine lu (mS 0 (#[Nx (i.epoch),Nx (i.next),sB ps21 i.state cs23,sB pr22 i.recs cr24,Nx (i.size)])) ?_
 refine lE bV ?_
 refine eJ ?_
 refine lE (dO 3) ?_
 refine jH (cY (vs:=[.agg #[sB pH14 k.head cH17,sB pA15 k.a cA18,sB pB16 k.b cB19,Ix (k.power)]]) aGb.ok rfl rfl) rfl fun w β1 sb kn hw1 back=>(pW β1 w hw1 k _ _ _ (kU kn 4 rfl) (kU kn 5 rfl) (kU kn 6 rfl) hok i hri).mono ?_
 rintro e w' ⟨ps26,cs27,pr28,cr29,us30,rfl,hx31,hw'⟩
 refine⟨_,rfl,_,back _ _ hw',?_⟩
 refine lE iK ?_
 refine lE mV ?_
 refine lE kK ?_
 refine fZ fun b32=> ?_
 refine lu (mS 0 (#[Nx (i.epoch),Nx (i.next),sB ps26 i.state cs27,sB pr28 i.recs cr29,Nx (i.size)])) ?_
 refine lE bV ?_
 refine aW ?_
 refine dX ?_
 refine eF (by kernel_rfl) (by kernel_rfl) ?_
 iterate 2 refine qE bG ?_
 refine qE gO ?_
 refine qE dQ ?_
 refine rE (dO 2) ?_
 refine rE (dO 0) ?_
 refine iJ (v:= .bool true) rfl rfl rfl rfl rfl (cY (vs:=[.agg #[Nx (i.epoch),Nx (i.next),sB ps21 i.state cs23,sB pr22 i.recs cr24,Nx (i.size)],.agg #[Nx (i.epoch),Nx (i.next),sB ps26 i.state cs27,sB pr28 i.recs cr29,Nx (i.size)]]) aBp.ok rfl rfl) (fun w hw=> ?_) ?_
 ·obtain⟨β1,sb,kn,hw1,back⟩:=St.frame_all hw
  exact(oB β1 w hw1 i _ _ _ _ hn (kU kn 3 rfl) (kn _ (aX.of_res 4 rfl (Sl.mono rA _ _) fun _ h=>tJ h)) (hx31 _ (kU kn 7 rfl) (kU kn 8 rfl)).1 (tK (kn _ (aX.of_res 1 rfl zG fun a h=>⟨a,gR.refl _,h⟩)) (hx31 _ (kU kn 7 rfl) (kU kn 8 rfl)).2)).mono (fun e w' ⟨he,hw'⟩=>⟨he,aF [true,true,true,true,true,true,true,true,true,true,true,true,true,true] rfl (back _ _ hw')⟩)
 refine rE lI ?_
 refine qE cR ?_
 refine qE dQ ?_
 refine rE eP ?_
 refine rE eY ?_
 refine rE (dO 9) ?_
 refine rE (dO 5) ?_
 refine iJ (v:= .bool true) rfl rfl rfl rfl rfl (cY (vs:=[.agg #[sB pH2 k.head cH5,sB pA3 k.a cA6,sB pB4 k.b cB7,Ix (k.power)],.agg #[sB pH14 k.head cH17,sB pA15 k.a cA18,sB pB16 k.b cB19,Ix (k.power)]]) qX.ok rfl rfl) (fun w hw=> ?_) ?_
 ·obtain⟨β1,sb,kn,hw1,back⟩:=St.frame_all hw
  exact(jE β1 w hw1 k _ _ _ (kU kn 10 rfl) (kU kn 11 rfl) (kU kn 12 rfl) _ _ _ (kU kn 6 rfl) (kU kn 7 rfl) (kU kn 8 rfl)).mono (fun e w' ⟨he,hw'⟩=>⟨he,aF [true,true,true,true,true,true,true,true,true,true,true,true,true,true] rfl (back _ _ hw')⟩)
 refine rE lI ?_
 refine qE cR ?_
 refine fW ?_
 refine aQ ?_
 refine dI rfl ?_
 refine eT ?_
 refine aO ?_
 refine eG [9,10,11,12,0,1,2,3,4,5,6,7,8,13] 14 rfl (by kernel_rfl) ?_
 refine bW (S:=S) (k:=k) (pH:=pH2) (pA:=pA3) (pB:=pB4) (cH:=cH5) (cA:=cA6) (cB:=cB7) (M:=(pt b32 (.cells #[Nx (i.epoch),Nx (i.next),sB ps26 i.state cs27,sB pr28 i.recs cr29,Nx (i.size)] 54)::row (sB pr28 i.recs cr29) 30 1 (i.recs.length) (us30)::pt b25 (.cells #[Nx (i.epoch),Nx (i.next),sB ps21 i.state cs23,sB pr22 i.recs cr24,Nx (i.size)] 36)::rB ps21 i.state cs23::dP 30 pr22 cr24 i.recs::pt b20 (.cells #[sB pH14 k.head cH17,sB pA15 k.a cA18,sB pB16 k.b cB19,Ix (k.power)] 32)::rB pH14 k.head cH17::rB pA15 k.a cA18::rB pB16 k.b cB19::pt b1 (.cells #[.slice none 0 0,.slice none 0 0,.slice none 0 0,.int .i64 (0),.int .i64 (0),.int .i64 (0),.slice none 0 0,.slice none 0 0,.int .i64 (0),.bool false] 56)::[])) rfl ?_
 refine aC ?_
 refine lE eP ?_
 refine bP rfl rfl rfl (cY (vs:=[pp S 0]) pM.ok rfl rfl) ?_
 intro w hw
 obtain⟨β1,sb,kn,hw1,back⟩:=St.frame (L:=[_]) (M:=_::_::_::_::_::_::_::_::_::_::[]) hw
 refine(oO β1 w S k hok hpw i hri hcut hw1).mono ?_
 rintro e w' ⟨J33,rfl,hw'⟩
 refine⟨_,rfl,_,back _ _ hw',?_⟩
 refine lE iK ?_
 refine lE zU ?_
 refine lE kK ?_
 refine lE nV ?_
 refine lE bV ?_
 refine eJ ?_
 refine lE (dO 7) ?_
 refine jH (cY (vs:=[.agg #[sB pH14 k.head cH17,sB pA15 k.a cA18,sB pB16 k.b cB19,Ix (k.power)]]) aGe.ok rfl rfl) rfl fun w β1 sb kn hw1 back=>(zF β1 w hw1 k _ _ _ (kU kn 8 rfl) (kU kn 9 rfl) (kU kn 10 rfl) hok hpw i hri hcut).mono ?_
 rintro e w' ⟨pH34,pA35,pB36,cH37,cA38,cB39,ps40,cs41,pr42,cr43,us44,rfl,hx45,hw'⟩
 refine⟨_,rfl,_,back _ _ hw',?_⟩
 refine lE iK ?_
 refine lE mV ?_
 refine lE kK ?_
 refine fZ fun b46=> ?_
 refine lu (mS 0 (#[sB pH34 ((aV k i.epoch i.size).head) cH37,sB pA35 ((aV k i.epoch i.size).a) cA38,sB pB36 ((aV k i.epoch i.size).b) cB39,Ix ((aV k i.epoch i.size).power),Nx (i.epoch),Nx (i.next),sB ps40 i.state cs41,sB pr42 i.recs cr43,Nx (i.size),.bool false])) ?_
 refine lE bV ?_
 refine aW ?_
 refine dX ?_
 obtain⟨K,hK⟩:∃z,z=aV k i.epoch i.size:=⟨_,rfl⟩
 refine lR (L':=[pt b46 (.cells #[sB pH34 K.head cH37,sB pA35 K.a cA38,sB pB36 K.b cB39,Ix (K.power),Nx (i.epoch),Nx (i.next),sB ps40 i.state cs41,sB pr42 i.recs cr43,Nx (i.size),.bool false] 56),rB pH34 K.head cH37,rB pA35 K.a cA38,rB pB36 K.b cB39,row (sB pr42 i.recs cr43) 30 1 (i.recs.length) (us44),dC J33 S i false,aS S K,pt b32 (.cells #[Nx (i.epoch),Nx (i.next),sB ps26 i.state cs27,sB pr28 i.recs cr29,Nx (i.size)] 54),row (sB pr28 i.recs cr29) 30 1 (i.recs.length) (us30),pt b25 (.cells #[Nx (i.epoch),Nx (i.next),sB ps21 i.state cs23,sB pr22 i.recs cr24,Nx (i.size)] 36),rB ps21 i.state cs23,dP 30 pr22 cr24 i.recs,pt b20 (.cells #[sB pH14 k.head cH17,sB pA15 k.a cA18,sB pB16 k.b cB19,Ix (k.power)] 32),rB pH14 k.head cH17,rB pA15 k.a cA18,rB pB16 k.b cB19,pt b1 (.cells #[.slice none 0 0,.slice none 0 0,.slice none 0 0,.int .i64 (0),.int .i64 (0),.int .i64 (0),.slice none 0 0,.slice none 0 0,.int .i64 (0),.bool false] 56)]) (by show [pt b46 (.cells #[sB pH34 ((aV k i.epoch i.size).head) cH37,sB pA35 ((aV k i.epoch i.size).a) cA38,sB pB36 ((aV k i.epoch i.size).b) cB39,Ix ((aV k i.epoch i.size).power),Nx (i.epoch),Nx (i.next),sB ps40 i.state cs41,sB pr42 i.recs cr43,Nx (i.size),.bool false] 56),rB pH34 ((aV k i.epoch i.size).head) cH37,rB pA35 ((aV k i.epoch i.size).a) cA38,rB pB36 ((aV k i.epoch i.size).b) cB39,row (sB pr42 i.recs cr43) 30 1 (i.recs.length) (us44),dC J33 S i false,aS S (aV k i.epoch i.size),pt b32 (.cells #[Nx (i.epoch),Nx (i.next),sB ps26 i.state cs27,sB pr28 i.recs cr29,Nx (i.size)] 54),row (sB pr28 i.recs cr29) 30 1 (i.recs.length) (us30),pt b25 (.cells #[Nx (i.epoch),Nx (i.next),sB ps21 i.state cs23,sB pr22 i.recs cr24,Nx (i.size)] 36),rB ps21 i.state cs23,dP 30 pr22 cr24 i.recs,pt b20 (.cells #[sB pH14 k.head cH17,sB pA15 k.a cA18,sB pB16 k.b cB19,Ix (k.power)] 32),rB pH14 k.head cH17,rB pA15 k.a cA18,rB pB16 k.b cB19,pt b1 (.cells #[.slice none 0 0,.slice none 0 0,.slice none 0 0,.int .i64 (0),.int .i64 (0),.int .i64 (0),.slice none 0 0,.slice none 0 0,.int .i64 (0),.bool false] 56)]=_;rw[hK]) ?_
 refine eG [6,0,1,2,3,4,5,7,8,9,10,11,12,13,14,15,16] 17 rfl (by kernel_rfl) ?_
 refine cI rfl (fun pH47 pA48 pB49 cH50 cA51 cB52=> ?_)
 refine bA 1 rfl (fun hcl53 hcm54=> ?_)
 refine bA 2 rfl (fun hcl55 hcm56=> ?_)
 refine bA 3 rfl (fun hcl57 hcm58=> ?_)
 refine eF (by kernel_rfl) (by kernel_rfl) ?_
 iterate 2 refine qE bG ?_
 refine qE gO ?_
 refine qE dQ ?_
 refine rE eP ?_
 refine jB (v:= .bool false) rfl rfl rfl rfl rfl (eL (p:=some (⟨J33,0,none⟩)) rfl rfl rX) ?_
 refine rE bG ?_
 refine rE gO ?_
 refine jB (v:= .bool false) rfl rfl rfl rfl rfl (mT (a:=false) (b:=false) rfl rfl uS) ?_
 refine qE cR ?_
 refine qE dQ ?_
 refine rE eP ?_
 refine rE eY ?_
 refine rE (dO 0) ?_
 refine rE bM ?_
 refine rE (dO 4) ?_
 refine iJ (v:= .bool true) rfl rfl rfl rfl rfl (cY (vs:=[.agg #[sB pH47 K.head cH50,sB pA48 K.a cA51,sB pB49 K.b cB52,Ix (K.power)],.agg #[sB pH34 K.head cH37,sB pA35 K.a cA38,sB pB36 K.b cB39,Ix (K.power)]]) qX.ok rfl rfl) (fun w hw=> ?_) ?_
 ·obtain⟨β1,sb,kn,hw1,back⟩:=St.frame_all hw
  exact(jE β1 w hw1 K _ _ _ (kU kn 1 rfl) (kU kn 2 rfl) (kU kn 3 rfl) _ _ _ (kU kn 5 rfl) (kU kn 6 rfl) (kU kn 7 rfl)).mono (fun e w' ⟨he,hw'⟩=>⟨he,aF [true,true,true,true,true,true,true,true,true,true,true,true,true,true,true,true,true,true,true,true] rfl (back _ _ hw')⟩)
 refine rE lI ?_
 refine qE cR ?_
 refine fW ?_
 refine aQ ?_
 refine dI rfl ?_
 refine eT ?_
 refine aO ?_
 refine eG [0,1,2,3,4,5,6,7,8,9,10,11,12,13,14,15,16,17,18,19] 20 rfl (by kernel_rfl) ?_
 refine bW (S:=S) (k:=K) (pH:=pH47) (pA:=pA48) (pB:=pB49) (cH:=cH50) (cA:=cA51) (cB:=cB52) (M:=(pt b46 (.cells #[sB pH34 K.head cH37,sB pA35 K.a cA38,sB pB36 K.b cB39,Ix (K.power),Nx (i.epoch),Nx (i.next),sB ps40 i.state cs41,sB pr42 i.recs cr43,Nx (i.size),.bool false] 56)::rB pH34 K.head cH37::rB pA35 K.a cA38::rB pB36 K.b cB39::row (sB pr42 i.recs cr43) 30 1 (i.recs.length) (us44)::dC J33 S i false::pt b32 (.cells #[Nx (i.epoch),Nx (i.next),sB ps26 i.state cs27,sB pr28 i.recs cr29,Nx (i.size)] 54)::row (sB pr28 i.recs cr29) 30 1 (i.recs.length) (us30)::pt b25 (.cells #[Nx (i.epoch),Nx (i.next),sB ps21 i.state cs23,sB pr22 i.recs cr24,Nx (i.size)] 36)::rB ps21 i.state cs23::dP 30 pr22 cr24 i.recs::pt b20 (.cells #[sB pH14 k.head cH17,sB pA15 k.a cA18,sB pB16 k.b cB19,Ix (k.power)] 32)::rB pH14 k.head cH17::rB pA15 k.a cA18::rB pB16 k.b cB19::pt b1 (.cells #[.slice none 0 0,.slice none 0 0,.slice none 0 0,.int .i64 (0),.int .i64 (0),.int .i64 (0),.slice none 0 0,.slice none 0 0,.int .i64 (0),.bool false] 56)::[])) rfl ?_
 refine eG [2,3,4,14,15,5,0,1,6,7,8,9,10,11,12,13,16] 17 rfl (by kernel_rfl) ?_
 refine kJ (K:=[rB pH34 K.head cH37,rB pA35 K.a cA38,rB pB36 K.b cB39,rB pA15 k.a cA18,rB pB16 k.b cB19,row (sB pr42 i.recs cr43) 30 1 (i.recs.length) (us44)]) (F:=iT (sB pH34 K.head cH37) (sB pA35 K.a cA38) (sB pB36 K.b cB39) (sB ps40 i.state cs41) (sB pr42 i.recs cr43) K i) rfl (fun _ h=>aEy h hx45) ?_
 refine rF [sv 76 (pp J33 0) [] [] [0],sv 77 (.agg #[sB pH34 K.head cH37,sB pA35 K.a cA38,sB pB36 K.b cB39,Ix (K.power),Nx (i.epoch),Nx (i.next),sB ps40 i.state cs41,sB pr42 i.recs cr43,Nx (i.size),.bool false]) [] [] [1],sv 78 (pp J33 0) [] [] [0],sv 79 (.bool false) [2] [2] [],sv 80 (.bool false) [2,3] [3] [],sv 81 (pp J33 0) [2,3,4] [4] [0],sv 82 (pp b46 4) [2,3,4] [4] [1],sv 83 (.agg #[Nx (i.epoch),Nx (i.next),sB ps40 i.state cs41,sB pr42 i.recs cr43,Nx (i.size)]) [2,3,4,6] [6,4] [],sv 84 (.bool true) [2,3,4,5,6,7] [5,7,4] [],sv 85 (.bool true) [2,3,4,5,6,7,8] [4,8] [],sv 2 (pp J33 0) [0,2,3,4,5,6,7,8] [0] [],⟨[0,1,2,3,4,5,6,7,8,10],[1],[2],[],fun _=>True⟩,sv 4 (.bool true) (List.range 12) [9] []] [u1 [8],u0,u1 [1,7],u1 [8],u0,u0,u0,u0,u0,u0,u0,(some 11,[11])] [⟨(some 11),none,[],[],fun _=>pt b1 (.cells #[sB pH34 K.head cH37,sB pA35 K.a cA38,sB pB36 K.b cB39,Ix (K.power),Nx (i.epoch),Nx (i.next),sB ps40 i.state cs41,sB pr42 i.recs cr43,Nx (i.size),.bool false] 56)⟩] [(10,pp J33 0),(11,pp b46 0),(3,pp b1 0)] [2] ⟨rfl,rfl,rfl,trivial⟩ ⟨?_,?_,?_,?_,?_,?_,?_,?_,?_,?_,?_,?_,?_,trivial⟩ ?_
 ·rintro f M-⟨i0,-⟩
  exact bK eP
 ·rintro f M-⟨i0,-⟩
  exact bK (dO 0)
 ·rintro f M-⟨i0,-⟩
  exact bK eP
 ·rintro f M ⟨k0,-⟩-
  exact nA (aA (d:=78) rfl k0) rfl (eL (p:=some (⟨J33,0,none⟩)) rfl rfl rX) (.refl _)
 ·rintro f M ⟨k0,-⟩-
  exact bK dQ
 ·rintro f M ⟨k0,-⟩ ⟨i0,-⟩
  exact nG eP
 ·rintro f M ⟨k0,-⟩ ⟨i0,-⟩
  exact nG bM
 ·rintro f M ⟨k0,k1,-⟩-
  exact nG (dO 0)
 ·rintro f M ⟨k0,k1,k2,-⟩-
  refine fF (aA (d:=80) (aA (d:=83) (aA (d:=81) rfl k0) k1) k2) ?_
  refine eQ rfl rfl rfl rfl rfl (cY (vs:=[pp J33 0,.agg #[Nx (i.epoch),Nx (i.next),sB ps40 i.state cs41,sB pr42 i.recs cr43,Nx (i.size)]]) aBq.ok rfl rfl) ?_
  intro w hw
  obtain⟨β1,sb,kn,hw1,back⟩:=St.frame_all hw
  refine(qU β1 w hw1 J33 S i false (kn _ (aX.of_res 1 rfl (JF.mono _ _ _ _) fun _ h=>iX h)) _ _ hb hn hbs (kn _ (aX.of_res 0 rfl (Sl.mono bE _ _) fun _ h=>h.2.2.2.1)) (kn _ (aX.of_res 0 rfl (Sl.mono rA _ _) fun _ h=>h.2.2.2.2))).mono ?_
  rintro e w' ⟨rfl,hw'⟩
  refine⟨_,rfl,_,back _ _ hw',?_⟩
  refine aG ?_
  exact aI (aA (d:=80) (aA (d:=83) (aA (d:=81) rfl k0) k1) k2) rfl ((aB 1 rfl).trans (aB 1 rfl))
 ·rintro f M ⟨k0,k1,-⟩-
  exact bK cR
 ·rintro f M ⟨k0,-⟩-
  exact bK nV
 ·rintro f M ⟨k0,-⟩ ⟨i0,-⟩
  refine fF (aA (d:=77) (aA (d:=3) rfl i0) k0) ?_
  refine lu (mS 0 (#[sB pH34 K.head cH37,sB pA35 K.a cA38,sB pB36 K.b cB39,Ix (K.power),Nx (i.epoch),Nx (i.next),sB ps40 i.state cs41,sB pr42 i.recs cr43,Nx (i.size),.bool false])) ?_
  refine aG ?_
  exact cT (aA (d:=77) (aA (d:=3) rfl i0) k0) trivial (aB 0 rfl)
 ·rintro f M ⟨k0,-⟩-
  exact bK eE
 rintro fa59 ⟨-,-,-,-,-,-,-,-,-,-,k10,-,k12,-⟩ ⟨j0,-⟩
 refine rL ?_
 refine aJ (d:=2) k10 ?_
 refine aJ (d:=3) j0 ?_
 refine aJ (d:=4) k12 ?_
 refine ftr ?_
 refine fH (m:=[pp J33 0,.agg #[sB pH34 K.head cH37,sB pA35 K.a cA38,sB pB36 K.b cB39,Ix (K.power),Nx (i.epoch),Nx (i.next),sB ps40 i.state cs41,sB pr42 i.recs cr43,Nx (i.size),.bool false],.bool true]) Try.results22 ⟨cN (v:=pp J33 0) rfl,bY jK.ok rfl (dM 11 rfl rfl) rfl,cN (v:= .bool true) rfl,trivial⟩ rfl ?_
 intro w hw
 have hw2:=aF [true,true,true,false,false,false,false,false,false,false,false,false] rfl (hw.perm (L':=[dC J33 S i false,aS S K,iT (sB pH34 K.head cH37) (sB pA35 K.a cA38) (sB pB36 K.b cB39) (sB ps40 i.state cs41) (sB pr42 i.recs cr43) K i,pt b46 (.cells #[sB pH34 K.head cH37,sB pA35 K.a cA38,sB pB36 K.b cB39,Ix (K.power),Nx (i.epoch),Nx (i.next),sB ps40 i.state cs41,sB pr42 i.recs cr43,Nx (i.size),.bool false] 56),pt b32 (.cells #[Nx (i.epoch),Nx (i.next),sB ps26 i.state cs27,sB pr28 i.recs cr29,Nx (i.size)] 54),row (sB pr28 i.recs cr29) 30 1 (i.recs.length) (us30),pt b25 (.cells #[Nx (i.epoch),Nx (i.next),sB ps21 i.state cs23,sB pr22 i.recs cr24,Nx (i.size)] 36),rB ps21 i.state cs23,dP 30 pr22 cr24 i.recs,pt b20 (.cells #[sB pH14 k.head cH17,sB pA15 k.a cA18,sB pB16 k.b cB19,Ix (k.power)] 32),rB pH14 k.head cH17,pt b1 (.cells #[sB pH34 K.head cH37,sB pA35 K.a cA38,sB pB36 K.b cB39,Ix (K.power),Nx (i.epoch),Nx (i.next),sB ps40 i.state cs41,sB pr42 i.recs cr43,Nx (i.size),.bool false] 56)]) (by exact(bN [3,1,0,2,4,5,6,7,8,9,10,11] 12 rfl (by kernel_rfl) (by kernel_rfl))))
 subst hK
 exact⟨_,_,_,_,_,_,_,_,_,_,_,rfl,hw2⟩
end Go.Proofs
