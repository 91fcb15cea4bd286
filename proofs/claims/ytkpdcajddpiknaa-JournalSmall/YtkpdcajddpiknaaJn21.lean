/-
 What the law compares,walked. Printed by a program of my own.
-/
import Derived.Test.YtkpdcajddpiknaaJn20
set_option linter.all false
set_option maxHeartbeats 4000000
namespace Go.Proofs
open Go Go.Sl Go.Jn
def aKz(j:Nat):UInt8:=aIy (8000024+j)
def aIx(xs:Bs):Bs:=xs++(List.range 12).map aKz
theorem aCk(xs:Bs):(aIx xs).length=xs.length+12:=by simp[aIx]
theorem aHj{us:List Value}{xs:List Bs}{h:bR}(hi:ins us xs h)(hb:∀b∈xs,b.length≤1048576):us.length=xs.length∧∀(j:Nat) (u:Value),us[j]? =some u→∃a m c,u=Value.slice a m c∧m≤1048576:=by
 refine⟨hi.1.1,fun j u hu=> ?_⟩
 have hlt:=(List.getElem?_eq_some_iff.1 hu).1
 obtain⟨x,hx⟩:∃x,xs[j]? =some x:=⟨_,List.getElem?_eq_getElem (by rw[←hi.1.1];exact hlt)⟩
 obtain⟨a,c,rfl,_⟩:=(hi.1.2 j x u hx hu).get
 exact⟨a,_,c,rfl,hb _ (List.mem_of_getElem? hx)⟩
instance tf161:CfC Try.prog 62:={}
instance aBp:CfC Try.prog 60:={}
instance aJf:CfC Try.prog 27:={}
theorem aFc(β:Base)(w:World)(us:List Value)(a:Option Addr)(m c:Nat)(hv:(.slice a m c:Value)∈us)(hm:m≤1048576)(hmc:m≤c)(hcm:c≤9223372036854775807)(ha:0<c→a=some (ba a))(hw:St β [tL us] w):Calls Try.prog 27 #[.slice a m c] w fun r w'=>r= .returned (.tuple #[])∧St β [tL us] w':=by
 refine enter (n:=23) Try.func27 rfl Try.ntmps27 rfl ?_ hw
 refine cC ?_
 iterate 2 refine lE cX ?_
 refine lv (v:=Nx (c)) (aKp (a:=a) (n:=m) (c:=c) rfl mM.ok) ?_
 refine lE cX ?_
 refine lE fC ?_
 refine lv (v:=Nx (m+12)) (bJ rfl rfl (bU (by omega) (by omega))) ?_
 refine lv (v:=Nx (min c (m+12))) (fE (congrArg (Value.int .i64) (by omega)) (aIt (a:=((c:Nat):Int)) (b:=((m+12:Nat):Int)) rfl rfl)) ?_
 refine lv (v:= .slice a (min c (m+12)) c) (dF (a:=a) (len:=m) (cap:=c) (h:=min c (m+12)) bQ rfl rfl (by omega)) ?_
 refine lE fR ?_
 refine eJ ?_
 refine lE bV ?_
 refine aW ?_
 refine aY ?_
 refine dV (fun(k:Nat) f L=>(f 2= .slice a (min c (m+12)) c∧f 3=Nx (k))∧L=[tL us]∧(k≤min c (m+12))) (fun k=>min c (m+12)-k) 0 ?_ ?_
 ·exact⟨⟨rfl,rfl⟩,rfl,(by omega)⟩
 rintro k f0 L0 ⟨⟨hs2,hs3⟩,hL,hk⟩
 subst L0
 refine dG 2 hs2 ?_
 refine dG 3 hs3 ?_
 refine dX ?_
 refine aC ?_
 refine lE bG ?_
 refine lE cX ?_
 refine lE fC ?_
 refine lE jI ?_
 refine aW ?_
 refine cK _ rfl (fun hc1=> ?_) (fun hc1=> ?_)
 ·refine eT ?_
  refine aO ?_
  refine aY ?_
  refine aC ?_
  refine lE cX ?_
  iterate 2 refine lE bG ?_
  refine gW gU (fun w β1 sb kn hw1=>aCn β1 w hw1 k (by omega)) ?_
  refine lE (rN bQ (ha (by omega))) ?_
  refine lu (aAc 0 gQ.ok rfl rfl rfl hv (by omega)) ?_
  refine aG ?_
  refine bD ?_
  refine aQ ?_
  refine aC ?_
  refine lE bG ?_
  refine lv (v:=Nx (k+1)) (bJ rfl rfl (bU (by omega) (by omega))) ?_
  refine lE bV ?_
  refine aG ?_
  exact bT ⟨k+1,⟨⟨rfl,rfl⟩,rfl,(by omega)⟩,(show min c (m+12)-(k+1)<min c (m+12)-k from by omega)⟩
 refine dZ ?_
 refine aU ?_
 refine aU ?_
 refine eA ?_
 refine nS Try.results27 ?_
 intro w hw
 exact⟨rfl,aF [true] rfl hw⟩
theorem aBb(β:Base)(w:World)(us:List Value)(v:Value)(hv:v∈us)(hm:∃a m c,v= .slice a m c∧m≤1048576)(hw:St β [tL us] w):Calls Try.prog 27 #[v] w fun r w'=>r= .returned (.tuple #[])∧St β [tL us] w':=by
 have hs:tL us (ph w):=hw.knows (aX.of_res 0 rfl (tL.mono us) fun _ h=>h)
 obtain⟨a,m,c,rfl,h1,h2,h3⟩:=aFw hs hv
 obtain⟨_,_,_,e,h4⟩:=hm
 injection e with _ e2 _
 subst e2
 exact aFc β w us a m c hv h4 h1 (by unfold maxLen at h2;omega) h3 hw
theorem oB(β:Base)(w:World)(hw:St β [] w)(i:KI)(xs xr ys yr:Value)(hn:i.recs.length≤1048576)(hxs:Sl bE β.heap xs i.state)(hxr:Sl rA β.heap xr i.recs)(hys:Sl bE β.heap ys i.state)(hyr:Sl rA β.heap yr i.recs):kH Try.prog 60 #[.agg #[Nx i.epoch,Nx i.next,xs,xr,Nx i.size],.agg #[Nx i.epoch,Nx i.next,ys,yr,Nx i.size]] β w (.bool true):=by
 obtain⟨axa,axc,rfl,axl,axm,axe⟩:=hxs.get
 obtain⟨pD,bxc,rfl,bxl,bxm,bxe⟩:=hxr.get
 obtain⟨aya,ayc,rfl,ayl,aym,aye⟩:=hys.get
 obtain⟨by_a,by_c,rfl,by_l,by_m,by_e⟩:=hyr.get
 refine enter (n:=42) Try.func60 rfl Try.ntmps60 rfl ?_ hw
 refine cC ?_
 refine cF rfl rfl rfl (vO (v:= .agg #[Nx (i.epoch),Nx (i.next),sB axa i.state (axc),sB pD i.recs (bxc),Nx (i.size)]) rfl) ?_
 rintro _ _ ⟨b1,rfl,rfl⟩
 refine cF rfl rfl rfl (vO (v:= .agg #[Nx (i.epoch),Nx (i.next),sB aya i.state (ayc),sB by_a i.recs (by_c),Nx (i.size)]) rfl) ?_
 rintro _ _ ⟨b2,rfl,rfl⟩
 refine lE eE ?_
 refine aW ?_
 refine aO ?_
 refine rF [sv 5 (pp b1 0) [] [] [0],sv 6 (Nx (i.epoch)) [0] [0] [],sv 7 (pp b2 0) [] [] [1],sv 8 (Nx (i.epoch)) [2] [2] [],sv 9 (.bool true) [0,1,2,3] [1,3] [],sv 10 (.bool true) [0,1,2,3,4] [4] [],sv 11 (pp b1 1) (List.range 6) [5] [0],sv 12 (Nx (i.next)) (List.range 7) [6,5] [],sv 13 (pp b2 1) (List.range 6) [5] [1],sv 14 (Nx (i.next)) [0,1,2,3,4,5,8] [8,5] [],sv 15 (.bool true) (List.range 10) [7,9,5] [],sv 16 (.bool true) (List.range 11) [5,10] [],sv 17 (.bool true) (List.range 12) [11] [],sv 18 (pp b1 4) (List.range 13) [12] [0],sv 19 (Nx (i.size)) (List.range 14) [13,12] [],sv 20 (pp b2 4) (List.range 13) [12] [1],sv 21 (Nx (i.size)) [0,1,2,3,4,5,6,7,8,9,10,11,12,15] [15,12] [],sv 22 (.bool true) (List.range 17) [14,16,12] [],sv 23 (.bool true) (List.range 18) [12,17] [],sv 24 (.bool true) (List.range 19) [18] [],sv 25 (pp b1 2) (List.range 20) [19] [0],sv 26 (sB axa i.state (axc)) (List.range 21) [20,19] [],sv 27 (.string (mK i.state)) (List.range 22) [21,19] [],sv 28 (pp b2 2) (List.range 20) [19] [1],sv 29 (sB aya i.state (ayc)) [0,1,2,3,4,5,6,7,8,9,10,11,12,13,14,15,16,17,18,19,23] [23,19] [],sv 30 (.string (mK i.state)) [0,1,2,3,4,5,6,7,8,9,10,11,12,13,14,15,16,17,18,19,23,24] [24,19] [],sv 31 (.bool true) (List.range 26) [22,25,19] [],sv 32 (.bool true) (List.range 27) [19,26] [],sv 33 (.bool true) (List.range 28) [27] [],sv 34 (pp b1 3) (List.range 29) [28] [0],sv 35 (sB pD i.recs (bxc)) (List.range 30) [29,28] [],⟨(List.range 31),[30,28],[],[36],fun f=>f 36=sB (aM (f 36)) (i.recs.map mK) (aN (f 36))⟩,sv 37 (pp b2 3) (List.range 29) [28] [1],sv 38 (sB by_a i.recs (by_c)) [0,1,2,3,4,5,6,7,8,9,10,11,12,13,14,15,16,17,18,19,20,21,22,23,24,25,26,27,28,32] [32,28] [],⟨(List.range 34),[33,28],[],[39],fun f=>f 39=sB (aM (f 39)) (i.recs.map mK) (aN (f 39))⟩,sv 40 (.bool true) (List.range 35) [31,34,28] [],sv 41 (.bool true) (List.range 36) [28,35] [],sv 4 (.bool true) (List.range 37) [36] []] [u1 [3,9,16,24,33],u1 [1,7,14,21,30]] [⟨(some 31),none,[35],[36],fun f=>row (sB (aM (f 36)) (i.recs.map mK) (aN (f 36))) 9 1 ((i.recs.map mK).length) ((i.recs.map mK).map (fun s:ByteArray=>Value.string s))⟩,⟨(some 34),none,[35],[39],fun f=>row (sB (aM (f 39)) (i.recs.map mK) (aN (f 39))) 9 1 ((i.recs.map mK).length) ((i.recs.map mK).map (fun s:ByteArray=>Value.string s))⟩] [(2,pp b1 0),(3,pp b2 0)] [] ⟨rfl,rfl,trivial⟩ ⟨?_,?_,?_,?_,?_,?_,?_,?_,?_,?_,?_,?_,?_,?_,?_,?_,?_,?_,?_,?_,?_,?_,?_,?_,?_,?_,?_,?_,?_,?_,?_,?_,?_,?_,?_,?_,?_,?_,trivial⟩ ?_
 ·rintro f M-⟨i0,-⟩
  exact bK bM
 ·rintro f M ⟨k0,-⟩-
  exact bK (eU 0)
 ·rintro f M-⟨i0,-⟩
  exact bK bM
 ·rintro f M ⟨k0,-⟩-
  exact bK (eU 0)
 ·rintro f M ⟨k0,k1,-⟩-
  exact nA (aA (d:=8) (aA (d:=6) rfl k0) k1) rfl ((vG rfl (sD (a:=((i.epoch:Nat):Int)) (b:=((i.epoch:Nat):Int)) rfl rfl))) (.refl _)
 ·rintro f M ⟨k0,-⟩-
  exact bK dQ
 ·rintro f M ⟨k0,-⟩ ⟨i0,-⟩
  exact nG bM
 ·rintro f M ⟨k0,k1,-⟩-
  exact nG (eU 0)
 ·rintro f M ⟨k0,-⟩ ⟨i0,-⟩
  exact nG bM
 ·rintro f M ⟨k0,k1,-⟩-
  exact nG (eU 0)
 ·rintro f M ⟨k0,k1,k2,-⟩-
  exact sX (L':=M) (v:= .bool true) (aA (d:=10) (aA (d:=14) (aA (d:=12) rfl k0) k1) k2) ((vG rfl (sD (a:=((i.next:Nat):Int)) (b:=((i.next:Nat):Int)) rfl rfl))) rfl rfl rfl rfl (.refl _) (by rfl)
 ·rintro f M ⟨k0,k1,-⟩-
  exact bK dY
 ·rintro f M ⟨k0,-⟩-
  exact bK dQ
 ·rintro f M ⟨k0,-⟩ ⟨i0,-⟩
  exact nG bM
 ·rintro f M ⟨k0,k1,-⟩-
  exact nG (eU 0)
 ·rintro f M ⟨k0,-⟩ ⟨i0,-⟩
  exact nG bM
 ·rintro f M ⟨k0,k1,-⟩-
  exact nG (eU 0)
 ·rintro f M ⟨k0,k1,k2,-⟩-
  exact sX (L':=M) (v:= .bool true) (aA (d:=17) (aA (d:=21) (aA (d:=19) rfl k0) k1) k2) ((vG rfl (sD (a:=((i.size:Nat):Int)) (b:=((i.size:Nat):Int)) rfl rfl))) rfl rfl rfl rfl (.refl _) (by rfl)
 ·rintro f M ⟨k0,k1,-⟩-
  exact bK dY
 ·rintro f M ⟨k0,-⟩-
  exact bK dQ
 ·rintro f M ⟨k0,-⟩ ⟨i0,-⟩
  exact nG bM
 ·rintro f M ⟨k0,k1,-⟩-
  exact nG (fA 0)
 ·rintro f M ⟨k0,k1,-⟩-
  exact sX (L':=M) (v:= .string (mK i.state)) (aA (d:=24) (aA (d:=26) rfl k0) k1) (jO (a:=axa) (bs:=i.state) (m:=i.state.length) (c:=axc) rfl (by first|rfl|simp) mM.ok tM tf7 (aX.of_base (bO.mono _ _ _) axe)) rfl rfl rfl rfl (.refl _) (by rfl)
 ·rintro f M ⟨k0,-⟩ ⟨i0,-⟩
  exact nG bM
 ·rintro f M ⟨k0,k1,-⟩-
  exact nG (fA 0)
 ·rintro f M ⟨k0,k1,-⟩-
  exact sX (L':=M) (v:= .string (mK i.state)) (aA (d:=24) (aA (d:=29) rfl k0) k1) (jO (a:=aya) (bs:=i.state) (m:=i.state.length) (c:=ayc) rfl (by first|rfl|simp) mM.ok tM tf7 (aX.of_base (bO.mono _ _ _) aye)) rfl rfl rfl rfl (.refl _) (by rfl)
 ·rintro f M ⟨k0,k1,k2,-⟩-
  exact sX (L':=M) (v:= .bool true) (aA (d:=24) (aA (d:=30) (aA (d:=27) rfl k0) k1) k2) ((vG rfl (aGz (a:=(mK i.state)) (b:=(mK i.state)) rfl rfl))) rfl rfl rfl rfl (.refl _) (by rfl)
 ·rintro f M ⟨k0,k1,-⟩-
  exact bK dY
 ·rintro f M ⟨k0,-⟩-
  exact bK dQ
 ·rintro f M ⟨k0,-⟩ ⟨i0,-⟩
  exact nG bM
 ·rintro f M ⟨k0,k1,-⟩-
  exact nG (fA 0)
 ·rintro f M ⟨k0,k1,-⟩-
  refine fF (aA (d:=33) (aA (d:=35) rfl k0) k1) ?_
  refine eQ rfl rfl rfl rfl rfl (cY (vs:=[sB pD i.recs (bxc)]) aLp.ok rfl rfl) ?_
  intro w hw
  obtain⟨β1,sb,kn,hw1,back⟩:=St.frame_all hw
  refine(aBj β1 w hw1 i.recs _ hn (Sl.mono _ _ _ _ _ sb (⟨⟨_,_,rfl,bxl,bxm,bxe⟩⟩:Sl rA _ _ i.recs))).mono ?_
  rintro e w' ⟨p5,c6,rfl,hw'⟩
  refine⟨_,rfl,_,back _ _ hw',?_⟩
  refine aG ?_
  exact aI (aA (d:=33) (aA (d:=35) rfl k0) k1) rfl (aB 0 rfl)
 ·rintro f M ⟨k0,-⟩ ⟨i0,-⟩
  exact nG bM
 ·rintro f M ⟨k0,k1,-⟩-
  exact nG (fA 0)
 ·rintro f M ⟨k0,k1,-⟩-
  refine fF (aA (d:=33) (aA (d:=38) rfl k0) k1) ?_
  refine eQ rfl rfl rfl rfl rfl (cY (vs:=[sB by_a i.recs (by_c)]) aLp.ok rfl rfl) ?_
  intro w hw
  obtain⟨β1,sb,kn,hw1,back⟩:=St.frame_all hw
  refine(aBj β1 w hw1 i.recs _ hn (Sl.mono _ _ _ _ _ sb (⟨⟨_,_,rfl,by_l,by_m,by_e⟩⟩:Sl rA _ _ i.recs))).mono ?_
  rintro e w' ⟨p9,c10,rfl,hw'⟩
  refine⟨_,rfl,_,back _ _ hw',?_⟩
  refine aG ?_
  exact aI (aA (d:=33) (aA (d:=38) rfl k0) k1) rfl (aB 0 rfl)
 ·rintro f M ⟨k0,k1,k2,-⟩-
  have hs36:f 36=sB (aM (f 36)) (i.recs.map mK) (aN (f 36)):=k0
  have hs39:f 39=sB (aM (f 39)) (i.recs.map mK) (aN (f 39)):=k1
  refine fF (aA (d:=33) (aA (aA rfl hs36) hs39) k2) ?_
  refine eQ rfl rfl rfl rfl rfl (cY (vs:=[sB (aM (f 36)) (i.recs.map mK) (aN (f 36)),sB (aM (f 39)) (i.recs.map mK) (aN (f 39))]) aMk.ok rfl rfl) ?_
  intro w hw
  obtain⟨β1,sb,kn,hw1,back⟩:=St.frame_all hw
  refine(aFt β1 w hw1 (i.recs.map mK) (i.recs.map mK) _ _ (kn _ (aX.of_res 0 rfl (Sl.mono aBx _ _) fun _ h=>aBf h)) (kn _ (aX.of_res 1 rfl (Sl.mono aBx _ _) fun _ h=>aBf h))).mono ?_
  rintro e w' ⟨rfl,hw'⟩
  refine⟨_,rfl,_,back _ _ hw',?_⟩
  refine aG ?_
  exact aI (aA (d:=33) (aA (aA rfl hs36) hs39) k2) (congrArg Value.bool (decide_eq_true rfl)) ((aB 1 rfl).trans (aB 1 rfl))
 ·rintro f M ⟨k0,k1,-⟩-
  exact bK dY
 ·rintro f M ⟨k0,-⟩-
  exact bK eE
 rintro fa11 ⟨-,-,-,-,-,-,-,-,-,-,-,-,-,-,-,-,-,-,-,-,-,-,-,-,-,-,-,-,-,-,-,-,-,-,-,-,-,k37,-⟩-
 refine rL ?_
 refine aJ (d:=4) k37 ?_
 refine ftr ?_
 refine dS Try.results60 rfl ?_
 intro w hw
 exact⟨by first|rfl|simp,aF [false,false,false,false] rfl hw⟩
theorem qU(β:Base)(w:World)(hw:St β [] w)(J S:Nat)(i:KI)(dn:Bool)(hj:JF J S i dn β.heap)(ys yr:Value)(hb:i.state.length≤1048576)(hn:i.recs.length≤1048576)(hbs:∀b∈i.recs,b.length≤1048576)(hys:Sl bE β.heap ys i.state)(hyr:Sl rA β.heap yr i.recs):kH Try.prog 29 #[pp J 0,.agg #[Nx i.epoch,Nx i.next,ys,yr,Nx i.size]] β w (.bool true):=by
 obtain⟨aya,ayc,rfl,ayl,aym,aye⟩:=hys.get
 obtain⟨bqa,bqc,rfl,bql,bqm,bqe⟩:=hyr.get
 refine enter (n:=39) Try.func29 rfl Try.ntmps29 rfl ?_ hw
 refine cC ?_
 refine pD fun b1=> ?_
 refine lE eE ?_
 refine aW ?_
 refine dX ?_
 refine aC ?_
 refine lE bG ?_
 refine aW ?_
 refine aY ?_
 refine kY [true] rfl ?_
 refine dV (fun(n:Nat) f L=>(f 0=pp J 0∧f 3=pp b1 0∧f 8=Nx (n))∧L=[pt b1 (.cells #[Nx (i.epoch),Nx (i.next),sB aya i.state (ayc),sB bqa i.recs (bqc),Nx (i.size)] 54)]∧(n≤2)) (fun n=>2-n) 0 ?_ ?_
 ·exact⟨⟨rfl,rfl,rfl⟩,rfl,(by omega)⟩
 rintro n f0 L0 ⟨⟨hs0,hs3,hs8⟩,hL,hn2⟩
 subst L0
 refine dG 0 hs0 ?_
 refine dG 3 hs3 ?_
 refine dG 8 hs8 ?_
 refine cC ?_
 refine lE jI ?_
 refine aW ?_
 refine aO ?_
 refine cK _ rfl (fun hc2=> ?_) (fun hc2=> ?_)
 ·refine eT ?_
  refine aO ?_
  refine aY ?_
  refine aO ?_
  refine rF [sv 10 (pp J 0) [] [] [0],sv 11 (Nx (i.epoch)) [0] [0] [],sv 12 (pp J 0) [] [] [0],sv 13 (Nx (i.next)) [0,1,2] [2] [],sv 14 (pp J 0) [] [] [0],⟨[0,1,2,3,4],[4],[],[15],fun f=>f 15=sB (aM (f 15)) i.state (aN (f 15))⟩,sv 16 (pp J 0) [] [] [0],⟨(List.range 7),[6],[],[17],fun f=>f 17=sB (aM (f 17)) i.recs (aN (f 17))⟩,sv 18 (pp b1 4) [] [] [1],sv 19 (Nx (i.size)) [8] [8] [],⟨(List.range 10),[1,3,5,7,9],[],[15,17,20],fun f=>f 20= .agg #[Nx (i.epoch),Nx (i.next),sB (aM (f 15)) i.state (aN (f 15)),sB (aM (f 17)) i.recs (aN (f 17)),Nx (i.size)]⟩,⟨[],[],[],[5],fun f=>f 5= .pointer (some ⟨(bI (f 5)),0,none⟩)⟩,⟨(List.range 12),[11,10],[],[],fun _=>True⟩] [u1 [9]] [⟨(some 5),none,[],[15],fun f=>rB (aM (f 15)) i.state (aN (f 15))⟩,⟨(some 7),none,[],[17],fun f=>dP 30 (aM (f 17)) (aN (f 17)) i.recs⟩,⟨(some 11),(some 12),[12],[5],fun f=>pt (bI (f 5)) (.cells #[.int .i64 (0),.int .i64 (0),.slice none 0 0,.slice none 0 0,.int .i64 (0)] 36)⟩,⟨(some 12),none,[],[5,15,17],fun f=>pt (bI (f 5)) (.cells #[Nx (i.epoch),Nx (i.next),sB (aM (f 15)) i.state (aN (f 15)),sB (aM (f 17)) i.recs (aN (f 17)),Nx (i.size)] 36)⟩] [(0,pp J 0),(3,pp b1 0),(8,Nx (n))] [0,1,2] ⟨rfl,rfl,rfl,trivial⟩ ⟨?_,?_,?_,?_,?_,?_,?_,?_,?_,?_,?_,?_,?_,trivial⟩ ?_
  ·rintro f M-⟨i0,-⟩
   exact bK eP
  ·rintro f M ⟨k0,-⟩-
   refine fF (aA (d:=10) rfl k0) ?_
   refine gW gU (fun w β1 sb kn hw1=>rH β1 w hw1 J S i dn (JF.mono _ _ _ _ _ _ sb hj)) ?_
   refine aG ?_
   exact aI (aA (d:=10) rfl k0) rfl (List.Perm.refl _)
  ·rintro f M-⟨i0,-⟩
   exact bK eP
  ·rintro f M ⟨k0,-⟩-
   refine fF (aA (d:=12) rfl k0) ?_
   refine gW gU (fun w β1 sb kn hw1=>tH β1 w hw1 J S i dn (JF.mono _ _ _ _ _ _ sb hj)) ?_
   refine aG ?_
   exact aI (aA (d:=12) rfl k0) rfl (List.Perm.refl _)
  ·rintro f M-⟨i0,-⟩
   exact bK eP
  ·rintro f M ⟨k0,-⟩-
   refine fF (aA (d:=14) rfl k0) ?_
   refine jH (cY (vs:=[pp J 0]) aLn.ok rfl rfl) rfl fun w β1 sb kn hw1 back=>(zJ β1 w hw1 J S i dn (JF.mono _ _ _ _ _ _ sb hj) hb).mono ?_
   rintro e w' ⟨p5,c6,rfl,hw'⟩
   refine⟨_,rfl,_,back _ _ hw',?_⟩
   refine aG ?_
   exact aI (aA (d:=14) rfl k0) rfl (aB 0 rfl)
  ·rintro f M-⟨i0,-⟩
   exact bK eP
  ·rintro f M ⟨k0,-⟩-
   refine fF (aA (d:=16) rfl k0) ?_
   refine jH (cY (vs:=[pp J 0]) aLo.ok rfl rfl) rfl fun w β1 sb kn hw1 back=>(uG β1 w hw1 J S i dn (JF.mono _ _ _ _ _ _ sb hj) hn hbs).mono ?_
   rintro e w' ⟨p9,c10,rfl,hw'⟩
   refine⟨_,rfl,_,back _ _ hw',?_⟩
   refine aG ?_
   exact aI (aA (d:=16) rfl k0) rfl (aB 0 rfl)
  ·rintro f M-⟨i0,-⟩
   exact bK bM
  ·rintro f M ⟨k0,-⟩-
   exact bK (eU 0)
  ·rintro f M ⟨k0,k1,k2,k3,k4,-⟩-
   have hs15:f 15=sB (aM (f 15)) i.state (aN (f 15)):=k2
   have hs17:f 17=sB (aM (f 17)) i.recs (aN (f 17)):=k3
   exact nA (aA (d:=19) (aA (aA (aA (d:=13) (aA (d:=11) rfl k0) k1) hs15) hs17) k4) rfl (dW aGi.ok aGj (vs:=[(0,Nx (i.epoch)),(1,Nx (i.next)),(2,sB (aM (f 15)) i.state (aN (f 15))),(3,sB (aM (f 17)) i.recs (aN (f 17))),(4,Nx (i.size))]) (cells:= #[Nx (i.epoch),Nx (i.next),sB (aM (f 15)) i.state (aN (f 15)),sB (aM (f 17)) i.recs (aN (f 17)),Nx (i.size)]) rfl rfl) (.refl _)
  ·rintro f M- -
   refine fF rfl ?_
   refine fZ fun b12=> ?_
   refine aG ?_
   exact aI rfl rfl (aB 0 rfl)
  ·rintro f M ⟨k0,k1,-⟩-
   have hs5:f 5= .pointer (some ⟨(bI (f 5)),0,none⟩):=k0
   have hs20:f 20= .agg #[Nx (i.epoch),Nx (i.next),sB (aM (f 15)) i.state (aN (f 15)),sB (aM (f 17)) i.recs (aN (f 17)),Nx (i.size)]:=k1
   refine fF (aA (aA rfl hs5) hs20) ?_
   refine lu (mS 0 (#[Nx (i.epoch),Nx (i.next),sB (aM (f 15)) i.state (aN (f 15)),sB (aM (f 17)) i.recs (aN (f 17)),Nx (i.size)])) ?_
   refine aG ?_
   exact cT (aA (aA rfl hs5) hs20) trivial (aB 0 rfl)
  rintro fa13 ⟨-,-,-,-,-,-,-,-,-,-,-,k11,-,-⟩ ⟨j0,j1,j2,-⟩
  refine rL ?_
  refine aJ (d:=0) j0 ?_
  refine aJ (d:=3) j1 ?_
  refine aJ (d:=5) k11 ?_
  refine aJ (d:=8) j2 ?_
  refine zT ?_
  refine cC ?_
  refine lE (dO 3) ?_
  refine lE (dO 0) ?_
  refine gW gU (fun w β1 sb kn hw1=>oB β1 w hw1 i _ _ _ _ hn (kU kn 1 rfl) (kn _ (aX.of_res 2 rfl (Sl.mono rA _ _) fun _ h=>tJ h)) (Sl.mono _ _ _ _ _ sb (⟨⟨_,_,rfl,ayl,aym,aye⟩⟩:Sl bE _ _ i.state)) (Sl.mono _ _ _ _ _ sb (⟨⟨_,_,rfl,bql,bqm,bqe⟩⟩:Sl rA _ _ i.recs))) ?_
  refine lE lI ?_
  refine aW ?_
  refine dI rfl ?_
  refine eT ?_
  refine cC ?_
  refine lE bM ?_
  refine lE (fA 3) ?_
  refine bP rfl rfl rfl (cY (vs:=[sB (aM (fa13 15)) i.state (aN (fa13 15))]) aJf.ok rfl rfl) ?_
  intro w hw
  replace hw:=hw.perm (L':=_::_::_::_::[]) (by exact((((aB 3 rfl).trans (aB 3 rfl)).trans (aB 2 rfl)).trans (aB 3 rfl)))
  obtain⟨β1,sb,kn,hw1,back⟩:=St.frame (L:=[_]) (M:=_::_::_::[]) hw
  replace hw1:=hw1.conseq (r':=tL [sB (aM (fa13 15)) i.state (aN (fa13 15))]) fun _ h=>xI h (by first|omega|(rw[aCk];omega))
  refine(aBb β1 w [sB (aM (fa13 15)) i.state (aN (fa13 15))] (sB (aM (fa13 15)) i.state (aN (fa13 15))) (List.mem_singleton.2 rfl) ⟨_,_,_,rfl,by first|omega|(simp only[List.length_take];omega)⟩ hw1).mono ?_
  rintro e w' ⟨rfl,hw'⟩
  refine⟨_,rfl,_,back _ _ hw',?_⟩
  refine aW ?_
  refine aO ?_
  refine eG [2,0,1,3] 4 rfl (by kernel_rfl) ?_
  refine aLu (r:=fun us h=>kI [row (sB (aM (fa13 17)) i.recs (aN (fa13 17))) 30 1 ((i.recs).length) (us),ins us i.recs] h) rfl (fun us=> ?_)
  refine aGu (K:=[row (sB (aM (fa13 17)) i.recs (aN (fa13 17))) 30 1 ((i.recs).length) (us),ins us i.recs]) rfl ?_
  refine aJl (aX.of_res 1 rfl (fun _ _ _ h=>h) fun _ h=>aHj h hbs) (fun hul0=> ?_)
  obtain⟨hun,hul⟩:=hul0
  refine nO (r':=tL us) 1 rfl (fun _ h=>h.2) ?_
  refine aC ?_
  refine lE bM ?_
  refine lE (fA 4) ?_
  refine lE fC ?_
  refine lE bG ?_
  refine aW ?_
  refine aY ?_
  refine dV (fun(q:Nat) f L=>(f 0=pp J 0∧f 3=pp b1 0∧f 8=Nx (n)∧f 29=sB (aM (fa13 17)) i.recs (aN (fa13 17))∧f 30=Nx ((i.recs).length)∧f 31=Nx (q))∧L=[row (sB (aM (fa13 17)) i.recs (aN (fa13 17))) 30 1 ((i.recs).length) (us),tL us,tL [sB (aM (fa13 15)) i.state (aN (fa13 15))],pt b1 (.cells #[Nx (i.epoch),Nx (i.next),sB aya i.state (ayc),sB bqa i.recs (bqc),Nx (i.size)] 54),pt (bI (fa13 5)) (.cells #[Nx (i.epoch),Nx (i.next),sB (aM (fa13 15)) i.state (aN (fa13 15)),sB (aM (fa13 17)) i.recs (aN (fa13 17)),Nx (i.size)] 36)]∧(q≤i.recs.length)) (fun q=>i.recs.length-q) 0 ?_ ?_
  ·exact⟨⟨rfl,rfl,rfl,rfl,rfl,rfl⟩,rfl,(by omega)⟩
  rintro q f0 L0 ⟨⟨hs0,hs3,hs8,hs29,hs30,hs31⟩,hL,hq⟩
  subst L0
  refine dG 0 hs0 ?_
  refine dG 3 hs3 ?_
  refine dG 8 hs8 ?_
  refine dG 29 hs29 ?_
  refine dG 30 hs30 ?_
  refine dG 31 hs31 ?_
  refine cC ?_
  refine lE jI ?_
  refine aW ?_
  refine aO ?_
  refine cK _ rfl (fun hc14=> ?_) (fun hc14=> ?_)
  ·refine eT ?_
   refine aO ?_
   refine aY ?_
   refine cC ?_
   refine lv (v:= .pointer (some ((ba (aM (fa13 17))).add (q*1)))) (dK 0 (j:=q) (len:=(i.recs).length) (cap:=(aN (fa13 17))) (p:=(aM (fa13 17))) rfl rfl mY (by omega) (by omega) rfl) ?_
   obtain⟨u15,hu16⟩:∃u_,us[q]? =some u_:=⟨_,List.getElem?_eq_getElem (by omega)⟩
   refine lv (v:=u15) (bZ lV.ok rfl (sK 0 (o:=q*1) (us:=[u15]) rfl (aLq hu16) (Nat.succ_pos _))) ?_
   refine lv eR ?_
   refine lnr ?_
   refine lv cV ?_
   refine bP rfl rfl rfl (cY (vs:=[u15]) aJf.ok rfl rfl) ?_
   intro w hw
   replace hw:=hw.perm (L':=_::_::_::_::_::[]) (by exact(((((aB 4 rfl).trans (aB 4 rfl)).trans (aB 4 rfl)).trans (aB 3 rfl)).trans (aB 4 rfl)))
   obtain⟨β1,sb,kn,hw1,back⟩:=St.frame (L:=[_]) (M:=_::_::_::_::[]) hw
   refine(aBb β1 w us u15 (List.mem_of_getElem? hu16) (hul _ _ hu16) hw1).mono ?_
   rintro e w' ⟨rfl,hw'⟩
   refine⟨_,rfl,_,back _ _ hw',?_⟩
   refine aG ?_
   refine bD ?_
   refine aQ ?_
   refine aC ?_
   refine lv (v:=Nx (q+1)) (bJ rfl rfl (bU (by omega) (by omega))) ?_
   refine lE bG ?_
   refine aG ?_
   refine fpn [1,0,2,3,4] 5 ?_
   exact bT ⟨q+1,⟨⟨rfl,rfl,rfl,rfl,rfl,rfl⟩,rfl,(by omega)⟩,(show i.recs.length-(q+1)<i.recs.length-q from by omega)⟩
  refine dZ ?_
  refine aU ?_
  refine aU ?_
  refine eA ?_
  refine bD ?_
  refine aQ ?_
  refine aC ?_
  refine lv (v:=Nx (n+1)) (bJ rfl rfl (bU (by omega) (by omega))) ?_
  refine lE bG ?_
  refine aG ?_
  refine dL [false,false,false,true,false] rfl ?_
  exact bT ⟨n+1,⟨⟨rfl,rfl,rfl⟩,rfl,(by omega)⟩,(show 2-(n+1)<2-n from by omega)⟩
 refine dZ ?_
 refine aU ?_
 refine aU ?_
 refine eA ?_
 refine qF ?_
 refine lE eE ?_
 refine aW ?_
 refine bB ?_
 refine dS Try.results29 rfl ?_
 intro w hw
 exact⟨by first|rfl|simp,aF [false] rfl hw⟩
end Go.Proofs
