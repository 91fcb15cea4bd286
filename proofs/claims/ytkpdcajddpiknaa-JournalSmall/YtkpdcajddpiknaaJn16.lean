/-
 Own work; plain Lean (Jn7, Jn8, Jn9, Jn10, Jn11, Jn12, Jn15, Jn16).
-/
import Derived.Test.YtkpdcajddpiknaaJn6
set_option linter.all false
set_option maxHeartbeats 4000000
namespace Go.Proofs
open Go Go.Sl Go.Jn
instance tf77:UndC Try.prog 34 30:={}
theorem aIn:nB Try.prog 25 9 1=true:=by kernel_rfl
instance aMi:ZerC Try.prog 9 (.string ⟨#[]⟩):={}
theorem aMj:zS Try.prog 9 1 16=true:=by kernel_rfl
instance tf81:UndC Try.prog 25 9:={}
theorem tH(β:Base)(w:World)(hw:St β [] w)(J S:Nat)(i:KI)(dn:Bool)(hj:JF J S i dn β.heap):kH Try.prog 19 #[pp J 0] β w (Nx i.next):=by
 obtain⟨ps,pr,cs,cr,hJ,hst,hrc⟩:=hj
 obtain⟨_,hsl,hsm,hse⟩:=Sl.parts hst
 obtain⟨_,hrl,hrm,hre⟩:=Sl.parts hrc
 refine enter (n:=11) Try.func19 rfl Try.ntmps19 rfl ?_ hw
 refine cC ?_
 refine lE bV ?_
 refine aW ?_
 refine dX ?_
 refine aC ?_
 refine lE eP ?_
 refine gW gU (fun w β1 sb kn hw1=>oG β1 w hw1 J S (by have h0:=Cs.sub (vs:=[pp S 0]) 0 (Cs.mono _ _ _ _ sb hJ) rfl;rwa [Addr.add_zero']at h0)) ?_
 refine lE lI ?_
 refine aW ?_
 refine dI rfl ?_
 refine eT ?_
 refine cC ?_
 refine lE eP ?_
 refine lE eY ?_
 iterate 2 refine lE ofa ?_
 refine lv (v:=Nx (i.next)) (bZ sY.ok rfl (aX.imp (aX.imp (kB hJ) (fun _ h=>Cs.sub (vs:=[Nx (i.epoch),Nx (i.next),sB ps i.state (cs),sB pr i.recs (cr),Nx (i.size)]) 1 h rfl)) (fun _ h=>Cs.sub (vs:=[Nx (i.next)]) 1 h rfl))) ?_
 refine lE bV ?_
 refine aW ?_
 refine bB ?_
 refine dS Try.results19 rfl ?_
 intro w hw
 exact⟨rfl,aF [] rfl hw⟩
theorem rH(β:Base)(w:World)(hw:St β [] w)(J S:Nat)(i:KI)(dn:Bool)(hj:JF J S i dn β.heap):kH Try.prog 41 #[pp J 0] β w (Nx i.epoch):=by
 obtain⟨ps,pr,cs,cr,hJ,hst,hrc⟩:=hj
 obtain⟨_,hsl,hsm,hse⟩:=Sl.parts hst
 obtain⟨_,hrl,hrm,hre⟩:=Sl.parts hrc
 refine enter (n:=11) Try.func41 rfl Try.ntmps41 rfl ?_ hw
 refine cC ?_
 refine lE bV ?_
 refine aW ?_
 refine dX ?_
 refine aC ?_
 refine lE eP ?_
 refine gW gU (fun w β1 sb kn hw1=>oG β1 w hw1 J S (by have h0:=Cs.sub (vs:=[pp S 0]) 0 (Cs.mono _ _ _ _ sb hJ) rfl;rwa [Addr.add_zero']at h0)) ?_
 refine lE lI ?_
 refine aW ?_
 refine dI rfl ?_
 refine eT ?_
 refine cC ?_
 refine lE eP ?_
 refine lE eY ?_
 iterate 2 refine lE ofa ?_
 refine lv (v:=Nx (i.epoch)) (bZ sY.ok rfl (aX.imp (aX.imp (kB hJ) (fun _ h=>Cs.sub (vs:=[Nx (i.epoch),Nx (i.next),sB ps i.state (cs),sB pr i.recs (cr),Nx (i.size)]) 1 h rfl)) (fun _ h=>Cs.sub (vs:=[Nx (i.epoch)]) 0 h rfl))) ?_
 refine lE bV ?_
 refine aW ?_
 refine bB ?_
 refine dS Try.results41 rfl ?_
 intro w hw
 exact⟨rfl,aF [] rfl hw⟩
theorem zJ(β:Base)(w:World)(hw:St β [] w)(J S:Nat)(i:KI)(dn:Bool)(hj:JF J S i dn β.heap)(hb:i.state.length≤1048576):Calls Try.prog 42 #[pp J 0] w fun r w'=>∃p c,r= .returned (sB p i.state c)∧St β [rB p i.state c] w':=by
 obtain⟨ps,pr,cs,cr,hJ,hst,hrc⟩:=hj
 obtain⟨_,hsl,hsm,hse⟩:=Sl.parts hst
 obtain⟨_,hrl,hrm,hre⟩:=Sl.parts hrc
 refine enter (n:=12) Try.func42 rfl Try.ntmps42 rfl ?_ hw
 refine cC ?_
 refine lE fR ?_
 refine aW ?_
 refine dX ?_
 refine aC ?_
 refine lE eP ?_
 refine gW gU (fun w β1 sb kn hw1=>oG β1 w hw1 J S (by have h0:=Cs.sub (vs:=[pp S 0]) 0 (Cs.mono _ _ _ _ sb hJ) rfl;rwa [Addr.add_zero']at h0)) ?_
 refine lE lI ?_
 refine aW ?_
 refine dI rfl ?_
 refine eT ?_
 refine cC ?_
 refine lE eP ?_
 refine lE eY ?_
 iterate 2 refine lE ofa ?_
 refine lv (v:=sB ps i.state (cs)) (bZ lV.ok rfl (aX.imp (aX.imp (kB hJ) (fun _ h=>Cs.sub (vs:=[Nx (i.epoch),Nx (i.next),sB ps i.state (cs),sB pr i.recs (cr),Nx (i.size)]) 1 h rfl)) (fun _ h=>Cs.sub (vs:=[sB ps i.state (cs)]) 2 h rfl))) ?_
 refine jH (cY (vs:=[sB ps i.state (cs)]) aAo.ok rfl rfl) rfl fun w β1 sb kn hw1 back=>(lA β1 w hw1 i.state _ (by omega) (Sl.mono _ _ _ _ _ sb (⟨⟨_,_,rfl,hsl,hsm,hse⟩⟩:Sl bE _ _ i.state))).mono ?_
 rintro e w' ⟨p1,c2,rfl,hw'⟩
 refine⟨_,rfl,_,back _ _ hw',?_⟩
 refine lE fR ?_
 refine aW ?_
 refine bB ?_
 refine dS Try.results42 rfl ?_
 intro w hw
 exact⟨_,_,rfl,aF [true] rfl hw⟩
theorem uG(β:Base)(w:World)(hw:St β [] w)(J S:Nat)(i:KI)(dn:Bool)(hj:JF J S i dn β.heap)(hn:i.recs.length≤1048576)(hbs:∀b∈i.recs,b.length≤1048576):Calls Try.prog 43 #[pp J 0] w fun r w'=>∃p c,r= .returned (sB p i.recs c)∧St β [dP 30 p c i.recs] w':=by
 obtain⟨ps,pr,cs,cr,hJ,hst,hrc⟩:=hj
 obtain⟨_,hsl,hsm,hse⟩:=Sl.parts hst
 obtain⟨_,hrl,hrm,hre⟩:=Sl.parts hrc
 refine enter (n:=26) Try.func43 rfl Try.ntmps43 rfl ?_ hw
 refine cC ?_
 refine lE fR ?_
 refine aW ?_
 refine dX ?_
 refine aC ?_
 refine lE eP ?_
 refine gW gU (fun w β1 sb kn hw1=>oG β1 w hw1 J S (by have h0:=Cs.sub (vs:=[pp S 0]) 0 (Cs.mono _ _ _ _ sb hJ) rfl;rwa [Addr.add_zero']at h0)) ?_
 refine lE lI ?_
 refine aW ?_
 refine dI rfl ?_
 refine eT ?_
 refine cC ?_
 refine lE fR ?_
 refine aW ?_
 refine dX ?_
 refine iW (r:=dP 30 none 0 []) (qQ _ _) ?_
 refine aC ?_
 refine lE eP ?_
 refine lE eY ?_
 iterate 2 refine lE ofa ?_
 refine lv (v:=sB pr i.recs (cr)) (bZ aLj.ok rfl (aX.imp (aX.imp (kB hJ) (fun _ h=>Cs.sub (vs:=[Nx (i.epoch),Nx (i.next),sB ps i.state (cs),sB pr i.recs (cr),Nx (i.size)]) 1 h rfl)) (fun _ h=>Cs.sub (vs:=[sB pr i.recs (cr)]) 3 h rfl))) ?_
 refine lE fC ?_
 refine lE bG ?_
 refine aW ?_
 refine aY ?_
 refine dV (fun(x_:Nat×Option Addr×Nat) f L=>match x_ with|(k,p,c)=>(f 3=sB p ((i.recs.take k)) c∧f 13=sB pr i.recs (cr)∧f 14=Nx (i.recs.length)∧f 15=Nx (k))∧L=[dP 30 p c (i.recs.take k)]∧(k≤i.recs.length)) (fun(k,p,c)=>i.recs.length-k) (0,none,0) ?_ ?_
 ·exact⟨⟨rfl,rfl,rfl,rfl⟩,rfl,(by omega)⟩
 rintro⟨k,p,c⟩ f0 L0 ⟨⟨hs3,hs13,hs14,hs15⟩,hL,hk⟩
 subst L0
 refine dG 3 hs3 ?_
 refine dG 13 hs13 ?_
 refine dG 14 hs14 ?_
 refine dG 15 hs15 ?_
 have htl:(i.recs.take k).length≤i.recs.length:=by simp;omega
 refine cC ?_
 refine lE jI ?_
 refine aW ?_
 refine aO ?_
 refine cK _ rfl (fun hc1=> ?_) (fun hc1=> ?_)
 ·refine eT ?_
  refine aO ?_
  refine aY ?_
  refine cC ?_
  obtain⟨x2,hx3⟩:=kC i.recs k (by omega)
  obtain⟨ha4,cs5,hc6,hr7⟩:=hre _ _ hx3
  obtain⟨v8,rfl,hv9⟩:=hr7
  obtain⟨a10,c11,rfl,hl12,hm13,he14⟩:=(hv9).get
  refine lE (rN mY ha4) ?_
  refine lv (v:=sB a10 x2 (c11)) (bZ lV.ok rfl (kB hc6)) ?_
  refine lE fR ?_
  refine aW ?_
  have hbl:=hbs _ (List.mem_of_getElem? hx3)
  refine aC ?_
  iterate 2 refine lE cX ?_
  refine jH (cY (vs:=[sB a10 x2 (c11)]) aAo.ok rfl rfl) rfl fun w β1 sb kn hw1 back=>(lA β1 w hw1 x2 _ (by omega) (Sl.mono _ _ _ _ _ sb (⟨⟨_,_,rfl,by omega,by omega,he14⟩⟩:Sl bE _ _ x2))).mono ?_
  rintro e w' ⟨p15,c16,rfl,hw'⟩
  refine⟨_,rfl,_,back _ _ hw',?_⟩
  refine cF rfl rfl rfl (cO mY aAp.ok (cells:= #[sB p15 x2 c16]) rfl rfl rfl rfl) ?_
  rintro _ _ ⟨b17,rfl,rfl⟩
  refine pQ (L':=[dP 30 p c (i.recs.take k),rB p15 x2 c16,pt b17 (.cells #[sB p15 x2 c16] 30)]) (by exact(bN [2,1,0] 3 rfl (by kernel_rfl) (by kernel_rfl))) ?_
  refine cF rfl rfl rfl (lM (xs:=(i.recs.take k)) (bs:=x2) (b:=b17) rfl mY zP rfl rfl (by omega) (by omega)) ?_
  rintro _ _ ⟨rp18,rc19,rfl,rfl⟩
  refine lE fR ?_
  refine aG ?_
  refine bD ?_
  refine aQ ?_
  refine aC ?_
  refine lv (v:=Nx (k+1)) (bJ rfl rfl (bU (by omega) (by omega))) ?_
  refine lE bG ?_
  refine aG ?_
  refine dL (L':=[dP 30 rp18 rc19 ((i.recs.take k)++[x2])]) [true,false] rfl ?_
  exact bT ⟨(k+1,rp18,rc19),⟨⟨(by rw[iB hx3];rfl),rfl,rfl,rfl⟩,(by rw[iB hx3]),(by omega)⟩,(show i.recs.length-(k+1)<i.recs.length-k from by omega)⟩
 refine dZ ?_
 refine aU ?_
 refine aU ?_
 refine eA ?_
 refine qF ?_
 refine lE cX ?_
 refine lE fR ?_
 refine aW ?_
 refine bB ?_
 refine dS Try.results43 rfl ?_
 intro w hw
 rw[List.take_of_length_le (show i.recs.length≤k by omega)]at hw⊢
 exact⟨_,_,rfl,aF [true] rfl hw⟩
theorem aBj(β:Base)(w:World)(hw:St β [] w)(xs:List Bs)(v:Value)(hn:xs.length≤1048576)(hs:Sl rA β.heap v xs):Calls Try.prog 15 #[v] w fun r w'=>∃p c,r= .returned (sB p (xs.map mK) c)∧St β [row (sB p (xs.map mK) c) 9 1 (xs.map mK).length ((xs.map mK).map (fun s:ByteArray=>Value.string s))] w':=by
 obtain⟨va,vc,rfl,vl,vm,ve⟩:=hs.get
 refine enter (n:=19) Try.func15 rfl Try.ntmps15 rfl ?_ hw
 refine cC ?_
 refine lE fR ?_
 refine eJ ?_
 refine lE fR ?_
 refine aW ?_
 refine dX ?_
 refine iW (r:=row (.slice none 0 0) 9 1 0 ([].map (fun s:ByteArray=>Value.string s))) (eS _ _ _) ?_
 refine aC ?_
 refine lE cX ?_
 refine lE fC ?_
 refine lE bG ?_
 refine aW ?_
 refine aY ?_
 refine dV (fun(x_:Nat×List ByteArray×Option Addr×Nat) f L=>match x_ with|(k,ys,p,c)=>(f 3=sB p ys c∧f 6=sB va xs (vc)∧f 7=Nx (xs.length)∧f 8=Nx (k))∧L=[row (sB p ys c) 9 1 ((ys).length) (ys.map (fun s:ByteArray=>Value.string s))]∧(k≤xs.length∧ys=(xs.take k).map mK)) (fun(k,ys,p,c)=>xs.length-k) (0,[],none,0) ?_ ?_
 ·exact⟨⟨rfl,rfl,rfl,rfl⟩,rfl,⟨by omega,rfl⟩⟩
 rintro⟨k,ys,p,c⟩ f0 L0 ⟨⟨hs3,hs6,hs7,hs8⟩,hL,⟨hk,hys⟩⟩
 subst L0
 refine dG 3 hs3 ?_
 refine dG 6 hs6 ?_
 refine dG 7 hs7 ?_
 refine dG 8 hs8 ?_
 have hyl:ys.length≤xs.length:=by rw[hys];simp;omega
 refine cC ?_
 refine lE jI ?_
 refine aW ?_
 refine aO ?_
 refine cK _ rfl (fun hc1=> ?_) (fun hc1=> ?_)
 ·refine eT ?_
  refine aO ?_
  refine aY ?_
  refine cC ?_
  obtain⟨x2,hx3⟩:=kC xs k (by omega)
  obtain⟨ha4,cs5,hc6,hr7⟩:=ve _ _ hx3
  obtain⟨v8,rfl,hv9⟩:=hr7
  obtain⟨a10,c11,rfl,hl12,hm13,he14⟩:=(hv9).get
  refine lE (rN mY ha4) ?_
  refine lv (v:=sB a10 x2 (c11)) (bZ lV.ok rfl (kB hc6)) ?_
  refine lE fR ?_
  refine lnr ?_
  iterate 2 refine lE cX ?_
  refine lv (v:= .string (mK x2)) (jO (a:=a10) (bs:=x2) (m:=x2.length) (c:=c11) rfl (by first|rfl|simp) mM.ok tM tf7 (aX.of_base (bO.mono _ _ _) he14)) ?_
  refine cF rfl rfl rfl (cO aIn aMi.ok (cells:= #[.string (mK x2)]) rfl rfl rfl rfl) ?_
  rintro _ _ ⟨b15,rfl,rfl⟩
  refine cF rfl rfl rfl (cG (enc:=(fun s:ByteArray=>Value.string s)) 1 aFy aIn aMj (v:=sB p ys c) (xs:=ys) (ys:=[mK x2]) (ao:=some ⟨b15,0,none⟩) (c:=1) rfl rfl (by first|rfl|simp) rfl (by first|rfl|simp) (fO 0 (xs:=[mK x2]) rfl) (by first|omega|(simp only[List.length_append,List.length_nil,List.length_cons,aL]at*;omega)) (by first|omega|(simp only[List.length_append,List.length_nil,List.length_cons,aL]at*;omega))) ?_
  rintro _ _ ⟨rp16,rc17,rfl,rfl⟩
  refine lE fR ?_
  refine aG ?_
  refine bD ?_
  refine aQ ?_
  refine aC ?_
  refine lv (v:=Nx (k+1)) (bJ rfl rfl (bU (by omega) (by omega))) ?_
  refine lE bG ?_
  refine aG ?_
  refine dL [false,true] rfl ?_
  exact bT ⟨(k+1,ys++[mK x2],rp16,rc17),⟨⟨rfl,rfl,rfl,rfl⟩,rfl,⟨by omega,by rw[hys,iB hx3];simp⟩⟩,(show xs.length-(k+1)<xs.length-k from by omega)⟩
 refine dZ ?_
 refine aU ?_
 refine aU ?_
 refine eA ?_
 refine qF ?_
 refine lE cX ?_
 refine lE fR ?_
 refine aW ?_
 refine bB ?_
 refine dS Try.results15 rfl ?_
 intro w hw
 rw[List.take_of_length_le (show xs.length≤k by omega)]at hys
 subst hys
 exact⟨_,_,rfl,aF [true] rfl hw⟩
theorem aFt(β:Base)(w:World)(hw:St β [] w)(xs ys:List ByteArray)(v u:Value)(hx:Sl aBx β.heap v xs)(hy:Sl aBx β.heap u ys):kH Try.prog 14 #[v,u] β w (.bool (decide (xs=ys))):=by
 obtain⟨va,vc,rfl,vl,vm,ve⟩:=hx.get
 obtain⟨ua,uc,rfl,ul,um,ue⟩:=hy.get
 refine enter (n:=26) Try.func14 rfl Try.ntmps14 rfl ?_ hw
 refine cC ?_
 refine lE eE ?_
 refine aW ?_
 refine dX ?_
 refine aC ?_
 refine lE cX ?_
 refine lE fC ?_
 refine lE cX ?_
 refine lE fC ?_
 refine lE gO ?_
 refine aW ?_
 refine cK _ rfl (fun hc1=> ?_) (fun hc1=> ?_)
 ·refine cC ?_
  refine lE eE ?_
  refine aW ?_
  refine bB ?_
  refine aK ?_
  refine dS Try.results14 rfl ?_
  intro w hw
  exact⟨iD (fun h=>by subst h;omega),aF [] rfl hw⟩
 refine eT ?_
 refine dX ?_
 refine aC ?_
 refine lE bV ?_
 refine aW ?_
 refine aY ?_
 refine dV (fun(k:Nat) f L=>(f 0=sB va xs (vc)∧f 1=sB ua ys (uc)∧f 5=Nx (k))∧L=[]∧(k≤xs.length∧xs.take k=ys.take k)) (fun k=>xs.length-k) 0 ?_ ?_
 ·exact⟨⟨rfl,rfl,rfl⟩,rfl,⟨by omega,rfl⟩⟩
 rintro k f0 L0 ⟨⟨hs0,hs1,hs5⟩,hL,⟨hp1,hp2⟩⟩
 subst L0
 refine dG 0 hs0 ?_
 refine dG 1 hs1 ?_
 refine dG 5 hs5 ?_
 refine dX ?_
 refine aC ?_
 refine lE bG ?_
 refine lE cX ?_
 refine lE fC ?_
 refine lE jI ?_
 refine aW ?_
 refine cK _ rfl (fun hc2=> ?_) (fun hc2=> ?_)
 ·refine eT ?_
  refine aO ?_
  refine aY ?_
  refine aO ?_
  refine eF (by kernel_rfl) (by kernel_rfl) ?_
  refine qE cX ?_
  refine qE bG ?_
  obtain⟨x3,hx4⟩:=kC xs k (by omega)
  obtain⟨ha5,cs6,hc7,rfl⟩:=ve _ _ hx4
  refine qE (rN aIn ha5) ?_
  refine eV (v:= .string (x3)) rfl rfl rfl (bZ tf6.ok rfl (kB hc7)) ?_
  refine qE cX ?_
  refine qE bG ?_
  obtain⟨x9,hx10⟩:=kC ys k (by omega)
  obtain⟨ha11,cs12,hc13,rfl⟩:=ue _ _ hx10
  refine qE (rN aIn ha11) ?_
  refine eV (v:= .string (x9)) rfl rfl rfl (bZ tf6.ok rfl (kB hc13)) ?_
  refine eV (v:= .bool (decide (x3≠x9))) rfl rfl rfl (aAw (a:=x3) (b:=x9) rfl rfl) ?_
  refine fW ?_
  refine aQ ?_
  refine cK _ rfl (fun hc15=> ?_) (fun hc15=> ?_)
  ·refine cC ?_
   refine lE eE ?_
   refine aW ?_
   refine bB ?_
   refine bH ?_
   refine aK ?_
   refine aK ?_
   refine bH ?_
   refine aK ?_
   refine dS Try.results14 rfl ?_
   intro w hw
   exact⟨iD (wT hx4 hx10 hc15),aF [] rfl hw⟩
  refine cM ?_
  refine bD ?_
  refine aQ ?_
  refine aC ?_
  refine lE bG ?_
  refine lv (v:=Nx (k+1)) (bJ rfl rfl (bU (by omega) (by omega))) ?_
  refine lE bV ?_
  refine aG ?_
  exact bT ⟨k+1,⟨⟨rfl,rfl,rfl⟩,rfl,⟨by omega,rW hx4 (by rw[hx10,Decidable.not_not.1 hc15]) hp2⟩⟩,(show xs.length-(k+1)<xs.length-k from by omega)⟩
 refine dZ ?_
 refine aU ?_
 refine aU ?_
 refine eA ?_
 refine qF ?_
 refine lE eE ?_
 refine aW ?_
 refine bB ?_
 refine dS Try.results14 rfl ?_
 intro w hw
 exact⟨zX (uR hp2 (by omega) (by omega)),aF [] rfl hw⟩
open Go Go.Sl Go.Jn
instance aLm:CfC Try.prog 41:={}
instance aKg:CfC Try.prog 19:={}
instance aLn:CfC Try.prog 42:={}
instance aLo:CfC Try.prog 43:={}
instance aLp:CfC Try.prog 15:={}
instance aMk:CfC Try.prog 14:={}
instance sN:CfC Try.prog 17:={}
instance zK:CfC Try.prog 20:={}
instance pM:CfC Try.prog 40:={}
open Go Go.Sl Go.Jn
def nI:KS:=⟨[],[],[],-1⟩
def fQ:KI:=⟨0,0,[],[],0⟩
def aK1:KS:=aV nI 0 0
def aK2:KS:=gK aK1 fQ [97,98]
def aI2:KI:=hG fQ [97,98]
def kN:KS:=iE aK2 1 1 [115]
def aI3:KI:=nF aI2 [115]
def aT0:KS:=⟨[],[],[],10⟩
def aT1:KS:=aV aT0 0 0
def aT2:KS:=gK aT1 fQ [97,98]
def aT3:KS:={aT2 with power:=1}
def aT4:KS:=aV aT3 0 0
instance (k:KS)(m:Nat):Decidable (k.fits m):=by unfold KS.fits;infer_instance
theorem awb{xs:Bs}{k:Nat}{c:UInt8}(hc:xs[k]? =some c)(h:xs[k]? =some 1):((c).toNat:Int)=(1:Int):=by
 rw[h]at hc;injection hc with hc;subst hc;rfl
theorem yO{P:Program}{ro:Option Nat}{n:Nat}{ds:List Deferred}{β:Base}{Q:Exit→Act→World→Prop}{f:Fm}{L:List cE}{ops:Array Oper}{rest:List Oper}{S:Nat}{k:KS}{M:List cE}(hL:L=aS S k::M)
 (K:∀pH pA pB cH cA cB,cQ P ro n ds β ops Q rest f (stL S pH pA pB cH cA cB k++M)):cQ P ro n ds β ops Q rest f L:=fun a w ha hw=>by
 subst hL
 obtain⟨pH,pA,pB,cH,cA,cB,h⟩:=St.openStore hw
 exact K pH pA pB cH cA cB a w ha h
theorem mL:stB Try.prog 32 [(0,1),(1,1),(2,1),(3,1)]=true:=by kernel_rfl
instance lN:ZerC Try.prog 32 (.agg #[.slice none 0 0,.slice none 0 0,.slice none 0 0,.int .i64 (0)]):={}
theorem nL(β:Base)(w:World)(hw:St β [] w):kH Try.prog 12 #[] β w (.bool true):=by
 refine enter (n:=157) Try.func12 rfl Try.ntmps12 rfl ?_ hw
 refine cC ?_
 refine lE eE ?_
 refine eJ ?_
 refine lv (v:= .agg #[.slice none 0 0,.slice none 0 0,.slice none 0 0,.int .i64 (-1)]) (dW lN.ok mL (vs:=[(3,.int .i64 (-1))]) (cells:= #[.slice none 0 0,.slice none 0 0,.slice none 0 0,.int .i64 (-1)]) rfl rfl) ?_
 refine pD fun b1=> ?_
 refine lE nV ?_
 refine aW ?_
 refine aO ?_
 refine iW (r:=row (.slice none 0 0) 5 1 0 (BX [])) (eS _ _ _) ?_
 refine iW (r:=row (.slice none 0 0) 5 1 0 (BX [])) (eS _ _ _) ?_
 refine iW (r:=row (.slice none 0 0) 5 1 0 (BX [])) (eS _ _ _) ?_
 refine eG [3,0,1,2] 4 rfl (by kernel_rfl) ?_
 refine bW (S:=b1) (k:=nI) (pH:=none) (pA:=none) (pB:=none) (cH:=0) (cA:=0) (cB:=0) (M:=([])) (by rfl) ?_
 refine aC ?_
 refine lE eP ?_
 refine bP rfl rfl rfl (cY (vs:=[pp b1 0]) pM.ok rfl rfl) ?_
 intro w hw
 obtain⟨β1,sb,kn,hw1,back⟩:=St.frame (L:=[_]) (M:=[]) hw
 refine(oO β1 w b1 nI (by decide+kernel) (by decide) fQ (by decide+kernel) (by decide+kernel) hw1).mono ?_
 rintro e w' ⟨J2,rfl,hw'⟩
 refine⟨_,rfl,_,back _ _ hw',?_⟩
 refine lE iK ?_
 refine lE zU ?_
 refine lE kK ?_
 refine lE nV ?_
 refine lE bV ?_
 refine aW ?_
 refine dX ?_
 refine aC ?_
 refine lE bG ?_
 refine lE gO ?_
 refine lE dQ ?_
 refine gE eP ?_
 refine fN (v:= .bool false) rfl rfl rfl rfl rfl (eL (p:=some (⟨J2,0,none⟩)) rfl rfl rX) ?_
 refine lE cR ?_
 refine aW ?_
 refine dI rfl ?_
 refine eT ?_
 refine aO ?_
 refine lR (L':=[dC J2 b1 fQ false,aS b1 aK1]) (by rfl) ?_
 refine aC ?_
 refine lE eP ?_
 refine cF rfl rfl rfl (cO bQ iG.ok (cells:= #[.int .u8 (97),.int .u8 (98)]) rfl rfl rfl rfl) ?_
 rintro _ _ ⟨b3,rfl,rfl⟩
 refine cF rfl rfl rfl (lU 0 rfl rfl mM.ok tM) ?_
 rintro _ _ ⟨rfl,rfl⟩
 refine bP rfl rfl rfl (cY (vs:=[pp J2 0,.slice (some ⟨b3,0,none⟩) 2 2]) sN.ok rfl rfl) ?_
 intro w hw
 replace hw:=hw.perm (L':=_::_::_::[]) (by exact(((aB 0 rfl).trans (aB 2 rfl)).trans (aB 2 rfl)))
 obtain⟨β1,sb,kn,hw1,back⟩:=St.frame (L:=[_,_]) (M:=_::[]) hw
 refine(rC β1 w J2 b1 aK1 fQ [(97:UInt8),(98:UInt8)] (by decide) (by decide+kernel) (by decide) (by decide) (by decide) (by decide) (by decide) (by decide+kernel) _ (⟨⟨_,_,rfl,by simp,by simp,kn _ (fO 0 (xs:=[(97:UInt8),(98:UInt8)]) rfl)⟩⟩:Sl bE _ _ _) hw1).mono ?_
 rintro e w' ⟨rfl,hw'⟩
 refine⟨_,rfl,_,back _ _ hw',?_⟩
 refine lE iK ?_
 iterate 2 refine lE kK ?_
 iterate 2 refine lE bV ?_
 refine aW ?_
 refine dX ?_
 refine lR (L':=[dC J2 b1 aI2 false,aS b1 aK2,pt b3 (.cells #[.int .u8 (97),.int .u8 (98)] 5 (2,2+1))]) (by rfl) ?_
 have hla:aK2.a.length=26:=by decide+kernel
 refine eG [1,0,2] 3 rfl (by kernel_rfl) ?_
 refine cI rfl (fun pH4 pA5 pB6 cH7 cA8 cB9=> ?_)
 refine bA 1 rfl (fun hcl10 hcm11=> ?_)
 refine bA 2 rfl (fun hcl12 hcm13=> ?_)
 refine bA 3 rfl (fun hcl14 hcm15=> ?_)
 refine aC ?_
 refine lE bG ?_
 refine lE gO ?_
 refine lE dQ ?_
 refine gE bG ?_
 refine gE gO ?_
 refine lE cR ?_
 refine lE dQ ?_
 refine cD (s:=33) rfl (fun h=> ?_) (fun h=> ?_)
 exact absurd h (Decidable.not_not.2 (by decide))
 refine gE eP ?_
 refine gE eY ?_
 refine gE bM ?_
 refine gE (fA 0) ?_
 refine gE fC ?_
 refine gE gO ?_
 refine lE cR ?_
 refine lE dQ ?_
 refine cD (s:=41) rfl (fun h=> ?_) (fun h=> ?_)
 exact absurd h (by omega)
 refine gE eP ?_
 refine gE eY ?_
 refine gE bM ?_
 refine gE (fA 0) ?_
 refine fN (v:= .slice pA5 (18) cA8) rfl rfl rfl rfl rfl (dF (a:=pA5) (len:=(aK2.a).length) (cap:=cA8) (h:=18) bQ rfl rfl (by omega)) ?_
 refine fN (v:= .string (mK (aK2.a.take 18))) rfl rfl rfl rfl rfl (jO (a:=pA5) (bs:=(aK2.a.take 18)) (m:=18) (c:=cA8) rfl (by first|rfl|simp) mM.ok tM tf7 (aX.imp (iF 2 rfl) fun _ h=>bO.take _ h)) ?_
 refine fN (v:= .bool (decide ((mK (aK2.a.take 18))≠(⟨#[0,0,0,2,255,255,255,253,0,0,0,0,0,0,0,0,97,98]⟩)))) rfl rfl rfl rfl rfl (aAw (a:=(mK (aK2.a.take 18))) (b:=(⟨#[0,0,0,2,255,255,255,253,0,0,0,0,0,0,0,0,97,98]⟩)) rfl rfl) ?_
 refine lE cR ?_
 refine aW ?_
 refine cK _ rfl (fun hc16=> ?_) (fun hc16=> ?_)
 ·exact absurd hc16 (Decidable.not_not.2 (by decide+kernel))
 refine eT ?_
 refine dX ?_
 refine eG [0,1,2,3,4,5] 6 rfl (by kernel_rfl) ?_
 refine bW (S:=b1) (k:=aK2) (pH:=pH4) (pA:=pA5) (pB:=pB6) (cH:=cH7) (cA:=cA8) (cB:=cB9) (M:=(dC J2 b1 aI2 false::pt b3 (.cells #[.int .u8 (97),.int .u8 (98)] 5 (2,2+1))::[])) rfl ?_
 have hlb:kN.b.length=25:=by decide+kernel
 have hlh:kN.head.length=32:=by decide+kernel
 refine aC ?_
 refine lE eP ?_
 refine cF rfl rfl rfl (cO bQ iG.ok (cells:= #[.int .u8 (115)]) rfl rfl rfl rfl) ?_
 rintro _ _ ⟨b17,rfl,rfl⟩
 refine cF rfl rfl rfl (lU 0 rfl rfl mM.ok tM) ?_
 rintro _ _ ⟨rfl,rfl⟩
 refine bP rfl rfl rfl (cY (vs:=[pp J2 0,.slice (some ⟨b17,0,none⟩) 1 1]) zK.ok rfl rfl) ?_
 intro w hw
 replace hw:=hw.perm (L':=_::_::_::_::[]) (by exact((((aB 3 rfl).trans (aB 1 rfl)).trans (aB 2 rfl)).trans (aB 3 rfl)))
 obtain⟨β1,sb,kn,hw1,back⟩:=St.frame (L:=[_,_]) (M:=_::_::[]) hw
 refine(rD β1 w J2 b1 aK2 aI2 [(115:UInt8)] (by decide) (by decide+kernel) (by decide) (by decide+kernel) _ (⟨⟨_,_,rfl,by simp,by simp,kn _ (fO 0 (xs:=[(115:UInt8)]) rfl)⟩⟩:Sl bE _ _ _) hw1).mono ?_
 rintro e w' ⟨rfl,hw'⟩
 refine⟨_,rfl,_,back _ _ hw',?_⟩
 refine lre ?_
 refine pQ (L':=[aS b1 kN,dC J2 b1 aI3 false,pt b17 (.cells #[.int .u8 (115)] 5 (1,1+1)),pt b3 (.cells #[.int .u8 (97),.int .u8 (98)] 5 (2,2+1))]) (by exact(bN [1,0,2,3] 4 rfl (by kernel_rfl) (by kernel_rfl))) ?_
 refine yO rfl (fun pH18 pA19 pB20 cH21 cA22 cB23=> ?_)
 refine lE gO ?_
 refine lE dQ ?_
 refine gE eP ?_
 refine gE eY ?_
 refine gE bM ?_
 refine gE (fA 0) ?_
 refine gE fC ?_
 refine gE gO ?_
 refine lE cR ?_
 refine lE dQ ?_
 refine cD (s:=63) rfl (fun h=> ?_) (fun h=> ?_)
 exact absurd h (by omega)
 refine gE eP ?_
 refine gE eY ?_
 refine gE bM ?_
 refine gE (fA 0) ?_
 refine fN (v:= .pointer (some ((ba pB20).add (15*1)))) rfl rfl rfl rfl rfl (dK 3 (j:=15) (len:=(kN.b).length) (cap:=cB23) (p:=pB20) rfl rfl bQ (by omega) (by omega) rfl) ?_
 obtain⟨c24,hc25⟩:∃c,kN.b[15]? =some c:=⟨_,List.getElem?_eq_getElem (by omega)⟩
 refine fN (v:=Bx (c24)) rfl rfl rfl rfl rfl (bZ gQ.ok rfl (sK 3 (o:=15*1) (us:=[Bx (c24)]) rfl (aDo hc25) (Nat.succ_pos _))) ?_
 refine gE gO ?_
 refine lE cR ?_
 refine lE dQ ?_
 refine cD (s:=72) rfl (fun h=> ?_) (fun h=> ?_)
 exact absurd h (Decidable.not_not.2 (awb hc25 (by decide+kernel)))
 refine gE eP ?_
 refine gE eY ?_
 refine gE bM ?_
 refine gE (fA 0) ?_
 refine gE fC ?_
 refine gE gO ?_
 refine lE cR ?_
 refine lE dQ ?_
 refine cD (s:=80) rfl (fun h=> ?_) (fun h=> ?_)
 exact absurd h (by omega)
 refine gE eP ?_
 refine gE eY ?_
 refine gE bM ?_
 refine gE (fA 0) ?_
 refine fN (v:= .pointer (some ((ba pH18).add (23*1)))) rfl rfl rfl rfl rfl (dK 1 (j:=23) (len:=(kN.head).length) (cap:=cH21) (p:=pH18) rfl rfl bQ (by omega) (by omega) rfl) ?_
 obtain⟨c26,hc27⟩:∃c,kN.head[23]? =some c:=⟨_,List.getElem?_eq_getElem (by omega)⟩
 refine fN (v:=Bx (c26)) rfl rfl rfl rfl rfl (bZ gQ.ok rfl (sK 1 (o:=23*1) (us:=[Bx (c26)]) rfl (aDo hc27) (Nat.succ_pos _))) ?_
 refine gE gO ?_
 refine lE cR ?_
 refine lE dQ ?_
 refine cD (s:=89) rfl (fun h=> ?_) (fun h=> ?_)
 exact absurd h (Decidable.not_not.2 (awb hc27 (by decide+kernel)))
 refine gE eP ?_
 refine eQ rfl rfl rfl rfl rfl (cY (vs:=[pp J2 0]) aKg.ok rfl rfl) ?_
 intro w hw
 obtain⟨β1,sb,kn,hw1,back⟩:=St.frame_all hw
 refine(tH β1 w hw1 J2 b1 aI3 false (kn _ (aX.of_res 4 rfl (JF.mono _ _ _ _) fun _ h=>iX h))).mono ?_
 rintro e w' ⟨rfl,hw'⟩
 refine⟨_,rfl,_,back _ _ hw',?_⟩
 refine gE gO ?_
 refine lE cR ?_
 refine lE dQ ?_
 refine cD (s:=94) rfl (fun h=> ?_) (fun h=> ?_)
 exact absurd h (Decidable.not_not.2 (by decide))
 refine gE eP ?_
 refine eQ rfl rfl rfl rfl rfl (cY (vs:=[pp J2 0]) aLm.ok rfl rfl) ?_
 intro w hw
 obtain⟨β1,sb,kn,hw1,back⟩:=St.frame_all hw
 refine(rH β1 w hw1 J2 b1 aI3 false (kn _ (aX.of_res 4 rfl (JF.mono _ _ _ _) fun _ h=>iX h))).mono ?_
 rintro e w' ⟨rfl,hw'⟩
 refine⟨_,rfl,_,back _ _ hw',?_⟩
 refine gE gO ?_
 refine lE cR ?_
 refine aW ?_
 refine cK _ rfl (fun hc28=> ?_) (fun hc28=> ?_)
 ·exact absurd hc28 (Decidable.not_not.2 (by decide))
 refine eT ?_
 refine cC ?_
 refine lv (v:= .agg #[.slice none 0 0,.slice none 0 0,.slice none 0 0,.int .i64 (10)]) (dW lN.ok mL (vs:=[(3,.int .i64 (10))]) (cells:= #[.slice none 0 0,.slice none 0 0,.slice none 0 0,.int .i64 (10)]) rfl rfl) ?_
 refine pD fun b29=> ?_
 refine lE nV ?_
 refine aW ?_
 refine aO ?_
 refine iW (r:=row (.slice none 0 0) 5 1 0 (BX [])) (eS _ _ _) ?_
 refine iW (r:=row (.slice none 0 0) 5 1 0 (BX [])) (eS _ _ _) ?_
 refine iW (r:=row (.slice none 0 0) 5 1 0 (BX [])) (eS _ _ _) ?_
 refine eG [3,0,1,2,4,5,6,7,8,9,10] 11 rfl (by kernel_rfl) ?_
 refine bW (S:=b29) (k:=aT0) (pH:=none) (pA:=none) (pB:=none) (cH:=0) (cA:=0) (cB:=0) (M:=(pt b1 (.cells #[sB pH18 kN.head cH21,sB pA19 kN.a cA22,sB pB20 kN.b cB23,Ix (kN.power)] 32)::rB pH18 kN.head cH21::rB pA19 kN.a cA22::rB pB20 kN.b cB23::dC J2 b1 aI3 false::pt b17 (.cells #[.int .u8 (115)] 5 (1,1+1))::pt b3 (.cells #[.int .u8 (97),.int .u8 (98)] 5 (2,2+1))::[])) (by rfl) ?_
 refine aC ?_
 refine lE eP ?_
 refine bP rfl rfl rfl (cY (vs:=[pp b29 0]) pM.ok rfl rfl) ?_
 intro w hw
 obtain⟨β1,sb,kn,hw1,back⟩:=St.frame (L:=[_]) (M:=_::_::_::_::_::_::_::[]) hw
 refine(oO β1 w b29 aT0 (by decide+kernel) (by decide) fQ (by decide+kernel) (by decide+kernel) hw1).mono ?_
 rintro e w' ⟨J30,rfl,hw'⟩
 refine⟨_,rfl,_,back _ _ hw',?_⟩
 refine lE iK ?_
 refine lE zU ?_
 refine lE kK ?_
 refine lE nV ?_
 refine lE bV ?_
 refine aW ?_
 refine dX ?_
 refine aC ?_
 refine lE bG ?_
 refine lE gO ?_
 refine aW ?_
 refine dI rfl ?_
 refine eT ?_
 refine aO ?_
 refine lR (L':=[dC J30 b29 fQ false,aS b29 aT1,pt b1 (.cells #[sB pH18 kN.head cH21,sB pA19 kN.a cA22,sB pB20 kN.b cB23,Ix (kN.power)] 32),rB pH18 kN.head cH21,rB pA19 kN.a cA22,rB pB20 kN.b cB23,dC J2 b1 aI3 false,pt b17 (.cells #[.int .u8 (115)] 5 (1,1+1)),pt b3 (.cells #[.int .u8 (97),.int .u8 (98)] 5 (2,2+1))]) (by rfl) ?_
 refine aC ?_
 refine lE eP ?_
 refine cF rfl rfl rfl (cO bQ iG.ok (cells:= #[.int .u8 (97),.int .u8 (98)]) rfl rfl rfl rfl) ?_
 rintro _ _ ⟨b31,rfl,rfl⟩
 refine cF rfl rfl rfl (lU 0 rfl rfl mM.ok tM) ?_
 rintro _ _ ⟨rfl,rfl⟩
 refine bP rfl rfl rfl (cY (vs:=[pp J30 0,.slice (some ⟨b31,0,none⟩) 2 2]) sN.ok rfl rfl) ?_
 intro w hw
 replace hw:=hw.perm (L':=_::_::_::_::_::_::_::_::_::_::[]) (by exact((((((((((aB 9 rfl).trans (aB 9 rfl)).trans (aB 9 rfl)).trans (aB 9 rfl)).trans (aB 9 rfl)).trans (aB 9 rfl)).trans (aB 9 rfl)).trans (aB 7 rfl)).trans (aB 9 rfl)).trans (aB 9 rfl)))
 obtain⟨β1,sb,kn,hw1,back⟩:=St.frame (L:=[_,_]) (M:=_::_::_::_::_::_::_::_::[]) hw
 refine(xV β1 w J30 b29 aT1 fQ [(97:UInt8),(98:UInt8)] (by decide) (by decide+kernel) (by decide) (by decide) (by decide) (by decide) (by decide) (by decide+kernel) _ (⟨⟨_,_,rfl,by simp,by simp,kn _ (fO 0 (xs:=[(97:UInt8),(98:UInt8)]) rfl)⟩⟩:Sl bE _ _ _) hw1).mono ?_
 rintro e w' ⟨rfl,hw'⟩
 refine⟨_,rfl,_,back _ _ hw',?_⟩
 refine lE iK ?_
 iterate 2 refine lE kK ?_
 refine lE bV ?_
 refine aW ?_
 refine dX ?_
 refine lR (L':=[dC J30 b29 fQ true,aS b29 aT2,pt b31 (.cells #[.int .u8 (97),.int .u8 (98)] 5 (2,2+1)),pt b1 (.cells #[sB pH18 kN.head cH21,sB pA19 kN.a cA22,sB pB20 kN.b cB23,Ix (kN.power)] 32),rB pH18 kN.head cH21,rB pA19 kN.a cA22,rB pB20 kN.b cB23,dC J2 b1 aI3 false,pt b17 (.cells #[.int .u8 (115)] 5 (1,1+1)),pt b3 (.cells #[.int .u8 (97),.int .u8 (98)] 5 (2,2+1))]) (by rfl) ?_
 have hlt:aT2.a.length=10:=by decide+kernel
 refine eG [1,0,2,3,4,5,6,7,8,9] 10 rfl (by kernel_rfl) ?_
 refine cI rfl (fun pH32 pA33 pB34 cH35 cA36 cB37=> ?_)
 refine bA 1 rfl (fun hcl38 hcm39=> ?_)
 refine bA 2 rfl (fun hcl40 hcm41=> ?_)
 refine bA 3 rfl (fun hcl42 hcm43=> ?_)
 refine aC ?_
 refine lE bG ?_
 refine lE gO ?_
 refine lE dQ ?_
 refine gE eP ?_
 refine gE eY ?_
 refine gE bM ?_
 refine gE (fA 0) ?_
 refine gE fC ?_
 refine gE gO ?_
 refine lE cR ?_
 refine aW ?_
 refine cK _ rfl (fun hc44=> ?_) (fun hc44=> ?_)
 ·exact absurd hc44 (by omega)
 refine eT ?_
 refine dX ?_
 refine eG [0,1,2,3,4,5,6,7,8,9,10,11,12] 13 rfl (by kernel_rfl) ?_
 refine bW (S:=b29) (k:=aT2) (pH:=pH32) (pA:=pA33) (pB:=pB34) (cH:=cH35) (cA:=cA36) (cB:=cB37) (M:=(dC J30 b29 fQ true::pt b31 (.cells #[.int .u8 (97),.int .u8 (98)] 5 (2,2+1))::pt b1 (.cells #[sB pH18 kN.head cH21,sB pA19 kN.a cA22,sB pB20 kN.b cB23,Ix (kN.power)] 32)::rB pH18 kN.head cH21::rB pA19 kN.a cA22::rB pB20 kN.b cB23::dC J2 b1 aI3 false::pt b17 (.cells #[.int .u8 (115)] 5 (1,1+1))::pt b3 (.cells #[.int .u8 (97),.int .u8 (98)] 5 (2,2+1))::[])) rfl ?_
 refine aC ?_
 refine lE eP ?_
 refine bP rfl rfl rfl (cY (vs:=[pp b29 0]) pM.ok rfl rfl) ?_
 intro w hw
 obtain⟨β1,sb,kn,hw1,back⟩:=St.frame (L:=[_]) (M:=_::_::_::_::_::_::_::_::_::[]) hw
 refine(yU β1 w b29 aT2 (by decide+kernel) (by decide+kernel) fQ (by decide+kernel) (by decide+kernel) hw1).mono ?_
 rintro e w' ⟨rfl,hw'⟩
 refine⟨_,rfl,_,back _ _ hw',?_⟩
 refine lE iK ?_
 refine lE zU ?_
 refine lE kK ?_
 refine lE bV ?_
 refine eJ ?_
 refine lE bG ?_
 refine lE gO ?_
 refine aW ?_
 refine dI rfl ?_
 refine eT ?_
 refine aO ?_
 refine eG [0,1,2,3,4,5,6,7,8,9] 10 rfl (by kernel_rfl) ?_
 refine cI rfl (fun pH45 pA46 pB47 cH48 cA49 cB50=> ?_)
 refine bA 1 rfl (fun hcl51 hcm52=> ?_)
 refine bA 2 rfl (fun hcl53 hcm54=> ?_)
 refine bA 3 rfl (fun hcl55 hcm56=> ?_)
 refine aC ?_
 refine lE eP ?_
 refine lE eY ?_
 refine lE bM ?_
 refine lu (mS 0 (#[sB pH45 aT2.head cH48,sB pA46 aT2.a cA49,sB pB47 aT2.b cB50,.int .i64 (1)])) ?_
 refine aW ?_
 refine aO ?_
 refine eG [0,1,2,3,4,5,6,7,8,9,10,11,12] 13 rfl (by kernel_rfl) ?_
 refine bW (S:=b29) (k:=aT3) (pH:=pH45) (pA:=pA46) (pB:=pB47) (cH:=cH48) (cA:=cA49) (cB:=cB50) (M:=(dC J30 b29 fQ true::pt b31 (.cells #[.int .u8 (97),.int .u8 (98)] 5 (2,2+1))::pt b1 (.cells #[sB pH18 kN.head cH21,sB pA19 kN.a cA22,sB pB20 kN.b cB23,Ix (kN.power)] 32)::rB pH18 kN.head cH21::rB pA19 kN.a cA22::rB pB20 kN.b cB23::dC J2 b1 aI3 false::pt b17 (.cells #[.int .u8 (115)] 5 (1,1+1))::pt b3 (.cells #[.int .u8 (97),.int .u8 (98)] 5 (2,2+1))::[])) rfl ?_
 refine aC ?_
 refine lE eP ?_
 refine bP rfl rfl rfl (cY (vs:=[pp b29 0]) pM.ok rfl rfl) ?_
 intro w hw
 obtain⟨β1,sb,kn,hw1,back⟩:=St.frame (L:=[_]) (M:=_::_::_::_::_::_::_::_::_::[]) hw
 refine(oO β1 w b29 aT3 (by decide+kernel) (by decide+kernel) fQ (by decide+kernel) (by decide+kernel) hw1).mono ?_
 rintro e w' ⟨J57,rfl,hw'⟩
 refine⟨_,rfl,_,back _ _ hw',?_⟩
 refine lE iK ?_
 refine lE zU ?_
 refine lE kK ?_
 refine lE bV ?_
 refine aW ?_
 refine aO ?_
 refine lR (L':=[dC J57 b29 fQ false,aS b29 aT4,dC J30 b29 fQ true,pt b31 (.cells #[.int .u8 (97),.int .u8 (98)] 5 (2,2+1)),pt b1 (.cells #[sB pH18 kN.head cH21,sB pA19 kN.a cA22,sB pB20 kN.b cB23,Ix (kN.power)] 32),rB pH18 kN.head cH21,rB pA19 kN.a cA22,rB pB20 kN.b cB23,dC J2 b1 aI3 false,pt b17 (.cells #[.int .u8 (115)] 5 (1,1+1)),pt b3 (.cells #[.int .u8 (97),.int .u8 (98)] 5 (2,2+1))]) (by rfl) ?_
 have hl4:aT4.a.length=0:=by decide+kernel
 have hp4:aT4.power=0:=by decide+kernel
 refine eG [1,0,2,3,4,5,6,7,8,9,10] 11 rfl (by kernel_rfl) ?_
 refine cI rfl (fun pH58 pA59 pB60 cH61 cA62 cB63=> ?_)
 refine bA 1 rfl (fun hcl64 hcm65=> ?_)
 refine bA 2 rfl (fun hcl66 hcm67=> ?_)
 refine bA 3 rfl (fun hcl68 hcm69=> ?_)
 refine aC ?_
 refine lE bG ?_
 refine lE dR ?_
 refine lE dQ ?_
 refine gE eP ?_
 refine gE eY ?_
 refine gE bM ?_
 refine gE (fA 0) ?_
 refine gE fC ?_
 refine gE dR ?_
 refine lE dY ?_
 refine lE dQ ?_
 refine cD (s:=150) rfl (fun h=> ?_) (fun h=> ?_)
 rotate_left;exact absurd (by omega) h
 refine gE eP ?_
 refine gE eY ?_
 refine gE bM ?_
 refine gE (eU 0) ?_
 refine gE dR ?_
 refine lE dY ?_
 refine lE eE ?_
 refine aW ?_
 refine bB ?_
 refine dS Try.results12 rfl ?_
 intro w hw
 exact⟨by rw[hp4];rfl,aF [false,false,false,false,false,false,false,false,false,false,false,false,false,false] rfl hw⟩
open Go Go.Sl Go.Jn
instance zL:CfC Try.prog 12:={}
open Go Go.Sl Go.Jn
open Go Go.Sl Go.Jn
open Go Go.Sl Go.Jn
instance aFz:CfC Try.prog 72:={}
instance qW:CfC Try.prog 32:={}
theorem tU(β:Base)(w:World)(hw:St β [] w)(xs:Bs)(v:Value)(hx:xs.length≤1048576)(hs:Sl bE β.heap v xs):Calls Try.prog 72 #[v] w fun r w'=>∃p c,r= .returned (sB p xs c)∧St β [rB p xs c] w':=by
 obtain⟨va,vc,rfl,vl,vm,ve⟩:=hs.get
 refine enter (n:=7) Try.func72 rfl Try.ntmps72 rfl ?_ hw
 refine cC ?_
 refine lE fR ?_
 refine eJ ?_
 refine lE fR ?_
 refine eJ ?_
 iterate 2 refine lE cX ?_
 refine aKv (r:=row (.slice none 0 0) 5 1 0 (BX [])) (eS _ _ _) ?_
 refine cF rfl rfl rfl (cG (enc:=fun c:UInt8=>Bx c) 0 dJ bQ fV (v:= .slice none 0 0) (xs:=[]) (ys:=xs) (ao:=va) (c:=vc) rfl rfl (by first|rfl|simp) rfl (by first|rfl|simp) (aX.of_base (bO.mono _ _ _) ve) (by first|omega|(simp only[List.length_append,List.length_nil,List.length_cons,aL]at*;omega)) (by first|omega|(simp only[List.length_append,List.length_nil,List.length_cons,aL]at*;omega))) ?_
 rintro _ _ ⟨rp1,rc2,rfl,rfl⟩
 refine lE fR ?_
 refine aW ?_
 refine bB ?_
 refine dS Try.results72 rfl ?_
 intro w hw
 exact⟨_,_,rfl,aF [true] rfl hw⟩
theorem lB(β:Base)(w:World)(hw:St β [] w)(k:KS)(vh va vb:Value)(hH:Sl bE β.heap vh k.head)(hA:Sl bE β.heap va k.a)(hB:Sl bE β.heap vb k.b)(h1:k.head.length≤1048576)(h2:k.a.length≤1048576)(h3:k.b.length≤1048576):Calls Try.prog 32 #[.agg #[vh,va,vb,Ix k.power]] w fun r w'=>∃pH pA pB cH cA cB,r= .returned (.agg #[sB pH k.head cH,sB pA k.a cA,sB pB k.b cB,Ix k.power])∧St β [rB pH k.head cH,rB pA k.a cA,rB pB k.b cB] w':=by
 obtain⟨vha,vhc,rfl,vhl,vhm,vhe⟩:=hH.get
 obtain⟨vaa,vac,rfl,val,vam,vae⟩:=hA.get
 obtain⟨vba,vbc,rfl,vbl,vbm,vbe⟩:=hB.get
 refine enter (n:=16) Try.func32 rfl Try.ntmps32 rfl ?_ hw
 refine cC ?_
 refine pD fun b1=> ?_
 refine fZ fun b2=> ?_
 refine eJ ?_
 refine lE bM ?_
 refine lE (fA 1) ?_
 refine jH (cY (vs:=[sB vha k.head (vhc)]) aFz.ok rfl rfl) rfl fun w β1 sb kn hw1 back=>(tU β1 w hw1 k.head _ (by omega) (Sl.mono _ _ _ _ _ sb (⟨⟨_,_,rfl,vhl,vhm,vhe⟩⟩:Sl bE _ _ k.head))).mono ?_
 rintro e w' ⟨p3,c4,rfl,hw'⟩
 refine⟨_,rfl,_,back _ _ hw',?_⟩
 refine lE bM ?_
 refine lu (mS 2 (#[sB p3 k.head c4,sB vaa k.a (vac),sB vba k.b (vbc),Ix (k.power)])) ?_
 refine eJ ?_
 refine lE bM ?_
 refine lE (fA 2) ?_
 refine jH (cY (vs:=[sB vaa k.a (vac)]) aFz.ok rfl rfl) rfl fun w β1 sb kn hw1 back=>(tU β1 w hw1 k.a _ (by omega) (Sl.mono _ _ _ _ _ sb (⟨⟨_,_,rfl,val,vam,vae⟩⟩:Sl bE _ _ k.a))).mono ?_
 rintro e w' ⟨p5,c6,rfl,hw'⟩
 refine⟨_,rfl,_,back _ _ hw',?_⟩
 refine lE bM ?_
 refine lu (mS 3 (#[sB p3 k.head c4,sB p5 k.a c6,sB vba k.b (vbc),Ix (k.power)])) ?_
 refine eJ ?_
 refine lE bM ?_
 refine lE (fA 3) ?_
 refine jH (cY (vs:=[sB vba k.b (vbc)]) aFz.ok rfl rfl) rfl fun w β1 sb kn hw1 back=>(tU β1 w hw1 k.b _ (by omega) (Sl.mono _ _ _ _ _ sb (⟨⟨_,_,rfl,vbl,vbm,vbe⟩⟩:Sl bE _ _ k.b))).mono ?_
 rintro e w' ⟨p7,c8,rfl,hw'⟩
 refine⟨_,rfl,_,back _ _ hw',?_⟩
 refine lE bM ?_
 refine lu (mS 4 (#[sB p3 k.head c4,sB p5 k.a c6,sB p7 k.b c8,Ix (k.power)])) ?_
 refine eJ ?_
 refine lE (dO 4) ?_
 refine lu (mS 3 (#[sB p3 k.head c4,sB p5 k.a c6,sB p7 k.b c8,Ix (k.power)])) ?_
 refine aW ?_
 refine bB ?_
 refine fH (m:=[.agg #[sB p3 k.head c4,sB p5 k.a c6,sB p7 k.b c8,Ix (k.power)]]) Try.results32 ⟨bY fX.ok rfl (dM 3 rfl rfl) rfl,trivial⟩ rfl ?_
 intro w hw
 exact⟨_,_,_,_,_,_,rfl,aF [true,true,true,false,false] rfl (hw.perm (L':=[rB p3 k.head c4,rB p5 k.a c6,rB p7 k.b c8,pt b2 (.cells #[sB p3 k.head c4,sB p5 k.a c6,sB p7 k.b c8,Ix (k.power)] 32),pt b1 (.cells #[sB p3 k.head c4,sB p5 k.a c6,sB p7 k.b c8,Ix (k.power)] 32)]) (by exact(bN [2,1,0,3,4] 5 rfl (by kernel_rfl) (by kernel_rfl))))⟩
open Go Go.Sl Go.Jn
instance aJa:CfC Try.prog 67:={}
instance qX:CfC Try.prog 28:={}
theorem uP(β:Base)(w:World)(hw:St β [] w)(xs ys:Bs)(v u:Value)(hx:Sl bE β.heap v xs)(hy:Sl bE β.heap u ys):kH Try.prog 67 #[v,u] β w (.bool (decide (xs=ys))):=by
 obtain⟨va,vc,rfl,vl,vm,ve⟩:=hx.get
 obtain⟨ua,uc,rfl,ul,um,ue⟩:=hy.get
 refine enter (n:=26) Try.func67 rfl Try.ntmps67 rfl ?_ hw
 refine cC ?_
 refine lE eE ?_
 refine aW ?_
 refine dX ?_
 refine aC ?_
 refine lE cX ?_
 refine lE fC ?_
 refine lE cX ?_
 refine lE fC ?_
 refine lE gO ?_
 refine aW ?_
 refine cK _ rfl (fun hc1=> ?_) (fun hc1=> ?_)
 ·refine cC ?_
  refine lE eE ?_
  refine aW ?_
  refine bB ?_
  refine aK ?_
  refine dS Try.results67 rfl ?_
  intro w hw
  exact⟨iD (fun h=>by subst h;omega),aF [] rfl hw⟩
 refine eT ?_
 refine dX ?_
 refine aC ?_
 refine lE bV ?_
 refine aW ?_
 refine aY ?_
 refine dV (fun(k:Nat) f L=>(f 0=sB va xs (vc)∧f 1=sB ua ys (uc)∧f 5=Nx (k))∧L=[]∧(k≤xs.length∧xs.take k=ys.take k)) (fun k=>xs.length-k) 0 ?_ ?_
 ·exact⟨⟨rfl,rfl,rfl⟩,rfl,⟨by omega,rfl⟩⟩
 rintro k f0 L0 ⟨⟨hs0,hs1,hs5⟩,hL,⟨hp1,hp2⟩⟩
 subst L0
 refine dG 0 hs0 ?_
 refine dG 1 hs1 ?_
 refine dG 5 hs5 ?_
 refine dX ?_
 refine aC ?_
 refine lE bG ?_
 refine lE cX ?_
 refine lE fC ?_
 refine lE jI ?_
 refine aW ?_
 refine cK _ rfl (fun hc2=> ?_) (fun hc2=> ?_)
 ·refine eT ?_
  refine aO ?_
  refine aY ?_
  refine aO ?_
  refine eF (by kernel_rfl) (by kernel_rfl) ?_
  refine qE cX ?_
  refine qE bG ?_
  obtain⟨x3,hx4⟩:=kC xs k (by omega)
  obtain⟨ha5,cs6,hc7,rfl⟩:=ve _ _ hx4
  refine qE (rN bQ ha5) ?_
  refine eV (v:=Bx (x3)) rfl rfl rfl (bZ gQ.ok rfl (kB hc7)) ?_
  refine qE cX ?_
  refine qE bG ?_
  obtain⟨x9,hx10⟩:=kC ys k (by omega)
  obtain⟨ha11,cs12,hc13,rfl⟩:=ue _ _ hx10
  refine qE (rN bQ ha11) ?_
  refine eV (v:=Bx (x9)) rfl rfl rfl (bZ gQ.ok rfl (kB hc13)) ?_
  refine qE gO ?_
  refine fW ?_
  refine aQ ?_
  refine cK _ rfl (fun hc15=> ?_) (fun hc15=> ?_)
  ·refine cC ?_
   refine lE eE ?_
   refine aW ?_
   refine bB ?_
   refine bH ?_
   refine aK ?_
   refine aK ?_
   refine bH ?_
   refine aK ?_
   refine dS Try.results67 rfl ?_
   intro w hw
   exact⟨iD (wT hx4 hx10 (fun h=>hc15 (by rw[h]))),aF [] rfl hw⟩
  refine cM ?_
  refine bD ?_
  refine aQ ?_
  refine aC ?_
  refine lE bG ?_
  refine lv (v:=Nx (k+1)) (bJ rfl rfl (bU (by omega) (by omega))) ?_
  refine lE bV ?_
  refine aG ?_
  exact bT ⟨k+1,⟨⟨rfl,rfl,rfl⟩,rfl,⟨by omega,rW hx4 (by rw[hx10,UInt8.toNat_inj.1 (Int.ofNat.inj (Decidable.not_not.1 hc15))]) hp2⟩⟩,(show xs.length-(k+1)<xs.length-k from by omega)⟩
 refine dZ ?_
 refine aU ?_
 refine aU ?_
 refine eA ?_
 refine qF ?_
 refine lE eE ?_
 refine aW ?_
 refine bB ?_
 refine dS Try.results67 rfl ?_
 intro w hw
 exact⟨zX (uR hp2 (by omega) (by omega)),aF [] rfl hw⟩
theorem jE(β:Base)(w:World)(hw:St β [] w)(k:KS)(vh va vb:Value)(hH:Sl bE β.heap vh k.head)(hA:Sl bE β.heap va k.a)(hB:Sl bE β.heap vb k.b)(uh ua ub:Value)(gH:Sl bE β.heap uh k.head)(gA:Sl bE β.heap ua k.a)(gB:Sl bE β.heap ub k.b):kH Try.prog 28 #[.agg #[vh,va,vb,Ix k.power],.agg #[uh,ua,ub,Ix k.power]] β w (.bool true):=by
 obtain⟨vha,vhc,rfl,vhl,vhm,vhe⟩:=hH.get
 obtain⟨vaa,vac,rfl,val,vam,vae⟩:=hA.get
 obtain⟨vba,vbc,rfl,vbl,vbm,vbe⟩:=hB.get
 obtain⟨uha,uhc,rfl,uhl,uhm,uhe⟩:=gH.get
 obtain⟨uaa,uac,rfl,ual,uam,uae⟩:=gA.get
 obtain⟨uba,ubc,rfl,ubl,ubm,ube⟩:=gB.get
 refine enter (n:=31) Try.func28 rfl Try.ntmps28 rfl ?_ hw
 refine cC ?_
 refine pD fun b1=> ?_
 refine pD fun b2=> ?_
 refine lE eE ?_
 refine eJ ?_
 refine lE bM ?_
 refine lE (fA 1) ?_
 refine lE bM ?_
 refine lE (fA 0) ?_
 refine gW gU (fun w β1 sb kn hw1=>uP β1 w hw1 k.head k.head _ _ (Sl.mono _ _ _ _ _ sb (⟨⟨_,_,rfl,vhl,vhm,vhe⟩⟩:Sl bE _ _ k.head)) (Sl.mono _ _ _ _ _ sb (⟨⟨_,_,rfl,uhl,uhm,uhe⟩⟩:Sl bE _ _ k.head))) ?_
 refine lE dQ ?_
 refine cD (s:=10) rfl (fun h=> ?_) (fun h=> ?_)
 rotate_left;exact absurd rfl h
 refine gE bM ?_
 refine gE (fA 1) ?_
 refine gE bM ?_
 refine gE (fA 0) ?_
 refine eQ rfl rfl rfl rfl rfl (cY (vs:=[sB vaa k.a (vac),sB uaa k.a (uac)]) aJa.ok rfl rfl) ?_
 intro w hw
 obtain⟨β1,sb,kn,hw1,back⟩:=St.frame_all hw
 refine(uP β1 w hw1 k.a k.a _ _ (Sl.mono _ _ _ _ _ sb (⟨⟨_,_,rfl,val,vam,vae⟩⟩:Sl bE _ _ k.a)) (Sl.mono _ _ _ _ _ sb (⟨⟨_,_,rfl,ual,uam,uae⟩⟩:Sl bE _ _ k.a))).mono ?_
 rintro e w' ⟨rfl,hw'⟩
 refine⟨_,rfl,_,back _ _ hw',?_⟩
 refine lE dY ?_
 refine lE dQ ?_
 refine cD (s:=17) rfl (fun h=> ?_) (fun h=> ?_)
 rotate_left;exact absurd rfl h
 refine gE bM ?_
 refine gE (fA 1) ?_
 refine gE bM ?_
 refine gE (fA 0) ?_
 refine eQ rfl rfl rfl rfl rfl (cY (vs:=[sB vba k.b (vbc),sB uba k.b (ubc)]) aJa.ok rfl rfl) ?_
 intro w hw
 obtain⟨β1,sb,kn,hw1,back⟩:=St.frame_all hw
 refine(uP β1 w hw1 k.b k.b _ _ (Sl.mono _ _ _ _ _ sb (⟨⟨_,_,rfl,vbl,vbm,vbe⟩⟩:Sl bE _ _ k.b)) (Sl.mono _ _ _ _ _ sb (⟨⟨_,_,rfl,ubl,ubm,ube⟩⟩:Sl bE _ _ k.b))).mono ?_
 rintro e w' ⟨rfl,hw'⟩
 refine⟨_,rfl,_,back _ _ hw',?_⟩
 refine lE dY ?_
 refine lE dQ ?_
 refine cD (s:=24) rfl (fun h=> ?_) (fun h=> ?_)
 rotate_left;exact absurd rfl h
 refine gE bM ?_
 refine gE (eU 1) ?_
 refine gE bM ?_
 refine gE (eU 0) ?_
 refine gE dR ?_
 refine lE dY ?_
 refine lE eE ?_
 refine aW ?_
 refine bB ?_
 refine dS Try.results28 (v:= .bool (decide ((k.power)=(k.power)))) rfl ?_
 intro w hw
 exact⟨by first|rfl|simp,aF [false,false] rfl hw⟩
end Go.Proofs
