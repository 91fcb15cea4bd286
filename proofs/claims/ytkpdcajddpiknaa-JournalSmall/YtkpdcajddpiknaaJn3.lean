/-
 Own work; plain Lean (Jn2, Jn3).
-/
import Derived.Test.YtkpdcajddpiknaaJn1
set_option linter.all false
set_option maxHeartbeats 4000000
namespace Go.Proofs
open Go Go.Sl Go.Jn
theorem sM(p:Int)(j:Nat):pl p j≤p:=by unfold pl;split<;>omega
theorem oP(p:Int):pl p 0=p:=by unfold pl;split<;>omega
theorem tB{xs:Bs}{p:Int}{size:Nat}(h:xs.length≤size):gV xs p size=xs:=by
 unfold gV;split
 ·rfl
 exact List.take_of_length_le h
theorem tC{xs:Bs}{p:Int}{size:Nat}(h:xs.length≤size):fP xs p size=p:=if_neg (by omega)
def uF(dn:Bool)(bs:Bs):Int:=if 65536<bs.length then 3 else if dn=true then 310 else 0
instance tf30:FldC Try.prog 84 0 0 1 false:={}
instance aIi:TyC Try.prog 24 false 1:={}
theorem aMf:stB Try.prog 116 []=true:=by kernel_rfl
instance aMg:ZerC Try.prog 116 (.agg #[]):={}
theorem aLf:aEk Try.prog 116=true:=by kernel_rfl
instance aGg:CfC Try.prog 77:={}
theorem rX:Try.prog.underlying 43=some (.pointer (Try.prog.pointee 43)):=by kernel_rfl
theorem aGh:Try.prog.underlying 24=some (.pointer (Try.prog.pointee 24)):=by kernel_rfl
instance tf38:CfC Try.prog 54:={}
instance tf39:FldC Try.prog 84 2 6 1 false:={}
instance aMh:TyC Try.prog 4 false 1:={}
theorem oC(β:Base)(w:World)(J S:Nat)(hJ:Cs β.heap ⟨J,0,none⟩ [pp S 0])(x0 x1 x2:Value)(p:Int)(hp:p≤9223372036854775807)(hw:St β [pt S (.cells #[x0,x1,x2,Ix (p)] 32)] w):Calls Try.prog 77 #[pp J 0] w fun r w'=>(r= .panicked xQ∧p=0∧St β [pt S (.cells #[x0,x1,x2,Ix (p)] 32)] w')∨(r= .returned (.tuple #[])∧p≠0∧St β [pt S (.cells #[x0,x1,x2,Ix (dN p)] 32)] w'):=by
 refine enter (n:=32) Try.func77 rfl Try.ntmps77 rfl ?_ hw
 refine aY ?_
 refine cC ?_
 refine lE eP ?_
 refine lE eY ?_
 refine lE ofa ?_
 refine lv (v:=pp S 0) (bZ aIi.ok rfl (aX.imp (kB hJ) (fun _ h=>Cs.sub (vs:=[pp S 0]) 0 h rfl))) ?_
 refine lE eY ?_
 refine lE bM ?_
 refine lE (eU 0) ?_
 refine lE dR ?_
 refine lE eE ?_
 refine aW ?_
 refine cK _ rfl (fun hc1=> ?_) (fun hc1=> ?_)
 ·refine aC ?_
  refine lv (v:= .agg #[]) (dW aMg.ok aMf (vs:=[]) (cells:= #[]) rfl rfl) ?_
  refine lv (v:= .iface 116 (.agg #[])) (aHa (v:= .agg #[]) aLf rfl) ?_
  refine aHn (t:=116) (v:=(.agg #[])) rfl ?_
  refine fU ?_
  refine pE ?_
  intro w hw
  exact .inl ⟨rfl,by omega,aF [true] rfl hw⟩
 refine cC ?_
 refine lE eP ?_
 refine lE eY ?_
 refine lE ofa ?_
 refine lv (v:=pp S 0) (bZ aIi.ok rfl (aX.imp (kB hJ) (fun _ h=>Cs.sub (vs:=[pp S 0]) 0 h rfl))) ?_
 refine lE eY ?_
 refine lE bM ?_
 refine lE (eU 0) ?_
 refine lE qZ ?_
 refine lE eE ?_
 refine aW ?_
 refine cK _ rfl (fun hc2=> ?_) (fun hc2=> ?_)
 ·refine aC ?_
  refine lE eP ?_
  refine lE eY ?_
  refine lE ofa ?_
  refine lv (v:=pp S 0) (bZ aIi.ok rfl (aX.imp (kB hJ) (fun _ h=>Cs.sub (vs:=[pp S 0]) 0 h rfl))) ?_
  refine lE eY ?_
  refine lE bM ?_
  refine lE (eU 0) ?_
  refine lE omn ?_
  refine lE eY ?_
  refine lE bM ?_
  refine lu (mS 0 (#[x0,x1,x2,Ix ((p)-(1:Int))])) ?_
  refine aG ?_
  refine bD ?_
  refine nS Try.results77 ?_
  intro w hw
  exact .inr ⟨rfl,by omega,by unfold dN;rw[if_pos (by omega)];exact aF [true] rfl hw⟩
 refine cM ?_
 refine bD ?_
 refine nS Try.results77 ?_
 intro w hw
 exact .inr ⟨rfl,by omega,by unfold dN;rw[if_neg (by omega)];exact aF [true] rfl hw⟩
theorem wG(β:Base)(w:World)(J S:Nat)(hJ:Cs β.heap ⟨J,0,none⟩ [pp S 0])(k:KS)(hk:k.head.length≤1048576∧k.a.length≤1048576∧k.b.length≤1048576∧k.power≤9223372036854775807)(at_:Nat)(hat:at_≤1048576)(bs:Bs)(v:Value)(hb:bs.length≤1048576)(hs:Sl bE β.heap v bs)(hw:St β [aS S k] w):Calls Try.prog 53 #[pp J 0,pp S 0,Nx at_,v] w fun r w'=>(r= .panicked xQ∧¬eI k.power bs∧St β [aS S {k with head:=lJ k.head k.power at_ bs,power:=pl k.power bs.length}] w')∨(r= .returned (.tuple #[])∧eI k.power bs∧St β [aS S {k with head:=lJ k.head k.power at_ bs,power:=pl k.power bs.length}] w'):=by
 obtain⟨va,vc,rfl,vl,vm,ve⟩:=hs.get
 obtain⟨pH,pA,pB,cH,cA,cB,hw⟩:=St.openStore hw
 refine enter (n:=44) Try.func53 rfl Try.ntmps53 rfl ?_ hw
 refine cC ?_
 refine lE cX ?_
 refine lE fC ?_
 refine lE bG ?_
 refine aW ?_
 refine aY ?_
 refine dV (fun(x_:Nat×Bs×Option Addr×Nat) f L=>match x_ with|(j,ys,p,c)=>(f 0= .pointer (some (⟨J,0,none⟩))∧f 1=pp S 0∧f 2=Nx (at_)∧f 10=sB va bs (vc)∧f 11=Nx (bs.length)∧f 12=Nx (j))∧L=[pt S (.cells #[sB p ys c,sB pA k.a cA,sB pB k.b cB,Ix (pl k.power j)] 32),rB p ys c,rB pA k.a cA,rB pB k.b cB]∧(j≤pw k.power bs.length∧ys=wr k.head at_ (bs.take j))) (fun(j,ys,p,c)=>bs.length-j) (0,k.head,pH,cH) ?_ ?_
 ·exact⟨⟨rfl,rfl,rfl,rfl,rfl,rfl⟩,(by rw[oP];rfl),⟨by omega,by simp[wr]⟩⟩
 rintro⟨j,ys,p,c⟩ f0 L0 ⟨⟨hs0,hs1,hs2,hs10,hs11,hs12⟩,hL,⟨hj,hys⟩⟩
 subst L0
 refine dG 0 hs0 ?_
 refine dG 1 hs1 ?_
 refine dG 2 hs2 ?_
 refine dG 10 hs10 ?_
 refine dG 11 hs11 ?_
 refine dG 12 hs12 ?_
 have hyl:ys.length≤k.head.length+bs.length:=by rw[hys];refine Nat.le_trans iS ?_;simp;omega
 refine cC ?_
 refine lE jI ?_
 refine aW ?_
 refine aO ?_
 refine cK _ rfl (fun hc1=> ?_) (fun hc1=> ?_)
 ·have hc_:j<bs.length:=by omega
  refine eT ?_
  refine aO ?_
  refine aY ?_
  refine cC ?_
  refine lE bG ?_
  obtain⟨x2,hx3⟩:=kC bs j (by omega)
  obtain⟨ha4,cs5,hc6,rfl⟩:=ve _ _ hx3
  refine lE (rN bQ ha4) ?_
  refine lv (v:=Bx (x2)) (bZ gQ.ok rfl (kB hc6)) ?_
  iterate 2 refine lE bV ?_
  refine eJ ?_
  refine lE eP ?_
  refine gC rfl rfl rfl (cY (vs:=[.pointer (some (⟨J,0,none⟩))]) aGg.ok rfl rfl) ?_
  intro w hw
  obtain⟨β1,sb,kn,hw1,back⟩:=St.frame (L:=[_]) (M:=_::_::_::[]) hw
  refine(oC β1 w J S (Cs.mono _ _ _ _ sb hJ) (sB p ys c) (sB pA k.a cA) (sB pB k.b cB) (pl k.power j) (by have:=sM k.power j;omega) hw1).mono ?_
  rintro e w' (⟨rfl,hp8,hw'⟩|⟨rfl,hp8,hw'⟩)
  ·refine .inl ⟨_,rfl,_,back _ _ hw',?_⟩
   refine dD ?_
   refine fU ?_
   refine dD ?_
   refine dD ?_
   refine fU ?_
   refine pE ?_
   intro w hw
   obtain⟨e1,e3⟩:=oS hj hc_ hp8
   have e2:ys=lJ k.head k.power at_ bs:=by rw[hys,lJ,e1]
   subst e2
   rw[hp8,←e3]at hw
   exact .inl ⟨rfl,by unfold eI;omega,St.closeStore (k:={k with head:=lJ k.head k.power at_ bs,power:=pl k.power bs.length}) (aF [true,true,true,true] rfl hw)⟩
  refine .inr ⟨_,rfl,_,back _ _ hw',?_⟩
  refine aW ?_
  refine aO ?_
  have hpst:=oR hj hc_ hp8
  refine aC ?_
  iterate 2 refine lE bG ?_
  refine lE xS ?_
  refine lE eP ?_
  refine lE eY ?_
  refine lE (fA 0) ?_
  refine lE fC ?_
  refine lE jI ?_
  refine aW ?_
  refine cK _ rfl (fun hc9=> ?_) (fun hc9=> ?_)
  ·refine aC ?_
   refine lE eP ?_
   refine lE eY ?_
   refine lE (fA 0) ?_
   iterate 2 refine lE bG ?_
   refine lE xS ?_
   refine lE bG ?_
   refine lv (v:= .pointer (some ((ba p).add ((at_+j)*1)))) (dK 1 (j:=at_+j) (len:=(ys).length) (cap:=c) (p:=p) rfl rfl bQ (by omega) (by omega) rfl) ?_
   refine lu (fJ 1 gQ.ok (o:=(at_+j)*1) (v:=Bx (x2)) rfl rfl rfl rfl rfl (by omega) (by omega)) ?_
   refine pR (L':=[pt S (.cells #[.slice p ((ys.set (at_+j) x2)).length c,.slice pA (k.a).length cA,.slice pB (k.b).length cB,Ix (dN (pl k.power j))] 32),row (.slice p ((ys.set (at_+j) x2)).length c) 5 1 (((ys.set (at_+j) x2)).length) (BX (ys.set (at_+j) x2)),row (.slice pA (k.a).length cA) 5 1 ((k.a).length) (BX k.a),row (.slice pB (k.b).length cB) 5 1 ((k.b).length) (BX k.b)]) (by show [pt S (.cells #[.slice p (ys).length c,.slice pA (k.a).length cA,.slice pB (k.b).length cB,Ix (dN (pl k.power j))] 32),row (.slice p (ys).length c) 5 1 ((ys).length) ((kE (BX ys) ((at_+j)*1) [Bx (x2)])),row (.slice pA (k.a).length cA) 5 1 ((k.a).length) (BX k.a),row (.slice pB (k.b).length cB) 5 1 ((k.b).length) (BX k.b)]=_;rw[gX (by omega)];simp only[List.length_set]) ?_
   refine aG ?_
   refine bD ?_
   refine aQ ?_
   refine aC ?_
   refine lv (v:=Nx (j+1)) (bJ rfl rfl (bU (by omega) (by omega))) ?_
   refine lE bG ?_
   refine aG ?_
   exact bT ⟨(j+1,(ys.set (at_+j) x2),p,c),⟨⟨rfl,rfl,rfl,rfl,rfl,rfl⟩,(by rw[hpst.2]),⟨hpst.1,by rw[hys,fM hx3,if_pos (by rw[←hys];omega)]⟩⟩,(show bs.length-(j+1)<bs.length-j from by omega)⟩
  refine aC ?_
  iterate 2 refine lE eP ?_
  refine lE eY ?_
  refine lE (fA 0) ?_
  refine lE bG ?_
  refine cF rfl rfl rfl (cO bQ iG.ok (cells:= #[Bx (x2)]) rfl rfl rfl rfl) ?_
  rintro _ _ ⟨b10,rfl,rfl⟩
  refine cF rfl rfl rfl (cG (enc:=fun c:UInt8=>Bx c) 2 dJ bQ fV (v:=sB p ys c) (xs:=ys) (ys:=[x2]) (ao:=some ⟨b10,0,none⟩) (c:=1) rfl rfl (by first|rfl|simp) rfl (by first|rfl|simp) (fO 0 (xs:=[x2]) rfl) (by first|omega|(simp only[List.length_append,List.length_nil,List.length_cons,aL]at*;omega)) (by first|omega|(simp only[List.length_append,List.length_nil,List.length_cons,aL]at*;omega))) ?_
  rintro _ _ ⟨rp11,rc12,rfl,rfl⟩
  refine lE eY ?_
  refine lu (mS 1 (#[sB rp11 (ys++[x2]) rc12,sB pA k.a cA,sB pB k.b cB,Ix (dN (pl k.power j))])) ?_
  refine aG ?_
  refine bD ?_
  refine aQ ?_
  refine aC ?_
  refine lv (v:=Nx (j+1)) (bJ rfl rfl (bU (by omega) (by omega))) ?_
  refine lE bG ?_
  refine aG ?_
  refine dL (L':=[pt S (.cells #[sB rp11 (ys++[x2]) rc12,sB pA k.a cA,sB pB k.b cB,Ix (dN (pl k.power j))] 32),rB rp11 (ys++[x2]) rc12,rB pA k.a cA,rB pB k.b cB]) [false,true,true,true,true] rfl ?_
  exact bT ⟨(j+1,ys++[x2],rp11,rc12),⟨⟨rfl,rfl,rfl,rfl,rfl,rfl⟩,(by rw[hpst.2]),⟨hpst.1,by rw[hys,fM hx3,if_neg (by rw[←hys];omega)]⟩⟩,(show bs.length-(j+1)<bs.length-j from by omega)⟩
 refine dZ ?_
 refine aU ?_
 refine aU ?_
 refine eA ?_
 refine nS Try.results53 ?_
 intro w hw
 obtain⟨e1,rfl⟩:=rP hj (by omega)
 have e2:ys=lJ k.head k.power at_ bs:=by rw[hys,lJ,e1]
 subst e2
 exact .inr ⟨rfl,e1,St.closeStore (k:={k with head:=lJ k.head k.power at_ bs,power:=pl k.power bs.length}) (aF [true,true,true,true] rfl hw)⟩
theorem aDf(β:Base)(w:World)(J S:Nat)(hJ:Cs β.heap ⟨J,0,none⟩ [pp S 0])(k:KS)(hk:k.head.length≤1048576∧k.a.length≤1048576∧k.b.length≤1048576∧k.power≤9223372036854775807)(at_:Nat)(hat:at_≤1048576)(bs:Bs)(v:Value)(hb:bs.length≤1048576)(hs:Sl bE β.heap v bs)(hw:St β [aS S k] w):Calls Try.prog 53 #[pp J 0,pp S 1,Nx at_,v] w fun r w'=>(r= .panicked xQ∧¬eI k.power bs∧St β [aS S {k with a:=lJ k.a k.power at_ bs,power:=pl k.power bs.length}] w')∨(r= .returned (.tuple #[])∧eI k.power bs∧St β [aS S {k with a:=lJ k.a k.power at_ bs,power:=pl k.power bs.length}] w'):=by
 obtain⟨va,vc,rfl,vl,vm,ve⟩:=hs.get
 obtain⟨pH,pA,pB,cH,cA,cB,hw⟩:=St.openStore hw
 refine enter (n:=44) Try.func53 rfl Try.ntmps53 rfl ?_ hw
 refine cC ?_
 refine lE cX ?_
 refine lE fC ?_
 refine lE bG ?_
 refine aW ?_
 refine aY ?_
 refine dV (fun(x_:Nat×Bs×Option Addr×Nat) f L=>match x_ with|(j,ys,p,c)=>(f 0= .pointer (some (⟨J,0,none⟩))∧f 1=pp S 1∧f 2=Nx (at_)∧f 10=sB va bs (vc)∧f 11=Nx (bs.length)∧f 12=Nx (j))∧L=[pt S (.cells #[sB pH k.head cH,sB p ys c,sB pB k.b cB,Ix (pl k.power j)] 32),rB pH k.head cH,rB p ys c,rB pB k.b cB]∧(j≤pw k.power bs.length∧ys=wr k.a at_ (bs.take j))) (fun(j,ys,p,c)=>bs.length-j) (0,k.a,pA,cA) ?_ ?_
 ·exact⟨⟨rfl,rfl,rfl,rfl,rfl,rfl⟩,(by rw[oP];rfl),⟨by omega,by simp[wr]⟩⟩
 rintro⟨j,ys,p,c⟩ f0 L0 ⟨⟨hs0,hs1,hs2,hs10,hs11,hs12⟩,hL,⟨hj,hys⟩⟩
 subst L0
 refine dG 0 hs0 ?_
 refine dG 1 hs1 ?_
 refine dG 2 hs2 ?_
 refine dG 10 hs10 ?_
 refine dG 11 hs11 ?_
 refine dG 12 hs12 ?_
 have hyl:ys.length≤k.a.length+bs.length:=by rw[hys];refine Nat.le_trans iS ?_;simp;omega
 refine cC ?_
 refine lE jI ?_
 refine aW ?_
 refine aO ?_
 refine cK _ rfl (fun hc1=> ?_) (fun hc1=> ?_)
 ·have hc_:j<bs.length:=by omega
  refine eT ?_
  refine aO ?_
  refine aY ?_
  refine cC ?_
  refine lE bG ?_
  obtain⟨x2,hx3⟩:=kC bs j (by omega)
  obtain⟨ha4,cs5,hc6,rfl⟩:=ve _ _ hx3
  refine lE (rN bQ ha4) ?_
  refine lv (v:=Bx (x2)) (bZ gQ.ok rfl (kB hc6)) ?_
  iterate 2 refine lE bV ?_
  refine eJ ?_
  refine lE eP ?_
  refine gC rfl rfl rfl (cY (vs:=[.pointer (some (⟨J,0,none⟩))]) aGg.ok rfl rfl) ?_
  intro w hw
  obtain⟨β1,sb,kn,hw1,back⟩:=St.frame (L:=[_]) (M:=_::_::_::[]) hw
  refine(oC β1 w J S (Cs.mono _ _ _ _ sb hJ) (sB pH k.head cH) (sB p ys c) (sB pB k.b cB) (pl k.power j) (by have:=sM k.power j;omega) hw1).mono ?_
  rintro e w' (⟨rfl,hp8,hw'⟩|⟨rfl,hp8,hw'⟩)
  ·refine .inl ⟨_,rfl,_,back _ _ hw',?_⟩
   refine dD ?_
   refine fU ?_
   refine dD ?_
   refine dD ?_
   refine fU ?_
   refine pE ?_
   intro w hw
   obtain⟨e1,e3⟩:=oS hj hc_ hp8
   have e2:ys=lJ k.a k.power at_ bs:=by rw[hys,lJ,e1]
   subst e2
   rw[hp8,←e3]at hw
   exact .inl ⟨rfl,by unfold eI;omega,St.closeStore (k:={k with a:=lJ k.a k.power at_ bs,power:=pl k.power bs.length}) (aF [true,true,true,true] rfl hw)⟩
  refine .inr ⟨_,rfl,_,back _ _ hw',?_⟩
  refine aW ?_
  refine aO ?_
  have hpst:=oR hj hc_ hp8
  refine aC ?_
  iterate 2 refine lE bG ?_
  refine lE xS ?_
  refine lE eP ?_
  refine lE eY ?_
  refine lE (fA 0) ?_
  refine lE fC ?_
  refine lE jI ?_
  refine aW ?_
  refine cK _ rfl (fun hc9=> ?_) (fun hc9=> ?_)
  ·refine aC ?_
   refine lE eP ?_
   refine lE eY ?_
   refine lE (fA 0) ?_
   iterate 2 refine lE bG ?_
   refine lE xS ?_
   refine lE bG ?_
   refine lv (v:= .pointer (some ((ba p).add ((at_+j)*1)))) (dK 2 (j:=at_+j) (len:=(ys).length) (cap:=c) (p:=p) rfl rfl bQ (by omega) (by omega) rfl) ?_
   refine lu (fJ 2 gQ.ok (o:=(at_+j)*1) (v:=Bx (x2)) rfl rfl rfl rfl rfl (by omega) (by omega)) ?_
   refine pR (L':=[pt S (.cells #[.slice pH (k.head).length cH,.slice p ((ys.set (at_+j) x2)).length c,.slice pB (k.b).length cB,Ix (dN (pl k.power j))] 32),row (.slice pH (k.head).length cH) 5 1 ((k.head).length) (BX k.head),row (.slice p ((ys.set (at_+j) x2)).length c) 5 1 (((ys.set (at_+j) x2)).length) (BX (ys.set (at_+j) x2)),row (.slice pB (k.b).length cB) 5 1 ((k.b).length) (BX k.b)]) (by show [pt S (.cells #[.slice pH (k.head).length cH,.slice p (ys).length c,.slice pB (k.b).length cB,Ix (dN (pl k.power j))] 32),row (.slice pH (k.head).length cH) 5 1 ((k.head).length) (BX k.head),row (.slice p (ys).length c) 5 1 ((ys).length) ((kE (BX ys) ((at_+j)*1) [Bx (x2)])),row (.slice pB (k.b).length cB) 5 1 ((k.b).length) (BX k.b)]=_;rw[gX (by omega)];simp only[List.length_set]) ?_
   refine aG ?_
   refine bD ?_
   refine aQ ?_
   refine aC ?_
   refine lv (v:=Nx (j+1)) (bJ rfl rfl (bU (by omega) (by omega))) ?_
   refine lE bG ?_
   refine aG ?_
   exact bT ⟨(j+1,(ys.set (at_+j) x2),p,c),⟨⟨rfl,rfl,rfl,rfl,rfl,rfl⟩,(by rw[hpst.2]),⟨hpst.1,by rw[hys,fM hx3,if_pos (by rw[←hys];omega)]⟩⟩,(show bs.length-(j+1)<bs.length-j from by omega)⟩
  refine aC ?_
  iterate 2 refine lE eP ?_
  refine lE eY ?_
  refine lE (fA 0) ?_
  refine lE bG ?_
  refine cF rfl rfl rfl (cO bQ iG.ok (cells:= #[Bx (x2)]) rfl rfl rfl rfl) ?_
  rintro _ _ ⟨b10,rfl,rfl⟩
  refine cF rfl rfl rfl (cG (enc:=fun c:UInt8=>Bx c) 3 dJ bQ fV (v:=sB p ys c) (xs:=ys) (ys:=[x2]) (ao:=some ⟨b10,0,none⟩) (c:=1) rfl rfl (by first|rfl|simp) rfl (by first|rfl|simp) (fO 0 (xs:=[x2]) rfl) (by first|omega|(simp only[List.length_append,List.length_nil,List.length_cons,aL]at*;omega)) (by first|omega|(simp only[List.length_append,List.length_nil,List.length_cons,aL]at*;omega))) ?_
  rintro _ _ ⟨rp11,rc12,rfl,rfl⟩
  refine lE eY ?_
  refine lu (mS 1 (#[sB pH k.head cH,sB rp11 (ys++[x2]) rc12,sB pB k.b cB,Ix (dN (pl k.power j))])) ?_
  refine aG ?_
  refine bD ?_
  refine aQ ?_
  refine aC ?_
  refine lv (v:=Nx (j+1)) (bJ rfl rfl (bU (by omega) (by omega))) ?_
  refine lE bG ?_
  refine aG ?_
  refine dL (L':=[pt S (.cells #[sB pH k.head cH,sB rp11 (ys++[x2]) rc12,sB pB k.b cB,Ix (dN (pl k.power j))] 32),rB pH k.head cH,rB rp11 (ys++[x2]) rc12,rB pB k.b cB]) [false,true,true,true,true] rfl ?_
  exact bT ⟨(j+1,ys++[x2],rp11,rc12),⟨⟨rfl,rfl,rfl,rfl,rfl,rfl⟩,(by rw[hpst.2]),⟨hpst.1,by rw[hys,fM hx3,if_neg (by rw[←hys];omega)]⟩⟩,(show bs.length-(j+1)<bs.length-j from by omega)⟩
 refine dZ ?_
 refine aU ?_
 refine aU ?_
 refine eA ?_
 refine nS Try.results53 ?_
 intro w hw
 obtain⟨e1,rfl⟩:=rP hj (by omega)
 have e2:ys=lJ k.a k.power at_ bs:=by rw[hys,lJ,e1]
 subst e2
 exact .inr ⟨rfl,e1,St.closeStore (k:={k with a:=lJ k.a k.power at_ bs,power:=pl k.power bs.length}) (aF [true,true,true,true] rfl hw)⟩
theorem aDg(β:Base)(w:World)(J S:Nat)(hJ:Cs β.heap ⟨J,0,none⟩ [pp S 0])(k:KS)(hk:k.head.length≤1048576∧k.a.length≤1048576∧k.b.length≤1048576∧k.power≤9223372036854775807)(at_:Nat)(hat:at_≤1048576)(bs:Bs)(v:Value)(hb:bs.length≤1048576)(hs:Sl bE β.heap v bs)(hw:St β [aS S k] w):Calls Try.prog 53 #[pp J 0,pp S 2,Nx at_,v] w fun r w'=>(r= .panicked xQ∧¬eI k.power bs∧St β [aS S {k with b:=lJ k.b k.power at_ bs,power:=pl k.power bs.length}] w')∨(r= .returned (.tuple #[])∧eI k.power bs∧St β [aS S {k with b:=lJ k.b k.power at_ bs,power:=pl k.power bs.length}] w'):=by
 obtain⟨va,vc,rfl,vl,vm,ve⟩:=hs.get
 obtain⟨pH,pA,pB,cH,cA,cB,hw⟩:=St.openStore hw
 refine enter (n:=44) Try.func53 rfl Try.ntmps53 rfl ?_ hw
 refine cC ?_
 refine lE cX ?_
 refine lE fC ?_
 refine lE bG ?_
 refine aW ?_
 refine aY ?_
 refine dV (fun(x_:Nat×Bs×Option Addr×Nat) f L=>match x_ with|(j,ys,p,c)=>(f 0= .pointer (some (⟨J,0,none⟩))∧f 1=pp S 2∧f 2=Nx (at_)∧f 10=sB va bs (vc)∧f 11=Nx (bs.length)∧f 12=Nx (j))∧L=[pt S (.cells #[sB pH k.head cH,sB pA k.a cA,sB p ys c,Ix (pl k.power j)] 32),rB pH k.head cH,rB pA k.a cA,rB p ys c]∧(j≤pw k.power bs.length∧ys=wr k.b at_ (bs.take j))) (fun(j,ys,p,c)=>bs.length-j) (0,k.b,pB,cB) ?_ ?_
 ·exact⟨⟨rfl,rfl,rfl,rfl,rfl,rfl⟩,(by rw[oP];rfl),⟨by omega,by simp[wr]⟩⟩
 rintro⟨j,ys,p,c⟩ f0 L0 ⟨⟨hs0,hs1,hs2,hs10,hs11,hs12⟩,hL,⟨hj,hys⟩⟩
 subst L0
 refine dG 0 hs0 ?_
 refine dG 1 hs1 ?_
 refine dG 2 hs2 ?_
 refine dG 10 hs10 ?_
 refine dG 11 hs11 ?_
 refine dG 12 hs12 ?_
 have hyl:ys.length≤k.b.length+bs.length:=by rw[hys];refine Nat.le_trans iS ?_;simp;omega
 refine cC ?_
 refine lE jI ?_
 refine aW ?_
 refine aO ?_
 refine cK _ rfl (fun hc1=> ?_) (fun hc1=> ?_)
 ·have hc_:j<bs.length:=by omega
  refine eT ?_
  refine aO ?_
  refine aY ?_
  refine cC ?_
  refine lE bG ?_
  obtain⟨x2,hx3⟩:=kC bs j (by omega)
  obtain⟨ha4,cs5,hc6,rfl⟩:=ve _ _ hx3
  refine lE (rN bQ ha4) ?_
  refine lv (v:=Bx (x2)) (bZ gQ.ok rfl (kB hc6)) ?_
  iterate 2 refine lE bV ?_
  refine eJ ?_
  refine lE eP ?_
  refine gC rfl rfl rfl (cY (vs:=[.pointer (some (⟨J,0,none⟩))]) aGg.ok rfl rfl) ?_
  intro w hw
  obtain⟨β1,sb,kn,hw1,back⟩:=St.frame (L:=[_]) (M:=_::_::_::[]) hw
  refine(oC β1 w J S (Cs.mono _ _ _ _ sb hJ) (sB pH k.head cH) (sB pA k.a cA) (sB p ys c) (pl k.power j) (by have:=sM k.power j;omega) hw1).mono ?_
  rintro e w' (⟨rfl,hp8,hw'⟩|⟨rfl,hp8,hw'⟩)
  ·refine .inl ⟨_,rfl,_,back _ _ hw',?_⟩
   refine dD ?_
   refine fU ?_
   refine dD ?_
   refine dD ?_
   refine fU ?_
   refine pE ?_
   intro w hw
   obtain⟨e1,e3⟩:=oS hj hc_ hp8
   have e2:ys=lJ k.b k.power at_ bs:=by rw[hys,lJ,e1]
   subst e2
   rw[hp8,←e3]at hw
   exact .inl ⟨rfl,by unfold eI;omega,St.closeStore (k:={k with b:=lJ k.b k.power at_ bs,power:=pl k.power bs.length}) (aF [true,true,true,true] rfl hw)⟩
  refine .inr ⟨_,rfl,_,back _ _ hw',?_⟩
  refine aW ?_
  refine aO ?_
  have hpst:=oR hj hc_ hp8
  refine aC ?_
  iterate 2 refine lE bG ?_
  refine lE xS ?_
  refine lE eP ?_
  refine lE eY ?_
  refine lE (fA 0) ?_
  refine lE fC ?_
  refine lE jI ?_
  refine aW ?_
  refine cK _ rfl (fun hc9=> ?_) (fun hc9=> ?_)
  ·refine aC ?_
   refine lE eP ?_
   refine lE eY ?_
   refine lE (fA 0) ?_
   iterate 2 refine lE bG ?_
   refine lE xS ?_
   refine lE bG ?_
   refine lv (v:= .pointer (some ((ba p).add ((at_+j)*1)))) (dK 3 (j:=at_+j) (len:=(ys).length) (cap:=c) (p:=p) rfl rfl bQ (by omega) (by omega) rfl) ?_
   refine lu (fJ 3 gQ.ok (o:=(at_+j)*1) (v:=Bx (x2)) rfl rfl rfl rfl rfl (by omega) (by omega)) ?_
   refine pR (L':=[pt S (.cells #[.slice pH (k.head).length cH,.slice pA (k.a).length cA,.slice p ((ys.set (at_+j) x2)).length c,Ix (dN (pl k.power j))] 32),row (.slice pH (k.head).length cH) 5 1 ((k.head).length) (BX k.head),row (.slice pA (k.a).length cA) 5 1 ((k.a).length) (BX k.a),row (.slice p ((ys.set (at_+j) x2)).length c) 5 1 (((ys.set (at_+j) x2)).length) (BX (ys.set (at_+j) x2))]) (by show [pt S (.cells #[.slice pH (k.head).length cH,.slice pA (k.a).length cA,.slice p (ys).length c,Ix (dN (pl k.power j))] 32),row (.slice pH (k.head).length cH) 5 1 ((k.head).length) (BX k.head),row (.slice pA (k.a).length cA) 5 1 ((k.a).length) (BX k.a),row (.slice p (ys).length c) 5 1 ((ys).length) ((kE (BX ys) ((at_+j)*1) [Bx (x2)]))]=_;rw[gX (by omega)];simp only[List.length_set]) ?_
   refine aG ?_
   refine bD ?_
   refine aQ ?_
   refine aC ?_
   refine lv (v:=Nx (j+1)) (bJ rfl rfl (bU (by omega) (by omega))) ?_
   refine lE bG ?_
   refine aG ?_
   exact bT ⟨(j+1,(ys.set (at_+j) x2),p,c),⟨⟨rfl,rfl,rfl,rfl,rfl,rfl⟩,(by rw[hpst.2]),⟨hpst.1,by rw[hys,fM hx3,if_pos (by rw[←hys];omega)]⟩⟩,(show bs.length-(j+1)<bs.length-j from by omega)⟩
  refine aC ?_
  iterate 2 refine lE eP ?_
  refine lE eY ?_
  refine lE (fA 0) ?_
  refine lE bG ?_
  refine cF rfl rfl rfl (cO bQ iG.ok (cells:= #[Bx (x2)]) rfl rfl rfl rfl) ?_
  rintro _ _ ⟨b10,rfl,rfl⟩
  refine cF rfl rfl rfl (cG (enc:=fun c:UInt8=>Bx c) 4 dJ bQ fV (v:=sB p ys c) (xs:=ys) (ys:=[x2]) (ao:=some ⟨b10,0,none⟩) (c:=1) rfl rfl (by first|rfl|simp) rfl (by first|rfl|simp) (fO 0 (xs:=[x2]) rfl) (by first|omega|(simp only[List.length_append,List.length_nil,List.length_cons,aL]at*;omega)) (by first|omega|(simp only[List.length_append,List.length_nil,List.length_cons,aL]at*;omega))) ?_
  rintro _ _ ⟨rp11,rc12,rfl,rfl⟩
  refine lE eY ?_
  refine lu (mS 1 (#[sB pH k.head cH,sB pA k.a cA,sB rp11 (ys++[x2]) rc12,Ix (dN (pl k.power j))])) ?_
  refine aG ?_
  refine bD ?_
  refine aQ ?_
  refine aC ?_
  refine lv (v:=Nx (j+1)) (bJ rfl rfl (bU (by omega) (by omega))) ?_
  refine lE bG ?_
  refine aG ?_
  refine dL (L':=[pt S (.cells #[sB pH k.head cH,sB pA k.a cA,sB rp11 (ys++[x2]) rc12,Ix (dN (pl k.power j))] 32),rB pH k.head cH,rB pA k.a cA,rB rp11 (ys++[x2]) rc12]) [false,true,true,true,true] rfl ?_
  exact bT ⟨(j+1,ys++[x2],rp11,rc12),⟨⟨rfl,rfl,rfl,rfl,rfl,rfl⟩,(by rw[hpst.2]),⟨hpst.1,by rw[hys,fM hx3,if_neg (by rw[←hys];omega)]⟩⟩,(show bs.length-(j+1)<bs.length-j from by omega)⟩
 refine dZ ?_
 refine aU ?_
 refine aU ?_
 refine eA ?_
 refine nS Try.results53 ?_
 intro w hw
 obtain⟨e1,rfl⟩:=rP hj (by omega)
 have e2:ys=lJ k.b k.power at_ bs:=by rw[hys,lJ,e1]
 subst e2
 exact .inr ⟨rfl,e1,St.closeStore (k:={k with b:=lJ k.b k.power at_ bs,power:=pl k.power bs.length}) (aF [true,true,true,true] rfl hw)⟩
theorem aGx(β:Base)(w:World)(J S:Nat)(hJ:Cs β.heap ⟨J,0,none⟩ [pp S 0])(k:KS)(hk:k.head.length≤1048576∧k.a.length≤1048576∧k.b.length≤1048576∧k.power≤9223372036854775807)(size:Nat)(hw:St β [aS S k] w):Calls Try.prog 56 #[pp J 0,pp S 1,Nx size] w fun r w'=>(r= .panicked xQ∧¬cutOk k.a k.power size∧k.power=0∧St β [aS S k] w')∨(r= .returned (.tuple #[])∧cutOk k.a k.power size∧St β [aS S {k with a:=gV k.a k.power size,power:=fP k.a k.power size}] w'):=by
 obtain⟨pH,pA,pB,cH,cA,cB,hw⟩:=St.openStore hw
 refine enter (n:=21) Try.func56 rfl Try.ntmps56 rfl ?_ hw
 refine cC ?_
 refine lE eP ?_
 refine lE eY ?_
 refine lE (fA 0) ?_
 refine lE fC ?_
 refine lE bG ?_
 refine lE qZ ?_
 refine aW ?_
 refine cK _ rfl (fun hc1=> ?_) (fun hc1=> ?_)
 ·refine cC ?_
  refine lE eP ?_
  refine gC rfl rfl rfl (cY (vs:=[.pointer (some (⟨J,0,none⟩))]) aGg.ok rfl rfl) ?_
  intro w hw
  obtain⟨β1,sb,kn,hw1,back⟩:=St.frame (L:=[_]) (M:=_::_::_::[]) hw
  refine(oC β1 w J S (Cs.mono _ _ _ _ sb hJ) (sB pH k.head cH) (sB pA k.a cA) (sB pB k.b cB) k.power (by have:=sM k.power;omega) hw1).mono ?_
  rintro e w' (⟨rfl,hp2,hw'⟩|⟨rfl,hp2,hw'⟩)
  ·refine .inl ⟨_,rfl,_,back _ _ hw',?_⟩
   refine dD ?_
   refine pE ?_
   intro w hw
   exact .inl ⟨rfl,by unfold cutOk;omega,hp2,St.closeStore (k:=k) (aF [true,true,true,true] rfl hw)⟩
  refine .inr ⟨_,rfl,_,back _ _ hw',?_⟩
  refine aW ?_
  refine bA 2 rfl (fun hcl hcm=> ?_)
  refine aC ?_
  iterate 2 refine lE eP ?_
  refine lE eY ?_
  refine lE (fA 0) ?_
  refine lE bG ?_
  refine lv (v:= .slice pA (size) cA) (dF (a:=pA) (len:=(k.a).length) (cap:=cA) (h:=size) bQ rfl rfl (by omega)) ?_
  refine lE eY ?_
  refine lu (mS 0 (#[sB pH k.head cH,.slice pA (size) cA,sB pB k.b cB,Ix (dN (k.power))])) ?_
  refine aG ?_
  refine nS Try.results56 ?_
  intro w hw
  have hw:=hw.conseq_at 2 rfl (fun a h=>kW (h:=size) h (by omega))
  have e0:(k.a.take size).length=size:=by simp;omega
  have e1:gV k.a k.power size=k.a.take size:=if_neg hp2
  have e2:fP k.a k.power size=dN k.power:=if_pos (by omega)
  refine .inr ⟨rfl,.inr hp2,St.closeStore (k:={k with a:=gV k.a k.power size,power:=fP k.a k.power size}) (pH:=pH) (pA:=pA) (pB:=pB) (cH:=cH) (cA:=cA) (cB:=cB) ?_⟩
  show St β (Go.Jn.stL S pH pA pB cH cA cB {k with a:=gV k.a k.power size,power:=fP k.a k.power size}++[]) w
  rw[e1,e2]
  simp only[sB,rB,Go.Jn.stL,xL,e0]
  simp only[sB,rB,e0]at hw
  exact aF [true,true,true,true] rfl hw
 refine cM ?_
 refine nS Try.results56 ?_
 intro w hw
 refine .inr ⟨rfl,.inl (by omega),?_⟩
 rw[tB (by omega),tC (by omega)]
 exact St.closeStore (k:=k) (aF [true,true,true,true] rfl hw)
theorem aGy(β:Base)(w:World)(J S:Nat)(hJ:Cs β.heap ⟨J,0,none⟩ [pp S 0])(k:KS)(hk:k.head.length≤1048576∧k.a.length≤1048576∧k.b.length≤1048576∧k.power≤9223372036854775807)(size:Nat)(hw:St β [aS S k] w):Calls Try.prog 56 #[pp J 0,pp S 2,Nx size] w fun r w'=>(r= .panicked xQ∧¬cutOk k.b k.power size∧k.power=0∧St β [aS S k] w')∨(r= .returned (.tuple #[])∧cutOk k.b k.power size∧St β [aS S {k with b:=gV k.b k.power size,power:=fP k.b k.power size}] w'):=by
 obtain⟨pH,pA,pB,cH,cA,cB,hw⟩:=St.openStore hw
 refine enter (n:=21) Try.func56 rfl Try.ntmps56 rfl ?_ hw
 refine cC ?_
 refine lE eP ?_
 refine lE eY ?_
 refine lE (fA 0) ?_
 refine lE fC ?_
 refine lE bG ?_
 refine lE qZ ?_
 refine aW ?_
 refine cK _ rfl (fun hc1=> ?_) (fun hc1=> ?_)
 ·refine cC ?_
  refine lE eP ?_
  refine gC rfl rfl rfl (cY (vs:=[.pointer (some (⟨J,0,none⟩))]) aGg.ok rfl rfl) ?_
  intro w hw
  obtain⟨β1,sb,kn,hw1,back⟩:=St.frame (L:=[_]) (M:=_::_::_::[]) hw
  refine(oC β1 w J S (Cs.mono _ _ _ _ sb hJ) (sB pH k.head cH) (sB pA k.a cA) (sB pB k.b cB) k.power (by have:=sM k.power;omega) hw1).mono ?_
  rintro e w' (⟨rfl,hp2,hw'⟩|⟨rfl,hp2,hw'⟩)
  ·refine .inl ⟨_,rfl,_,back _ _ hw',?_⟩
   refine dD ?_
   refine pE ?_
   intro w hw
   exact .inl ⟨rfl,by unfold cutOk;omega,hp2,St.closeStore (k:=k) (aF [true,true,true,true] rfl hw)⟩
  refine .inr ⟨_,rfl,_,back _ _ hw',?_⟩
  refine aW ?_
  refine bA 3 rfl (fun hcl hcm=> ?_)
  refine aC ?_
  iterate 2 refine lE eP ?_
  refine lE eY ?_
  refine lE (fA 0) ?_
  refine lE bG ?_
  refine lv (v:= .slice pB (size) cB) (dF (a:=pB) (len:=(k.b).length) (cap:=cB) (h:=size) bQ rfl rfl (by omega)) ?_
  refine lE eY ?_
  refine lu (mS 0 (#[sB pH k.head cH,sB pA k.a cA,.slice pB (size) cB,Ix (dN (k.power))])) ?_
  refine aG ?_
  refine nS Try.results56 ?_
  intro w hw
  have hw:=hw.conseq_at 3 rfl (fun a h=>kW (h:=size) h (by omega))
  have e0:(k.b.take size).length=size:=by simp;omega
  have e1:gV k.b k.power size=k.b.take size:=if_neg hp2
  have e2:fP k.b k.power size=dN k.power:=if_pos (by omega)
  refine .inr ⟨rfl,.inr hp2,St.closeStore (k:={k with b:=gV k.b k.power size,power:=fP k.b k.power size}) (pH:=pH) (pA:=pA) (pB:=pB) (cH:=cH) (cA:=cA) (cB:=cB) ?_⟩
  show St β (Go.Jn.stL S pH pA pB cH cA cB {k with b:=gV k.b k.power size,power:=fP k.b k.power size}++[]) w
  rw[e1,e2]
  simp only[sB,rB,Go.Jn.stL,xL,e0]
  simp only[sB,rB,e0]at hw
  exact aF [true,true,true,true] rfl hw
 refine cM ?_
 refine nS Try.results56 ?_
 intro w hw
 refine .inr ⟨rfl,.inl (by omega),?_⟩
 rw[tB (by omega),tC (by omega)]
 exact St.closeStore (k:=k) (aF [true,true,true,true] rfl hw)
theorem oG(β:Base)(w:World)(hw:St β [] w)(J S:Nat)(hJ:Cs β.heap ⟨J,0,none⟩ [pp S 0]):kH Try.prog 54 #[pp J 0] β w (.bool true):=by
 refine enter (n:=12) Try.func54 rfl Try.ntmps54 rfl ?_ hw
 refine cC ?_
 refine lE eE ?_
 refine eJ ?_
 refine lE eP ?_
 refine lv (v:= .bool true) (pP (p:=some (⟨J,0,none⟩)) rfl rfl rX) ?_
 refine lE dQ ?_
 refine gE eP ?_
 refine gE eY ?_
 refine gE ofa ?_
 refine fN (v:=pp S 0) rfl rfl rfl rfl rfl (bZ aIi.ok rfl (aX.imp (kB hJ) (fun _ h=>Cs.sub (vs:=[pp S 0]) 0 h rfl))) ?_
 refine fN (v:= .bool true) rfl rfl rfl rfl rfl (pP (p:=some (⟨S,0,none⟩)) rfl rfl aGh) ?_
 refine lE dY ?_
 refine lE eE ?_
 refine aW ?_
 refine bB ?_
 refine dS Try.results54 rfl ?_
 intro w hw
 exact⟨rfl,aF [] rfl hw⟩
theorem aDe(β:Base)(w:World)(hw:St β [] w):kH Try.prog 54 #[.pointer none] β w (.bool false):=by
 refine enter (n:=12) Try.func54 rfl Try.ntmps54 rfl ?_ hw
 refine cC ?_
 refine lE eE ?_
 refine eJ ?_
 refine lE eP ?_
 refine lv (v:= .bool false) (pP (p:=none) rfl rfl rX) ?_
 refine lE dQ ?_
 iterate 5 refine iU ?_
 refine lE cR ?_
 refine lE eE ?_
 refine aW ?_
 refine bB ?_
 refine dS Try.results54 rfl ?_
 intro w hw
 exact⟨rfl,aF [] rfl hw⟩
theorem aFk(β:Base)(w:World)(hw:St β [] w)(J S:Nat)(x1 x2 x3 x4 x5:Value)(dn:Bool)(hJ:Cs β.heap ⟨J,0,none⟩ [pp S 0,x1,x2,x3,x4,x5,.bool (dn)])(bs:Bs)(v:Value)(hs:Sl bE β.heap v bs):kH Try.prog 49 #[pp J 0,v] β w (.int .i64 (uF dn bs)):=by
 obtain⟨va,vc,rfl,vl,vm,ve⟩:=hs.get
 refine enter (n:=18) Try.func49 rfl Try.ntmps49 rfl ?_ hw
 refine cC ?_
 refine lE bV ?_
 refine aW ?_
 refine aO ?_
 refine aY ?_
 refine cC ?_
 refine lE eP ?_
 refine gW gU (fun w β1 sb kn hw1=>oG β1 w hw1 J S (by have h0:=Cs.sub (vs:=[pp S 0]) 0 (Cs.mono _ _ _ _ sb hJ) rfl;rwa [Addr.add_zero']at h0)) ?_
 refine lE lI ?_
 refine lE eE ?_
 refine aW ?_
 refine dI rfl ?_
 refine cC ?_
 refine lE cX ?_
 refine lE fC ?_
 refine lE qZ ?_
 refine lE eE ?_
 refine aW ?_
 refine cK _ rfl (fun hc1=> ?_) (fun hc1=> ?_)
 ·refine cC ?_
  refine lE bV ?_
  refine aW ?_
  refine bB ?_
  refine bH ?_
  refine aK ?_
  refine dS Try.results49 rfl ?_
  intro w hw
  exact⟨by rw[uF,if_pos (by omega)]<;>rfl,aF [] rfl hw⟩
 refine cC ?_
 refine lE eP ?_
 refine lE eY ?_
 refine lE ofa ?_
 refine lv (v:= .bool (dn)) (bZ aMh.ok rfl (aX.imp (kB hJ) (fun _ h=>Cs.sub (vs:=[.bool (dn)]) 6 h rfl))) ?_
 refine lE eE ?_
 refine aW ?_
 refine yD (dn) rfl (fun hc2=> ?_) (fun hc2=> ?_)
 ·refine cC ?_
  refine lE bV ?_
  refine aW ?_
  refine bB ?_
  refine bH ?_
  refine aK ?_
  refine dS Try.results49 rfl ?_
  intro w hw
  exact⟨by rw[uF,if_neg (by omega),if_pos hc2]<;>rfl,aF [] rfl hw⟩
 refine cM ?_
 refine bD ?_
 refine qF ?_
 refine lE bV ?_
 refine aW ?_
 refine bB ?_
 refine dS Try.results49 rfl ?_
 intro w hw
 exact⟨by rw[uF,if_neg (by omega),if_neg (by rw[hc2];decide)]<;>rfl,aF [] rfl hw⟩
theorem aCs(β:Base)(w:World)(hw:St β [] w)(v:Value):kH Try.prog 49 #[.pointer none,v] β w (.int .i64 1):=by
 refine enter (n:=18) Try.func49 rfl Try.ntmps49 rfl ?_ hw
 refine cC ?_
 refine lE bV ?_
 refine aW ?_
 refine aO ?_
 refine aY ?_
 refine cC ?_
 refine lE eP ?_
 refine gW gU (fun w β1 sb kn hw1=>aDe β1 w hw1) ?_
 refine lE lI ?_
 refine lE eE ?_
 refine aW ?_
 refine dU rfl ?_
 refine cC ?_
 refine lE bV ?_
 refine aW ?_
 refine bB ?_
 refine bH ?_
 refine aK ?_
 refine dS Try.results49 rfl ?_
 intro w hw
 exact⟨rfl,aF [] rfl hw⟩
open Go Go.Sl Go.Jn
theorem aAs{fn:Func}{n:Nat}{args:Array Value}(hn:fn.ntmps=n)(hs:Nat.ble args.size n=true):At n [] (pJ args) {tmps:=args++Array.replicate (fn.ntmps-args.size) undef,defers:=[]}:=by
 refine⟨rfl,?_,fun i=> ?_⟩
 ·rw[hn]
  have:args.size≤n:=by simpa using hs
  simp;omega
 simp only[sB,rB,pJ,Array.getD_eq_getD_getElem?]
 by_cases hi:i<args.size
 ·rw[Array.getElem?_append_left hi]
 rw[Array.getElem?_append_right (by omega),Array.getElem?_eq_none (by omega:args.size≤i)]
 by_cases hj:i-args.size<fn.ntmps-args.size
 ·simp[hj]
 simp[hj]
theorem aDm{a b c:cE}{K:List cE}:((a::K)++[b,c]).Perm ([c,b,a]++K):=by
 have h1:((a::K)++[b,c]).Perm ([b,c]++(a::K)):=List.perm_append_comm
 exact h1.trans (List.Perm.swap c b (a::K))
theorem aLg:ifB Try.prog 20=true:=by kernel_rfl
instance tf42:TyC Try.prog 116 true 0:={}
instance tf43:TyC Try.prog 43 false 1:={}
instance aLh:TyC Try.prog 37 false 1:={}
instance tf45:ZerC Try.prog 37 (.int .i64 (0)):={}
theorem aDk(β:Base)(w:World)(b2 b4 J:Nat)(y x0 x1 x2 x3 x4 x5 x6:Value)(hw:St β [pt b2 (.cells #[pp J 0] 43),pt b4 (.cells #[y] 37),pt J (.cells #[x0,x1,x2,x3,x4,x5,x6] 84)] w):CallsD Try.prog 76 #[pp b2 0,pp b4 0] (.panicking xQ) w fun e u' w'=>
  e= .returned (.tuple #[])∧u'= .panicking [{v:= .iface 116 (.agg #[]),recovered:=true}]∧St β [pt b2 (.cells #[pp J 0] 43),pt b4 (.cells #[.int .i64 (310)] 37),pt J (.cells #[x0,x1,x2,x3,x4,x5,.bool true] 84)] w':=by
 refine callsD_of_wpS Try.func76 rfl fun c₀ cs hu=> ?_
 refine wpS_seq ?_
 refine zQ (n:=19) (ds:=[]) (f:=pJ #[pp b2 0,pp b4 0]) (d0:=5) (d1:=2) (v:= .iface 116 (.agg #[])) (cs':={c₀ with mode:= .panicking [{v:= .iface 116 (.agg #[]),recovered:=true}]}::cs) (aAs Try.ntmps76 rfl) rfl rfl rfl rfl rfl rfl rfl rfl (.inl (by simp[recoverD,hu,xQ])) (fun a' ha'=> ?_)
 refine aBv (L:=[pt b2 (.cells #[pp J 0] 43),pt b4 (.cells #[y] 37),pt J (.cells #[x0,x1,x2,x3,x4,x5,x6] 84)]) ?_ ha' hw
 refine cC ?_
 refine lv cV ?_
 refine lv (v:= .bool true) (aEa (u:=116) (v:=(.agg #[])) aLg rfl) ?_
 refine aW ?_
 refine dU rfl ?_
 refine dX ?_
 refine aC ?_
 refine lv cV ?_
 refine lv (v:= .tuple #[.agg #[],.bool true]) (aCg (v:= .agg #[]) rfl aLf) ?_
 refine lE iK ?_
 refine lE mV ?_
 refine lE xT ?_
 refine fZ fun b1=> ?_
 refine lu (mS 0 (#[])) ?_
 refine lE eE ?_
 refine eJ ?_
 refine lE dQ ?_
 refine lE lI ?_
 refine aW ?_
 refine dI rfl ?_
 refine eT ?_
 refine aC ?_
 refine lE (gD 1) ?_
 refine lE eY ?_
 refine lE bM ?_
 refine lu (mS 3 (#[x0,x1,x2,x3,x4,x5,.bool true])) ?_
 refine lu (mS 2 (#[.int .i64 (310)])) ?_
 refine aG ?_
 refine aKs Try.results76 ?_
 intro w hw
 exact⟨rfl,rfl,aF [false,true,true,true] rfl hw⟩
theorem aDl(β:Base)(w:World)(b2 b4:Nat)(L:List cE)(hw:St β L w):CallsD Try.prog 76 #[pp b2 0,pp b4 0] .returning w fun e u' w'=>e= .returned (.tuple #[])∧u'= .returning∧St β L w':=by
 refine callsD_of_wpS Try.func76 rfl fun c₀ cs hu=> ?_
 refine wpS_seq ?_
 refine zQ (n:=19) (ds:=[]) (f:=pJ #[pp b2 0,pp b4 0]) (d0:=5) (d1:=2) (v:= .nilIface) (cs':={c₀ with mode:= .returning}::cs) (aAs Try.ntmps76 rfl) rfl rfl rfl rfl rfl rfl rfl rfl (.inr ⟨by simp[recoverD,hu],rfl,by cases c₀;simp_all⟩) (fun a' ha'=> ?_)
 refine aBv (L:=L) ?_ ha' hw
 refine cC ?_
 refine lv cV ?_
 refine lv (v:= .bool false) (aCf aLg rfl) ?_
 refine aW ?_
 refine dI rfl ?_
 refine cM ?_
 refine aKs Try.results76 ?_
 intro w hw
 exact⟨rfl,rfl,hw⟩
theorem kX(β:Base)(w:World)(J F:Nat)(cap:List Value)(x0 x1 x2 x3 x4 x5 x6:Value)(K0 K1 K2:List cE)(A B:Prop)(hF:cfB Try.prog F=true)(hw:St β (pt J (.cells #[x0,x1,x2,x3,x4,x5,x6] 84)::K0) w)
 (hdo:∀β',gR β.heap β'.heap→∀w,St β' (pt J (.cells #[x0,x1,x2,x3,x4,x5,x6] 84)::K0) w→Calls Try.prog F cap.toArray w fun e w'=>(e= .panicked xQ∧B∧St β' (pt J (.cells #[x0,x1,x2,x3,x4,x5,x6] 84)::K2) w')∨(e= .returned (.tuple #[])∧A∧St β' (pt J (.cells #[x0,x1,x2,x3,x4,x5,x6] 84)::K1) w')):
  Calls Try.prog 51 #[pp J 0,.func (.func F) #[] cap.toArray] w fun e w'=>(e= .returned (.int .i64 0)∧A∧St β (pt J (.cells #[x0,x1,x2,x3,x4,x5,x6] 84)::K1) w')∨(e= .returned (.int .i64 310)∧B∧St β (pt J (.cells #[x0,x1,x2,x3,x4,x5,.bool true] 84)::K2) w'):=by
 refine aJs (n:=8) Try.func51 rfl Try.ntmps51 rfl ?_ hw
 refine cC ?_
 refine bxp fun b1=> ?_
 refine fZ fun b2=> ?_
 refine eJ ?_
 refine lv (v:= .func (.func 76) #[] #[pp b1 0,pp b2 0]) (pO (u:=[]) (v:=[pp b1 0,pp b2 0]) rfl rfl) ?_
 refine aHm (dd:={target:= .fn (.func 76) #[pp b1 0,pp b2 0],args:= #[]}) rfl rfl (fun w=>by simp[execOp,resolve,ev,fS,Deferred.ofValue]) ?_
 refine eJ ?_
 refine lE omf ?_
 refine gC rfl rfl rfl (cS (fst:=[]) (cap:=cap) (vs:=[]) (all:=cap) hF rfl rfl rfl) ?_
 intro w hw
 replace hw:=hw.perm (L':=(pt J (.cells #[x0,x1,x2,x3,x4,x5,x6] 84)::K0)++[pt b2 (.cells #[.int .i64 (0)] 37),pt b1 (.cells #[pp J 0] 43)]) (List.perm_append_comm (l₁:=[pt b2 (.cells #[.int .i64 (0)] 37),pt b1 (.cells #[pp J 0] 43)]))
 obtain⟨β1,sb,kn,hw1,back⟩:=St.frame hw
 refine(hdo β1 sb w hw1).mono ?_
 rintro e w' (⟨rfl,hB,hw'⟩|⟨rfl,hA,hw'⟩)
 ·refine .inl ⟨_,rfl,_,back _ _ hw',?_⟩
  refine dD ?_
  intro a w ha hw
  show Leaves _ _ a.tmps _ a.defers _ w
  rw[ha.defers]
  refine leaves_cons (f:=76) (args:= #[pp b1 0,pp b2 0]) (by simp) (by simp[invoke,oV (show cfB Try.prog 76=true from by kernel_rfl)]) ?_
  replace hw:=hw.perm (L':=[pt b1 (.cells #[pp J 0] 43),pt b2 (.cells #[.int .i64 (0)] 37),pt J (.cells #[x0,x1,x2,x3,x4,x5,x6] 84)]++K2) (by exact aDm)
  obtain⟨β2,sb2,kn2,hw2,back2⟩:=St.frame hw
  refine(aDk β2 w b1 b2 J _ x0 x1 x2 x3 x4 x5 x6 hw2).mono ?_
  rintro e u' w2 ⟨rfl,rfl,hw3⟩
  have hw4:=back2 _ _ hw3
  refine⟨_,oA (l:=[.cell 4 37]) (m:=[.int .i64 310]) Try.results51 ha.get hw4 ⟨zC aLh.ok (v:= .int .i64 310) rfl (dM 1 rfl rfl),trivial⟩,.inr ⟨rfl,hB,?_⟩⟩
  exact hw4.drop (List.Sublist.cons _ (List.Sublist.cons _ (List.Sublist.refl _)))
 refine .inr ⟨_,rfl,_,back _ _ hw',?_⟩
 refine eJ ?_
 refine pQ (L':=[pt b2 (.cells #[.int .i64 (0)] 37),pt b1 (.cells #[pp J 0] 43)]++(pt J (.cells #[x0,x1,x2,x3,x4,x5,x6] 84)::K1)) (by exact List.perm_append_comm) ?_
 refine lu (mS 0 (#[.int .i64 (0)])) ?_
 refine aW ?_
 refine bB ?_
 intro a w ha hw
 show Leaves _ _ a.tmps _ a.defers _ w
 rw[ha.defers]
 refine leaves_cons (f:=76) (args:= #[pp b1 0,pp b2 0]) (by simp) (by simp[invoke,oV (show cfB Try.prog 76=true from by kernel_rfl)]) ?_
 refine(aDl _ w b1 b2 _ hw).mono ?_
 rintro e u' w2 ⟨rfl,rfl,hw3⟩
 refine⟨_,oA (l:=[.cell 4 37]) (m:=[.int .i64 0]) Try.results51 ha.get hw3 ⟨zC aLh.ok (v:= .int .i64 0) rfl (dM 0 rfl rfl),trivial⟩,.inl ⟨rfl,hA,?_⟩⟩
 exact St.drop hw3 (List.Sublist.cons _ (List.Sublist.cons _ (List.Sublist.refl _)))
end Go.Proofs
