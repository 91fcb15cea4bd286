/-
  Own work; plain Lean (Jn2, Jn3).
-/
import Derived.Test.YtjejfkajcbdgjaaGreatJn1
import Derived.Test.YtjejfkajcbdgjaaGreatSlDef
set_option linter.all false
set_option maxHeartbeats 4000000
namespace Go.Proofs
open Go Go.Sl Go.Jn
theorem aGn(p:Int)(j:Nat):pl p j≤p:=by unfold pl;split<;>omega
theorem aDx(p:Int):pl p 0=p:=by unfold pl;split<;>omega
theorem aJt{xs:Bs}{p:Int}{size:Nat}(h:xs.length≤size):oK xs p size=xs:=by
 unfold oK;split
 ·rfl
 exact List.take_of_length_le h
theorem aJu{xs:Bs}{p:Int}{size:Nat}(h:xs.length≤size):kW xs p size=p:=if_neg (by omega)
def zS(dn:Bool)(bs:Bs):Int:=if 65536<bs.length then 3 else if dn=true then 310 else 0
instance tf30:FldC Tryz.prog 143 0 0 1 false:={}
instance aYi:TyC Tryz.prog 26 false 1:={}
theorem bIp:xC Tryz.prog 185 []=true:=by kernel_rfl
instance bIq:ZerC Tryz.prog 185 (.agg #[]):={}
theorem bFi:aRh Tryz.prog 185=true:=by kernel_rfl
instance aUc:CfC Tryz.prog 106:={}
theorem bFj:Tryz.prog.underlying 89=some (.pointer (Tryz.prog.pointee 89)):=by kernel_rfl
theorem bFk:Tryz.prog.underlying 26=some (.pointer (Tryz.prog.pointee 26)):=by kernel_rfl
instance tf38:CfC Tryz.prog 103:={}
instance tf39:FldC Tryz.prog 143 2 6 1 false:={}
instance bIr:TyC Tryz.prog 4 false 1:={}
theorem rW(β:Base)(w:World)(J S:Nat)(hJ:Cs β.heap ⟨J,0,none⟩ [pp S 0])(x0 x1 x2:Value)(p:Int)(hp:p≤9223372036854775807)(hw:St β [pt S (.cells #[x0,x1,x2,Ix (p)] 29)] w):Calls Tryz.prog 106 #[pp J 0] w fun r w'=>(r= .panicked chP∧p=0∧St β [pt S (.cells #[x0,x1,x2,Ix (p)] 29)] w')∨(r= .returned (.tuple #[])∧p≠0∧St β [pt S (.cells #[x0,x1,x2,Ix (fX p)] 29)] w'):=by
 refine enter (n:=32) Tryz.func106 rfl Tryz.ntmps106 rfl ?_ hw
 refine aJ (bD (lE dS (lE eS (lE ofa ?_))))
 refine lv (v:=pp S 0) (bI aYi.ok rfl (bH.imp (kB hJ) (fun _ h=>Cs.sub (vs:=[pp S 0]) 0 h rfl))) (lE eS (lE aY (lE (cY 0) ?_)))
 refine lE fD (lE dP (aN (cN _ rfl (fun hc1=> ?_) (fun hc1=> ?_))))
 ·refine aC (lv (v:= .agg #[]) (bV bIq.ok bIp (vs:=[]) (cells:= #[]) rfl rfl) ?_)
  refine lv (v:= .iface 185 (.agg #[])) (aVx (v:= .agg #[]) bFi rfl) (aWs (t:=185) (v:=(.agg #[])) rfl (iF (sX ?_)))
  intro w hw
  exact .inl ⟨rfl,by omega,aG [true] rfl hw⟩
 refine bD (lE dS (lE eS (lE ofa (lv (v:=pp S 0) (bI aYi.ok rfl (bH.imp (kB hJ) (fun _ h=>Cs.sub (vs:=[pp S 0]) 0 h rfl))) ?_))))
 refine lE eS (lE aY (lE (cY 0) (lE oQ (lE dP (aN (cN _ rfl (fun hc2=> ?_) (fun hc2=> ?_)))))))
 ·refine aC (lE dS (lE eS (lE ofa (lv (v:=pp S 0) (bI aYi.ok rfl (bH.imp (kB hJ) (fun _ h=>Cs.sub (vs:=[pp S 0]) 0 h rfl))) ?_))))
  refine lE eS (lE aY (lE (cY 0) (lE omn (lE eS (lE aY (lu (mS 0 (#[x0,x1,x2,Ix ((p)-(1:Int))])) (aH (aP (mZ Tryz.results106 ?_)))))))))
  intro w hw
  exact .inr ⟨rfl,by omega,by unfold fX;rw[if_pos (by omega)];exact aG [true] rfl hw⟩
 refine cG (aP (mZ Tryz.results106 ?_))
 intro w hw
 exact .inr ⟨rfl,by omega,by unfold fX;rw[if_neg (by omega)];exact aG [true] rfl hw⟩
theorem aCs(β:Base)(w:World)(J S:Nat)(hJ:Cs β.heap ⟨J,0,none⟩ [pp S 0])(k:KS)(hk:k.head.length≤1048576∧k.a.length≤1048576∧k.b.length≤1048576∧k.power≤9223372036854775807)(at_:Nat)(hat:at_≤1048576)(bs:Bs)(v:Value)(hb:bs.length≤1048576)(hs:Sl iT β.heap v bs)(hw:St β [aQ S k] w):Calls Tryz.prog 64 #[pp J 0,pp S 0,Nx at_,v] w fun r w'=>(r= .panicked chP∧¬kV k.power bs∧St β [aQ S {k with head:=tH k.head k.power at_ bs,power:=pl k.power bs.length}] w')∨(r= .returned (.tuple #[])∧kV k.power bs∧St β [aQ S {k with head:=tH k.head k.power at_ bs,power:=pl k.power bs.length}] w'):=by
 obtain⟨va,vc,rfl,vl,vm,ve⟩:=hs.get
 obtain⟨pH,pA,pB,cH,cA,cB,hw⟩:=St.openStore hw
 refine enter (n:=44) Tryz.func64 rfl Tryz.ntmps64 rfl ?_ hw
 refine bD (lE fL (lE gY (lE aU (aN (aJ ?_)))))
 refine cZ (fun(x_:Nat×Bs×Option Addr×Nat) f L=>match x_ with|(j,ys,p,c)=>(f 0= .pointer (some (⟨J,0,none⟩))∧f 1=pp S 0∧f 2=Nx (at_)∧f 10=sB va bs (vc)∧f 11=Nx (bs.length)∧f 12=Nx (j))∧L=[pt S (.cells #[sB p ys c,sB pA k.a cA,sB pB k.b cB,Ix (pl k.power j)] 29),rB p ys c,rB pA k.a cA,rB pB k.b cB]∧(j≤pw k.power bs.length∧ys=wr k.head at_ (bs.take j))) (fun(j,ys,p,c)=>bs.length-j) (0,k.head,pH,cH) ?_ ?_
 ·exact⟨⟨rfl,rfl,rfl,rfl,rfl,rfl⟩,(by rw[aDx];rfl),⟨by omega,by simp[wr]⟩⟩
 rintro⟨j,ys,p,c⟩ f0 L0 ⟨⟨hs0,hs1,hs2,hs10,hs11,hs12⟩,hL,⟨hj,hys⟩⟩
 subst L0
 refine bJ 0 hs0 (bJ 1 hs1 (bJ 2 hs2 (bJ 10 hs10 (bJ 11 hs11 (bJ 12 hs12 ?_)))))
 have hyl:ys.length≤k.head.length+bs.length:=by rw[hys];refine Nat.le_trans pT ?_;simp;omega
 refine bD (lE gN (aN (aL (cN _ rfl (fun hc1=> ?_) (fun hc1=> ?_)))))
 ·have hc_:j<bs.length:=by omega
  refine eB (aL (aJ (bD (lE aU ?_))))
  obtain⟨x2,hx3⟩:=kX bs j (by omega)
  obtain⟨ha4,cs5,hc6,rfl⟩:=ve _ _ hx3
  refine lE (sW kE ha4) (lv (v:=Bx (x2)) (bI aJf.ok rfl (kB hc6)) (lE bN (lE bN (eY (lE dS ?_)))))
  refine iJ rfl rfl rfl (cT (vs:=[.pointer (some (⟨J,0,none⟩))]) aUc.ok rfl rfl) ?_
  intro w hw
  obtain⟨β1,sb,kn,hw1,back⟩:=St.frame (L:=[_]) (M:=_::_::_::[]) hw
  refine(rW β1 w J S (Cs.mono _ _ _ _ sb hJ) (sB p ys c) (sB pA k.a cA) (sB pB k.b cB) (pl k.power j) (by have:=aGn k.power j;omega) hw1).mono ?_
  rintro e w' (⟨rfl,hp8,hw'⟩|⟨rfl,hp8,hw'⟩)
  ·refine .inl ⟨_,rfl,_,back _ _ hw',?_⟩
   refine eG (iF (eG (eG (iF (sX ?_)))))
   intro w hw
   obtain⟨e1,e3⟩:=aEb hj hc_ hp8
   have e2:ys=tH k.head k.power at_ bs:=by rw[hys,tH,e1]
   subst e2
   rw[hp8,←e3]at hw
   exact .inl ⟨rfl,by unfold kV;omega,St.closeStore (k:={k with head:=tH k.head k.power at_ bs,power:=pl k.power bs.length}) (aG [true,true,true,true] rfl hw)⟩
  refine .inr ⟨_,rfl,_,back _ _ hw',?_⟩
  refine aN (aL ?_)
  have hpst:=aEa hj hc_ hp8
  refine aC (lE aU (lE aU (lE opn (lE dS (lE eS (lE (fQ 0) (lE gY (lE gN (aN (cN _ rfl (fun hc9=> ?_) (fun hc9=> ?_)))))))))))
  ·refine aC (lE dS (lE eS (lE (fQ 0) (lE aU (lE aU (lE opn (lE aU ?_)))))))
   refine lv (v:= .pointer (some ((ba p).add ((at_+j)*1)))) (qG 1 (j:=at_+j) (len:=(ys).length) (cap:=c) (p:=p) rfl rfl kE (by omega) (by omega) rfl) ?_
   refine lu (qN 1 aJf.ok (o:=(at_+j)*1) (v:=Bx (x2)) rfl rfl rfl rfl rfl (by omega) (by omega)) ?_
   refine aWt (L':=[pt S (.cells #[.slice p ((ys.set (at_+j) x2)).length c,.slice pA (k.a).length cA,.slice pB (k.b).length cB,Ix (fX (pl k.power j))] 29),row (.slice p ((ys.set (at_+j) x2)).length c) 5 1 (((ys.set (at_+j) x2)).length) (BX (ys.set (at_+j) x2)),row (.slice pA (k.a).length cA) 5 1 ((k.a).length) (BX k.a),row (.slice pB (k.b).length cB) 5 1 ((k.b).length) (BX k.b)]) (by show [pt S (.cells #[.slice p (ys).length c,.slice pA (k.a).length cA,.slice pB (k.b).length cB,Ix (fX (pl k.power j))] 29),row (.slice p (ys).length c) 5 1 ((ys).length) ((rP (BX ys) ((at_+j)*1) [Bx (x2)])),row (.slice pA (k.a).length cA) 5 1 ((k.a).length) (BX k.a),row (.slice pB (k.b).length cB) 5 1 ((k.b).length) (BX k.b)]=_;rw[zJ (by omega)];simp only[List.length_set]) ?_
   refine aH (aP (bA (aC (lv (v:=Nx (j+1)) (bO rfl rfl (cW (by omega) (by omega))) (lE aU (aH ?_))))))
   exact bG ⟨(j+1,(ys.set (at_+j) x2),p,c),⟨⟨rfl,rfl,rfl,rfl,rfl,rfl⟩,(by rw[hpst.2]),⟨hpst.1,by rw[hys,sS hx3,if_pos (by rw[←hys];omega)]⟩⟩,(show bs.length-(j+1)<bs.length-j from by omega)⟩
  refine aC (lE dS (lE dS (lE eS (lE (fQ 0) (lE aU (dA rfl rfl rfl (bZ kE aOm.ok (cells:= #[Bx (x2)]) rfl rfl rfl rfl) ?_))))))
  rintro _ _ ⟨b10,rfl,rfl⟩
  refine dA rfl rfl rfl (mO (enc:=fun c:UInt8=>Bx c) 2 sF kE aHc (v:=sB p ys c) (xs:=ys) (ys:=[x2]) (ao:=some ⟨b10,0,none⟩) (c:=1) rfl rfl (by first|rfl|simp) rfl (by first|rfl|simp) (aKq 0 (xs:=[x2]) rfl) (by first|omega|(simp only[List.length_append,List.length_nil,List.length_cons,bX]at*;omega)) (by first|omega|(simp only[List.length_append,List.length_nil,List.length_cons,bX]at*;omega))) ?_
  rintro _ _ ⟨rp11,rc12,rfl,rfl⟩
  refine lE eS (lu (mS 1 (#[sB rp11 (ys++[x2]) rc12,sB pA k.a cA,sB pB k.b cB,Ix (fX (pl k.power j))])) (aH (aP (bA (aC ?_)))))
  refine lv (v:=Nx (j+1)) (bO rfl rfl (cW (by omega) (by omega))) (lE aU (aH ?_))
  refine dD (L':=[pt S (.cells #[sB rp11 (ys++[x2]) rc12,sB pA k.a cA,sB pB k.b cB,Ix (fX (pl k.power j))] 29),rB rp11 (ys++[x2]) rc12,rB pA k.a cA,rB pB k.b cB]) [false,true,true,true,true] rfl ?_
  exact bG ⟨(j+1,ys++[x2],rp11,rc12),⟨⟨rfl,rfl,rfl,rfl,rfl,rfl⟩,(by rw[hpst.2]),⟨hpst.1,by rw[hys,sS hx3,if_neg (by rw[←hys];omega)]⟩⟩,(show bs.length-(j+1)<bs.length-j from by omega)⟩
 refine cK (aF (aF (cL (mZ Tryz.results64 ?_))))
 intro w hw
 obtain⟨e1,rfl⟩:=aIs hj (by omega)
 have e2:ys=tH k.head k.power at_ bs:=by rw[hys,tH,e1]
 subst e2
 exact .inr ⟨rfl,e1,St.closeStore (k:={k with head:=tH k.head k.power at_ bs,power:=pl k.power bs.length}) (aG [true,true,true,true] rfl hw)⟩
theorem aOy(β:Base)(w:World)(J S:Nat)(hJ:Cs β.heap ⟨J,0,none⟩ [pp S 0])(k:KS)(hk:k.head.length≤1048576∧k.a.length≤1048576∧k.b.length≤1048576∧k.power≤9223372036854775807)(at_:Nat)(hat:at_≤1048576)(bs:Bs)(v:Value)(hb:bs.length≤1048576)(hs:Sl iT β.heap v bs)(hw:St β [aQ S k] w):Calls Tryz.prog 64 #[pp J 0,pp S 1,Nx at_,v] w fun r w'=>(r= .panicked chP∧¬kV k.power bs∧St β [aQ S {k with a:=tH k.a k.power at_ bs,power:=pl k.power bs.length}] w')∨(r= .returned (.tuple #[])∧kV k.power bs∧St β [aQ S {k with a:=tH k.a k.power at_ bs,power:=pl k.power bs.length}] w'):=by
 obtain⟨va,vc,rfl,vl,vm,ve⟩:=hs.get
 obtain⟨pH,pA,pB,cH,cA,cB,hw⟩:=St.openStore hw
 refine enter (n:=44) Tryz.func64 rfl Tryz.ntmps64 rfl ?_ hw
 refine bD (lE fL (lE gY (lE aU (aN (aJ ?_)))))
 refine cZ (fun(x_:Nat×Bs×Option Addr×Nat) f L=>match x_ with|(j,ys,p,c)=>(f 0= .pointer (some (⟨J,0,none⟩))∧f 1=pp S 1∧f 2=Nx (at_)∧f 10=sB va bs (vc)∧f 11=Nx (bs.length)∧f 12=Nx (j))∧L=[pt S (.cells #[sB pH k.head cH,sB p ys c,sB pB k.b cB,Ix (pl k.power j)] 29),rB pH k.head cH,rB p ys c,rB pB k.b cB]∧(j≤pw k.power bs.length∧ys=wr k.a at_ (bs.take j))) (fun(j,ys,p,c)=>bs.length-j) (0,k.a,pA,cA) ?_ ?_
 ·exact⟨⟨rfl,rfl,rfl,rfl,rfl,rfl⟩,(by rw[aDx];rfl),⟨by omega,by simp[wr]⟩⟩
 rintro⟨j,ys,p,c⟩ f0 L0 ⟨⟨hs0,hs1,hs2,hs10,hs11,hs12⟩,hL,⟨hj,hys⟩⟩
 subst L0
 refine bJ 0 hs0 (bJ 1 hs1 (bJ 2 hs2 (bJ 10 hs10 (bJ 11 hs11 (bJ 12 hs12 ?_)))))
 have hyl:ys.length≤k.a.length+bs.length:=by rw[hys];refine Nat.le_trans pT ?_;simp;omega
 refine bD (lE gN (aN (aL (cN _ rfl (fun hc1=> ?_) (fun hc1=> ?_)))))
 ·have hc_:j<bs.length:=by omega
  refine eB (aL (aJ (bD (lE aU ?_))))
  obtain⟨x2,hx3⟩:=kX bs j (by omega)
  obtain⟨ha4,cs5,hc6,rfl⟩:=ve _ _ hx3
  refine lE (sW kE ha4) (lv (v:=Bx (x2)) (bI aJf.ok rfl (kB hc6)) (lE bN (lE bN (eY (lE dS ?_)))))
  refine iJ rfl rfl rfl (cT (vs:=[.pointer (some (⟨J,0,none⟩))]) aUc.ok rfl rfl) ?_
  intro w hw
  obtain⟨β1,sb,kn,hw1,back⟩:=St.frame (L:=[_]) (M:=_::_::_::[]) hw
  refine(rW β1 w J S (Cs.mono _ _ _ _ sb hJ) (sB pH k.head cH) (sB p ys c) (sB pB k.b cB) (pl k.power j) (by have:=aGn k.power j;omega) hw1).mono ?_
  rintro e w' (⟨rfl,hp8,hw'⟩|⟨rfl,hp8,hw'⟩)
  ·refine .inl ⟨_,rfl,_,back _ _ hw',?_⟩
   refine eG (iF (eG (eG (iF (sX ?_)))))
   intro w hw
   obtain⟨e1,e3⟩:=aEb hj hc_ hp8
   have e2:ys=tH k.a k.power at_ bs:=by rw[hys,tH,e1]
   subst e2
   rw[hp8,←e3]at hw
   exact .inl ⟨rfl,by unfold kV;omega,St.closeStore (k:={k with a:=tH k.a k.power at_ bs,power:=pl k.power bs.length}) (aG [true,true,true,true] rfl hw)⟩
  refine .inr ⟨_,rfl,_,back _ _ hw',?_⟩
  refine aN (aL ?_)
  have hpst:=aEa hj hc_ hp8
  refine aC (lE aU (lE aU (lE opn (lE dS (lE eS (lE (fQ 0) (lE gY (lE gN (aN (cN _ rfl (fun hc9=> ?_) (fun hc9=> ?_)))))))))))
  ·refine aC (lE dS (lE eS (lE (fQ 0) (lE aU (lE aU (lE opn (lE aU ?_)))))))
   refine lv (v:= .pointer (some ((ba p).add ((at_+j)*1)))) (qG 2 (j:=at_+j) (len:=(ys).length) (cap:=c) (p:=p) rfl rfl kE (by omega) (by omega) rfl) ?_
   refine lu (qN 2 aJf.ok (o:=(at_+j)*1) (v:=Bx (x2)) rfl rfl rfl rfl rfl (by omega) (by omega)) ?_
   refine aWt (L':=[pt S (.cells #[.slice pH (k.head).length cH,.slice p ((ys.set (at_+j) x2)).length c,.slice pB (k.b).length cB,Ix (fX (pl k.power j))] 29),row (.slice pH (k.head).length cH) 5 1 ((k.head).length) (BX k.head),row (.slice p ((ys.set (at_+j) x2)).length c) 5 1 (((ys.set (at_+j) x2)).length) (BX (ys.set (at_+j) x2)),row (.slice pB (k.b).length cB) 5 1 ((k.b).length) (BX k.b)]) (by show [pt S (.cells #[.slice pH (k.head).length cH,.slice p (ys).length c,.slice pB (k.b).length cB,Ix (fX (pl k.power j))] 29),row (.slice pH (k.head).length cH) 5 1 ((k.head).length) (BX k.head),row (.slice p (ys).length c) 5 1 ((ys).length) ((rP (BX ys) ((at_+j)*1) [Bx (x2)])),row (.slice pB (k.b).length cB) 5 1 ((k.b).length) (BX k.b)]=_;rw[zJ (by omega)];simp only[List.length_set]) ?_
   refine aH (aP (bA (aC (lv (v:=Nx (j+1)) (bO rfl rfl (cW (by omega) (by omega))) (lE aU (aH ?_))))))
   exact bG ⟨(j+1,(ys.set (at_+j) x2),p,c),⟨⟨rfl,rfl,rfl,rfl,rfl,rfl⟩,(by rw[hpst.2]),⟨hpst.1,by rw[hys,sS hx3,if_pos (by rw[←hys];omega)]⟩⟩,(show bs.length-(j+1)<bs.length-j from by omega)⟩
  refine aC (lE dS (lE dS (lE eS (lE (fQ 0) (lE aU (dA rfl rfl rfl (bZ kE aOm.ok (cells:= #[Bx (x2)]) rfl rfl rfl rfl) ?_))))))
  rintro _ _ ⟨b10,rfl,rfl⟩
  refine dA rfl rfl rfl (mO (enc:=fun c:UInt8=>Bx c) 3 sF kE aHc (v:=sB p ys c) (xs:=ys) (ys:=[x2]) (ao:=some ⟨b10,0,none⟩) (c:=1) rfl rfl (by first|rfl|simp) rfl (by first|rfl|simp) (aKq 0 (xs:=[x2]) rfl) (by first|omega|(simp only[List.length_append,List.length_nil,List.length_cons,bX]at*;omega)) (by first|omega|(simp only[List.length_append,List.length_nil,List.length_cons,bX]at*;omega))) ?_
  rintro _ _ ⟨rp11,rc12,rfl,rfl⟩
  refine lE eS (lu (mS 1 (#[sB pH k.head cH,sB rp11 (ys++[x2]) rc12,sB pB k.b cB,Ix (fX (pl k.power j))])) (aH (aP (bA (aC ?_)))))
  refine lv (v:=Nx (j+1)) (bO rfl rfl (cW (by omega) (by omega))) (lE aU (aH ?_))
  refine dD (L':=[pt S (.cells #[sB pH k.head cH,sB rp11 (ys++[x2]) rc12,sB pB k.b cB,Ix (fX (pl k.power j))] 29),rB pH k.head cH,rB rp11 (ys++[x2]) rc12,rB pB k.b cB]) [false,true,true,true,true] rfl ?_
  exact bG ⟨(j+1,ys++[x2],rp11,rc12),⟨⟨rfl,rfl,rfl,rfl,rfl,rfl⟩,(by rw[hpst.2]),⟨hpst.1,by rw[hys,sS hx3,if_neg (by rw[←hys];omega)]⟩⟩,(show bs.length-(j+1)<bs.length-j from by omega)⟩
 refine cK (aF (aF (cL (mZ Tryz.results64 ?_))))
 intro w hw
 obtain⟨e1,rfl⟩:=aIs hj (by omega)
 have e2:ys=tH k.a k.power at_ bs:=by rw[hys,tH,e1]
 subst e2
 exact .inr ⟨rfl,e1,St.closeStore (k:={k with a:=tH k.a k.power at_ bs,power:=pl k.power bs.length}) (aG [true,true,true,true] rfl hw)⟩
theorem aOz(β:Base)(w:World)(J S:Nat)(hJ:Cs β.heap ⟨J,0,none⟩ [pp S 0])(k:KS)(hk:k.head.length≤1048576∧k.a.length≤1048576∧k.b.length≤1048576∧k.power≤9223372036854775807)(at_:Nat)(hat:at_≤1048576)(bs:Bs)(v:Value)(hb:bs.length≤1048576)(hs:Sl iT β.heap v bs)(hw:St β [aQ S k] w):Calls Tryz.prog 64 #[pp J 0,pp S 2,Nx at_,v] w fun r w'=>(r= .panicked chP∧¬kV k.power bs∧St β [aQ S {k with b:=tH k.b k.power at_ bs,power:=pl k.power bs.length}] w')∨(r= .returned (.tuple #[])∧kV k.power bs∧St β [aQ S {k with b:=tH k.b k.power at_ bs,power:=pl k.power bs.length}] w'):=by
 obtain⟨va,vc,rfl,vl,vm,ve⟩:=hs.get
 obtain⟨pH,pA,pB,cH,cA,cB,hw⟩:=St.openStore hw
 refine enter (n:=44) Tryz.func64 rfl Tryz.ntmps64 rfl ?_ hw
 refine bD (lE fL (lE gY (lE aU (aN (aJ ?_)))))
 refine cZ (fun(x_:Nat×Bs×Option Addr×Nat) f L=>match x_ with|(j,ys,p,c)=>(f 0= .pointer (some (⟨J,0,none⟩))∧f 1=pp S 2∧f 2=Nx (at_)∧f 10=sB va bs (vc)∧f 11=Nx (bs.length)∧f 12=Nx (j))∧L=[pt S (.cells #[sB pH k.head cH,sB pA k.a cA,sB p ys c,Ix (pl k.power j)] 29),rB pH k.head cH,rB pA k.a cA,rB p ys c]∧(j≤pw k.power bs.length∧ys=wr k.b at_ (bs.take j))) (fun(j,ys,p,c)=>bs.length-j) (0,k.b,pB,cB) ?_ ?_
 ·exact⟨⟨rfl,rfl,rfl,rfl,rfl,rfl⟩,(by rw[aDx];rfl),⟨by omega,by simp[wr]⟩⟩
 rintro⟨j,ys,p,c⟩ f0 L0 ⟨⟨hs0,hs1,hs2,hs10,hs11,hs12⟩,hL,⟨hj,hys⟩⟩
 subst L0
 refine bJ 0 hs0 (bJ 1 hs1 (bJ 2 hs2 (bJ 10 hs10 (bJ 11 hs11 (bJ 12 hs12 ?_)))))
 have hyl:ys.length≤k.b.length+bs.length:=by rw[hys];refine Nat.le_trans pT ?_;simp;omega
 refine bD (lE gN (aN (aL (cN _ rfl (fun hc1=> ?_) (fun hc1=> ?_)))))
 ·have hc_:j<bs.length:=by omega
  refine eB (aL (aJ (bD (lE aU ?_))))
  obtain⟨x2,hx3⟩:=kX bs j (by omega)
  obtain⟨ha4,cs5,hc6,rfl⟩:=ve _ _ hx3
  refine lE (sW kE ha4) (lv (v:=Bx (x2)) (bI aJf.ok rfl (kB hc6)) (lE bN (lE bN (eY (lE dS ?_)))))
  refine iJ rfl rfl rfl (cT (vs:=[.pointer (some (⟨J,0,none⟩))]) aUc.ok rfl rfl) ?_
  intro w hw
  obtain⟨β1,sb,kn,hw1,back⟩:=St.frame (L:=[_]) (M:=_::_::_::[]) hw
  refine(rW β1 w J S (Cs.mono _ _ _ _ sb hJ) (sB pH k.head cH) (sB pA k.a cA) (sB p ys c) (pl k.power j) (by have:=aGn k.power j;omega) hw1).mono ?_
  rintro e w' (⟨rfl,hp8,hw'⟩|⟨rfl,hp8,hw'⟩)
  ·refine .inl ⟨_,rfl,_,back _ _ hw',?_⟩
   refine eG (iF (eG (eG (iF (sX ?_)))))
   intro w hw
   obtain⟨e1,e3⟩:=aEb hj hc_ hp8
   have e2:ys=tH k.b k.power at_ bs:=by rw[hys,tH,e1]
   subst e2
   rw[hp8,←e3]at hw
   exact .inl ⟨rfl,by unfold kV;omega,St.closeStore (k:={k with b:=tH k.b k.power at_ bs,power:=pl k.power bs.length}) (aG [true,true,true,true] rfl hw)⟩
  refine .inr ⟨_,rfl,_,back _ _ hw',?_⟩
  refine aN (aL ?_)
  have hpst:=aEa hj hc_ hp8
  refine aC (lE aU (lE aU (lE opn (lE dS (lE eS (lE (fQ 0) (lE gY (lE gN (aN (cN _ rfl (fun hc9=> ?_) (fun hc9=> ?_)))))))))))
  ·refine aC (lE dS (lE eS (lE (fQ 0) (lE aU (lE aU (lE opn (lE aU ?_)))))))
   refine lv (v:= .pointer (some ((ba p).add ((at_+j)*1)))) (qG 3 (j:=at_+j) (len:=(ys).length) (cap:=c) (p:=p) rfl rfl kE (by omega) (by omega) rfl) ?_
   refine lu (qN 3 aJf.ok (o:=(at_+j)*1) (v:=Bx (x2)) rfl rfl rfl rfl rfl (by omega) (by omega)) ?_
   refine aWt (L':=[pt S (.cells #[.slice pH (k.head).length cH,.slice pA (k.a).length cA,.slice p ((ys.set (at_+j) x2)).length c,Ix (fX (pl k.power j))] 29),row (.slice pH (k.head).length cH) 5 1 ((k.head).length) (BX k.head),row (.slice pA (k.a).length cA) 5 1 ((k.a).length) (BX k.a),row (.slice p ((ys.set (at_+j) x2)).length c) 5 1 (((ys.set (at_+j) x2)).length) (BX (ys.set (at_+j) x2))]) (by show [pt S (.cells #[.slice pH (k.head).length cH,.slice pA (k.a).length cA,.slice p (ys).length c,Ix (fX (pl k.power j))] 29),row (.slice pH (k.head).length cH) 5 1 ((k.head).length) (BX k.head),row (.slice pA (k.a).length cA) 5 1 ((k.a).length) (BX k.a),row (.slice p (ys).length c) 5 1 ((ys).length) ((rP (BX ys) ((at_+j)*1) [Bx (x2)]))]=_;rw[zJ (by omega)];simp only[List.length_set]) ?_
   refine aH (aP (bA (aC (lv (v:=Nx (j+1)) (bO rfl rfl (cW (by omega) (by omega))) (lE aU (aH ?_))))))
   exact bG ⟨(j+1,(ys.set (at_+j) x2),p,c),⟨⟨rfl,rfl,rfl,rfl,rfl,rfl⟩,(by rw[hpst.2]),⟨hpst.1,by rw[hys,sS hx3,if_pos (by rw[←hys];omega)]⟩⟩,(show bs.length-(j+1)<bs.length-j from by omega)⟩
  refine aC (lE dS (lE dS (lE eS (lE (fQ 0) (lE aU (dA rfl rfl rfl (bZ kE aOm.ok (cells:= #[Bx (x2)]) rfl rfl rfl rfl) ?_))))))
  rintro _ _ ⟨b10,rfl,rfl⟩
  refine dA rfl rfl rfl (mO (enc:=fun c:UInt8=>Bx c) 4 sF kE aHc (v:=sB p ys c) (xs:=ys) (ys:=[x2]) (ao:=some ⟨b10,0,none⟩) (c:=1) rfl rfl (by first|rfl|simp) rfl (by first|rfl|simp) (aKq 0 (xs:=[x2]) rfl) (by first|omega|(simp only[List.length_append,List.length_nil,List.length_cons,bX]at*;omega)) (by first|omega|(simp only[List.length_append,List.length_nil,List.length_cons,bX]at*;omega))) ?_
  rintro _ _ ⟨rp11,rc12,rfl,rfl⟩
  refine lE eS (lu (mS 1 (#[sB pH k.head cH,sB pA k.a cA,sB rp11 (ys++[x2]) rc12,Ix (fX (pl k.power j))])) (aH (aP (bA (aC ?_)))))
  refine lv (v:=Nx (j+1)) (bO rfl rfl (cW (by omega) (by omega))) (lE aU (aH ?_))
  refine dD (L':=[pt S (.cells #[sB pH k.head cH,sB pA k.a cA,sB rp11 (ys++[x2]) rc12,Ix (fX (pl k.power j))] 29),rB pH k.head cH,rB pA k.a cA,rB rp11 (ys++[x2]) rc12]) [false,true,true,true,true] rfl ?_
  exact bG ⟨(j+1,ys++[x2],rp11,rc12),⟨⟨rfl,rfl,rfl,rfl,rfl,rfl⟩,(by rw[hpst.2]),⟨hpst.1,by rw[hys,sS hx3,if_neg (by rw[←hys];omega)]⟩⟩,(show bs.length-(j+1)<bs.length-j from by omega)⟩
 refine cK (aF (aF (cL (mZ Tryz.results64 ?_))))
 intro w hw
 obtain⟨e1,rfl⟩:=aIs hj (by omega)
 have e2:ys=tH k.b k.power at_ bs:=by rw[hys,tH,e1]
 subst e2
 exact .inr ⟨rfl,e1,St.closeStore (k:={k with b:=tH k.b k.power at_ bs,power:=pl k.power bs.length}) (aG [true,true,true,true] rfl hw)⟩
theorem aVq(β:Base)(w:World)(J S:Nat)(hJ:Cs β.heap ⟨J,0,none⟩ [pp S 0])(k:KS)(hk:k.head.length≤1048576∧k.a.length≤1048576∧k.b.length≤1048576∧k.power≤9223372036854775807)(size:Nat)(hw:St β [aQ S k] w):Calls Tryz.prog 90 #[pp J 0,pp S 1,Nx size] w fun r w'=>(r= .panicked chP∧¬jB k.a k.power size∧k.power=0∧St β [aQ S k] w')∨(r= .returned (.tuple #[])∧jB k.a k.power size∧St β [aQ S {k with a:=oK k.a k.power size,power:=kW k.a k.power size}] w'):=by
 obtain⟨pH,pA,pB,cH,cA,cB,hw⟩:=St.openStore hw
 refine enter (n:=21) Tryz.func90 rfl Tryz.ntmps90 rfl ?_ hw
 refine bD (lE dS (lE eS (lE (fQ 0) (lE gY (lE aU (lE oQ (aN (cN _ rfl (fun hc1=> ?_) (fun hc1=> ?_)))))))))
 ·refine bD (lE dS (iJ rfl rfl rfl (cT (vs:=[.pointer (some (⟨J,0,none⟩))]) aUc.ok rfl rfl) ?_))
  intro w hw
  obtain⟨β1,sb,kn,hw1,back⟩:=St.frame (L:=[_]) (M:=_::_::_::[]) hw
  refine(rW β1 w J S (Cs.mono _ _ _ _ sb hJ) (sB pH k.head cH) (sB pA k.a cA) (sB pB k.b cB) k.power (by have:=aGn k.power;omega) hw1).mono ?_
  rintro e w' (⟨rfl,hp2,hw'⟩|⟨rfl,hp2,hw'⟩)
  ·refine .inl ⟨_,rfl,_,back _ _ hw',?_⟩
   refine eG (sX ?_)
   intro w hw
   exact .inl ⟨rfl,by unfold jB;omega,hp2,St.closeStore (k:=k) (aG [true,true,true,true] rfl hw)⟩
  refine .inr ⟨_,rfl,_,back _ _ hw',?_⟩
  refine aN (aFf 2 rfl (fun hcl hcm=> ?_))
  refine aC (lE dS (lE dS (lE eS (lE (fQ 0) (lE aU ?_)))))
  refine lv (v:= .slice pA (size) cA) (kA (a:=pA) (len:=(k.a).length) (cap:=cA) (h:=size) kE rfl rfl (by omega)) (lE eS ?_)
  refine lu (mS 0 (#[sB pH k.head cH,.slice pA (size) cA,sB pB k.b cB,Ix (fX (k.power))])) (aH (mZ Tryz.results90 ?_))
  intro w hw
  have hw:=hw.conseq_at 2 rfl (fun a h=>aCc (h:=size) h (by omega))
  have e0:(k.a.take size).length=size:=by simp;omega
  have e1:oK k.a k.power size=k.a.take size:=if_neg hp2
  have e2:kW k.a k.power size=fX k.power:=if_pos (by omega)
  refine .inr ⟨rfl,.inr hp2,St.closeStore (k:={k with a:=oK k.a k.power size,power:=kW k.a k.power size}) (pH:=pH) (pA:=pA) (pB:=pB) (cH:=cH) (cA:=cA) (cB:=cB) ?_⟩
  show St β (Go.Jn.stL S pH pA pB cH cA cB {k with a:=oK k.a k.power size,power:=kW k.a k.power size}++[]) w
  rw[e1,e2]
  simp only[sB,rB,Go.Jn.stL,aEh,e0]
  simp only[sB,rB,e0]at hw
  exact aG [true,true,true,true] rfl hw
 refine cG (mZ Tryz.results90 ?_)
 intro w hw
 refine .inr ⟨rfl,.inl (by omega),?_⟩
 rw[aJt (by omega),aJu (by omega)]
 exact St.closeStore (k:=k) (aG [true,true,true,true] rfl hw)
theorem aVr(β:Base)(w:World)(J S:Nat)(hJ:Cs β.heap ⟨J,0,none⟩ [pp S 0])(k:KS)(hk:k.head.length≤1048576∧k.a.length≤1048576∧k.b.length≤1048576∧k.power≤9223372036854775807)(size:Nat)(hw:St β [aQ S k] w):Calls Tryz.prog 90 #[pp J 0,pp S 2,Nx size] w fun r w'=>(r= .panicked chP∧¬jB k.b k.power size∧k.power=0∧St β [aQ S k] w')∨(r= .returned (.tuple #[])∧jB k.b k.power size∧St β [aQ S {k with b:=oK k.b k.power size,power:=kW k.b k.power size}] w'):=by
 obtain⟨pH,pA,pB,cH,cA,cB,hw⟩:=St.openStore hw
 refine enter (n:=21) Tryz.func90 rfl Tryz.ntmps90 rfl ?_ hw
 refine bD (lE dS (lE eS (lE (fQ 0) (lE gY (lE aU (lE oQ (aN (cN _ rfl (fun hc1=> ?_) (fun hc1=> ?_)))))))))
 ·refine bD (lE dS (iJ rfl rfl rfl (cT (vs:=[.pointer (some (⟨J,0,none⟩))]) aUc.ok rfl rfl) ?_))
  intro w hw
  obtain⟨β1,sb,kn,hw1,back⟩:=St.frame (L:=[_]) (M:=_::_::_::[]) hw
  refine(rW β1 w J S (Cs.mono _ _ _ _ sb hJ) (sB pH k.head cH) (sB pA k.a cA) (sB pB k.b cB) k.power (by have:=aGn k.power;omega) hw1).mono ?_
  rintro e w' (⟨rfl,hp2,hw'⟩|⟨rfl,hp2,hw'⟩)
  ·refine .inl ⟨_,rfl,_,back _ _ hw',?_⟩
   refine eG (sX ?_)
   intro w hw
   exact .inl ⟨rfl,by unfold jB;omega,hp2,St.closeStore (k:=k) (aG [true,true,true,true] rfl hw)⟩
  refine .inr ⟨_,rfl,_,back _ _ hw',?_⟩
  refine aN (aFf 3 rfl (fun hcl hcm=> ?_))
  refine aC (lE dS (lE dS (lE eS (lE (fQ 0) (lE aU ?_)))))
  refine lv (v:= .slice pB (size) cB) (kA (a:=pB) (len:=(k.b).length) (cap:=cB) (h:=size) kE rfl rfl (by omega)) (lE eS ?_)
  refine lu (mS 0 (#[sB pH k.head cH,sB pA k.a cA,.slice pB (size) cB,Ix (fX (k.power))])) (aH (mZ Tryz.results90 ?_))
  intro w hw
  have hw:=hw.conseq_at 3 rfl (fun a h=>aCc (h:=size) h (by omega))
  have e0:(k.b.take size).length=size:=by simp;omega
  have e1:oK k.b k.power size=k.b.take size:=if_neg hp2
  have e2:kW k.b k.power size=fX k.power:=if_pos (by omega)
  refine .inr ⟨rfl,.inr hp2,St.closeStore (k:={k with b:=oK k.b k.power size,power:=kW k.b k.power size}) (pH:=pH) (pA:=pA) (pB:=pB) (cH:=cH) (cA:=cA) (cB:=cB) ?_⟩
  show St β (Go.Jn.stL S pH pA pB cH cA cB {k with b:=oK k.b k.power size,power:=kW k.b k.power size}++[]) w
  rw[e1,e2]
  simp only[sB,rB,Go.Jn.stL,aEh,e0]
  simp only[sB,rB,e0]at hw
  exact aG [true,true,true,true] rfl hw
 refine cG (mZ Tryz.results90 ?_)
 intro w hw
 refine .inr ⟨rfl,.inl (by omega),?_⟩
 rw[aJt (by omega),aJu (by omega)]
 exact St.closeStore (k:=k) (aG [true,true,true,true] rfl hw)
theorem aUg(β:Base)(w:World)(hw:St β [] w)(J S:Nat)(hJ:Cs β.heap ⟨J,0,none⟩ [pp S 0]):oP Tryz.prog 103 #[pp J 0] β w (.bool true):=by
 refine enter (n:=12) Tryz.func103 rfl Tryz.ntmps103 rfl ?_ hw
 refine bD (lE dP (eY (lE dS (lv (v:= .bool true) (mX (p:=some (⟨J,0,none⟩)) rfl rfl bFj) (lE fM (gE dS (gE eS (gE ofa ?_))))))))
 refine cU (v:=pp S 0) rfl rfl rfl rfl rfl (bI aYi.ok rfl (bH.imp (kB hJ) (fun _ h=>Cs.sub (vs:=[pp S 0]) 0 h rfl))) ?_
 refine cU (v:= .bool true) rfl rfl rfl rfl rfl (mX (p:=some (⟨S,0,none⟩)) rfl rfl bFk) (lE eF (lE dP (aN (aV ?_))))
 refine dJ Tryz.results103 rfl ?_
 intro w hw
 exact⟨rfl,aG [] rfl hw⟩
theorem aOq(β:Base)(w:World)(hw:St β [] w):oP Tryz.prog 103 #[.pointer none] β w (.bool false):=by
 refine enter (n:=12) Tryz.func103 rfl Tryz.ntmps103 rfl ?_ hw
 refine bD (lE dP (eY (lE dS (lv (v:= .bool false) (mX (p:=none) rfl rfl bFj) (lE fM ?_)))))
 iterate 5 refine iP ?_
 refine lE dT (lE dP (aN (aV (dJ Tryz.results103 rfl ?_))))
 intro w hw
 exact⟨rfl,aG [] rfl hw⟩
theorem aTc(β:Base)(w:World)(hw:St β [] w)(J S:Nat)(x1 x2 x3 x4 x5:Value)(dn:Bool)(hJ:Cs β.heap ⟨J,0,none⟩ [pp S 0,x1,x2,x3,x4,x5,.bool (dn)])(bs:Bs)(v:Value)(hs:Sl iT β.heap v bs):oP Tryz.prog 60 #[pp J 0,v] β w (.int .i64 (zS dn bs)):=by
 obtain⟨va,vc,rfl,vl,vm,ve⟩:=hs.get
 refine enter (n:=18) Tryz.func60 rfl Tryz.ntmps60 rfl ?_ hw
 refine bD (lE bN (aN (aL (aJ (bD (lE dS ?_))))))
 refine gI gH (fun w β1 sb kn hw1=>aUg β1 w hw1 J S (by have h0:=Cs.sub (vs:=[pp S 0]) 0 (Cs.mono _ _ _ _ sb hJ) rfl;rwa [Addr.add_zero']at h0)) ?_
 refine lE mB (lE dP (aN (cR rfl (bD (lE fL (lE gY (lE oQ (lE dP (aN (cN _ rfl (fun hc1=> ?_) (fun hc1=> ?_)))))))))))
 ·refine bD (lE bN (aN (aV (aR (aI (dJ Tryz.results60 rfl ?_))))))
  intro w hw
  exact⟨by rw[zS,if_pos (by omega)]<;>rfl,aG [] rfl hw⟩
 refine bD (lE dS (lE eS (lE ofa ?_)))
 refine lv (v:= .bool (dn)) (bI bIr.ok rfl (bH.imp (kB hJ) (fun _ h=>Cs.sub (vs:=[.bool (dn)]) 6 h rfl))) (lE dP (aN ?_))
 refine fH (dn) rfl (fun hc2=> ?_) (fun hc2=> ?_)
 ·refine bD (lE bN (aN (aV (aR (aI (dJ Tryz.results60 rfl ?_))))))
  intro w hw
  exact⟨by rw[zS,if_neg (by omega),if_pos hc2]<;>rfl,aG [] rfl hw⟩
 refine cG (aP (kM (lE bN (aN (aV (dJ Tryz.results60 rfl ?_))))))
 intro w hw
 exact⟨by rw[zS,if_neg (by omega),if_neg (by rw[hc2];decide)]<;>rfl,aG [] rfl hw⟩
theorem aNt(β:Base)(w:World)(hw:St β [] w)(v:Value):oP Tryz.prog 60 #[.pointer none,v] β w (.int .i64 1):=by
 refine enter (n:=18) Tryz.func60 rfl Tryz.ntmps60 rfl ?_ hw
 refine bD (lE bN (aN (aL (aJ (bD (lE dS (gI gH (fun w β1 sb kn hw1=>aOq β1 w hw1) (lE mB (lE dP (aN (dN rfl (bD ?_))))))))))))
 refine lE bN (aN (aV (aR (aI (dJ Tryz.results60 rfl ?_)))))
 intro w hw
 exact⟨rfl,aG [] rfl hw⟩
open Go Go.Sl Go.Jn
theorem aJo{fn:Func}{n:Nat}{args:Array Value}(hn:fn.ntmps=n)(hs:Nat.ble args.size n=true):At n [] (tD args) {tmps:=args++Array.replicate (fn.ntmps-args.size) undef,defers:=[]}:=by
 refine⟨rfl,?_,fun i=> ?_⟩
 ·rw[hn]
  have:args.size≤n:=by simpa using hs
  simp;omega
 simp only[sB,rB,tD,Array.getD_eq_getD_getElem?]
 by_cases hi:i<args.size
 ·rw[Array.getElem?_append_left hi]
 rw[Array.getElem?_append_right (by omega),Array.getElem?_eq_none (by omega:args.size≤i)]
 by_cases hj:i-args.size<fn.ntmps-args.size
 ·simp[hj]
 simp[hj]
theorem aPn{a b c:bU}{K:List bU}:((a::K)++[b,c]).Perm ([c,b,a]++K):=by
 have h1:((a::K)++[b,c]).Perm ([b,c]++(a::K)):=List.perm_append_comm
 exact h1.trans (List.Perm.swap c b (a::K))
theorem bFl:ifB Tryz.prog 20=true:=by kernel_rfl
instance tf42:TyC Tryz.prog 185 true 0:={}
instance tf43:TyC Tryz.prog 89 false 1:={}
instance bFm:TyC Tryz.prog 34 false 1:={}
instance tf45:ZerC Tryz.prog 34 (.int .i64 (0)):={}
theorem aPl(β:Base)(w:World)(b2 b4 J:Nat)(y x0 x1 x2 x3 x4 x5 x6:Value)(hw:St β [pt b2 (.cells #[pp J 0] 89),pt b4 (.cells #[y] 34),pt J (.cells #[x0,x1,x2,x3,x4,x5,x6] 143)] w):CallsD Tryz.prog 105 #[pp b2 0,pp b4 0] (.panicking chP) w fun e u' w'=>
  e= .returned (.tuple #[])∧u'= .panicking [{v:= .iface 185 (.agg #[]),recovered:=true}]∧St β [pt b2 (.cells #[pp J 0] 89),pt b4 (.cells #[.int .i64 (310)] 34),pt J (.cells #[x0,x1,x2,x3,x4,x5,.bool true] 143)] w':=by
 refine callsD_of_wpS Tryz.func105 rfl fun c₀ cs hu=>wpS_seq ?_
 refine aHo (n:=19) (ds:=[]) (f:=tD #[pp b2 0,pp b4 0]) (d0:=5) (d1:=2) (v:= .iface 185 (.agg #[])) (cs':={c₀ with mode:= .panicking [{v:= .iface 185 (.agg #[]),recovered:=true}]}::cs) (aJo Tryz.ntmps105 rfl) rfl rfl rfl rfl rfl rfl rfl rfl (.inl (by simp[recoverD,hu,chP])) (fun a' ha'=> ?_)
 refine aMa (L:=[pt b2 (.cells #[pp J 0] 89),pt b4 (.cells #[y] 34),pt J (.cells #[x0,x1,x2,x3,x4,x5,x6] 143)]) ?_ ha' hw
 refine bD (lv cI (lv (v:= .bool true) (aQl (u:=185) (v:=(.agg #[])) bFl rfl) (aN (dN rfl (eR (aC (lv cI ?_)))))))
 refine lv (v:= .tuple #[.agg #[],.bool true]) (aNa (v:= .agg #[]) rfl bFi) (lE oM (lE rG (lE yA (gB fun b1=>lu (mS 0 (#[])) (lE dP ?_)))))
 refine eY (lE fM (lE mB (aN (cR rfl (eB (aC (lE (iR 1) (lE eS (lE aY (lu (mS 3 (#[x0,x1,x2,x3,x4,x5,.bool true])) ?_))))))))))
 refine lu (mS 2 (#[.int .i64 (310)])) (aH (bEn Tryz.results105 ?_))
 intro w hw
 exact⟨rfl,rfl,aG [false,true,true,true] rfl hw⟩
theorem aPm(β:Base)(w:World)(b2 b4:Nat)(L:List bU)(hw:St β L w):CallsD Tryz.prog 105 #[pp b2 0,pp b4 0] .returning w fun e u' w'=>e= .returned (.tuple #[])∧u'= .returning∧St β L w':=by
 refine callsD_of_wpS Tryz.func105 rfl fun c₀ cs hu=>wpS_seq ?_
 refine aHo (n:=19) (ds:=[]) (f:=tD #[pp b2 0,pp b4 0]) (d0:=5) (d1:=2) (v:= .nilIface) (cs':={c₀ with mode:= .returning}::cs) (aJo Tryz.ntmps105 rfl) rfl rfl rfl rfl rfl rfl rfl rfl (.inr ⟨by simp[recoverD,hu],rfl,by cases c₀;simp_all⟩) (fun a' ha'=> ?_)
 refine aMa (L:=L) ?_ ha' hw
 refine bD (lv cI (lv (v:= .bool false) (aMz bFl rfl) (aN (cR rfl (cG (bEn Tryz.results105 ?_))))))
 intro w hw
 exact⟨rfl,rfl,hw⟩
theorem mT(β:Base)(w:World)(J F:Nat)(cap:List Value)(x0 x1 x2 x3 x4 x5 x6:Value)(K0 K1 K2:List bU)(A B:Prop)(hF:cfB Tryz.prog F=true)(hw:St β (pt J (.cells #[x0,x1,x2,x3,x4,x5,x6] 143)::K0) w)
 (hdo:∀β',jF β.heap β'.heap→∀w,St β' (pt J (.cells #[x0,x1,x2,x3,x4,x5,x6] 143)::K0) w→Calls Tryz.prog F cap.toArray w fun e w'=>(e= .panicked chP∧B∧St β' (pt J (.cells #[x0,x1,x2,x3,x4,x5,x6] 143)::K2) w')∨(e= .returned (.tuple #[])∧A∧St β' (pt J (.cells #[x0,x1,x2,x3,x4,x5,x6] 143)::K1) w')):
  Calls Tryz.prog 62 #[pp J 0,.func (.func F) #[] cap.toArray] w fun e w'=>(e= .returned (.int .i64 0)∧A∧St β (pt J (.cells #[x0,x1,x2,x3,x4,x5,x6] 143)::K1) w')∨(e= .returned (.int .i64 310)∧B∧St β (pt J (.cells #[x0,x1,x2,x3,x4,x5,.bool true] 143)::K2) w'):=by
 refine bBn (n:=8) Tryz.func62 rfl Tryz.ntmps62 rfl ?_ hw
 refine bD (bxp fun b1=> ?_)
 refine gB fun b2=>eY (lv (v:= .func (.func 105) #[] #[pp b1 0,pp b2 0]) (mW (u:=[]) (v:=[pp b1 0,pp b2 0]) rfl rfl) ?_)
 refine aWr (dd:={target:= .fn (.func 105) #[pp b1 0,pp b2 0],args:= #[]}) rfl rfl (fun w=>by simp[execOp,resolve,ev,dZ,Deferred.ofValue]) ?_
 refine eY (lE omf (iJ rfl rfl rfl (uJ (fst:=[]) (cap:=cap) (vs:=[]) (all:=cap) hF rfl rfl rfl) ?_))
 intro w hw
 replace hw:=hw.perm (L':=(pt J (.cells #[x0,x1,x2,x3,x4,x5,x6] 143)::K0)++[pt b2 (.cells #[.int .i64 (0)] 34),pt b1 (.cells #[pp J 0] 89)]) (List.perm_append_comm (l₁:=[pt b2 (.cells #[.int .i64 (0)] 34),pt b1 (.cells #[pp J 0] 89)]))
 obtain⟨β1,sb,kn,hw1,back⟩:=St.frame hw
 refine(hdo β1 sb w hw1).mono ?_
 rintro e w' (⟨rfl,hB,hw'⟩|⟨rfl,hA,hw'⟩)
 ·refine .inl ⟨_,rfl,_,back _ _ hw',?_⟩
  refine eG ?_
  intro a w ha hw
  show Leaves _ _ a.tmps _ a.defers _ w
  rw[ha.defers]
  refine leaves_cons (f:=105) (args:= #[pp b1 0,pp b2 0]) (by simp) (by simp[invoke,sP (show cfB Tryz.prog 105=true from by kernel_rfl)]) ?_
  replace hw:=hw.perm (L':=[pt b1 (.cells #[pp J 0] 89),pt b2 (.cells #[.int .i64 (0)] 34),pt J (.cells #[x0,x1,x2,x3,x4,x5,x6] 143)]++K2) (by exact aPn)
  obtain⟨β2,sb2,kn2,hw2,back2⟩:=St.frame hw
  refine(aPl β2 w b1 b2 J _ x0 x1 x2 x3 x4 x5 x6 hw2).mono ?_
  rintro e u' w2 ⟨rfl,rfl,hw3⟩
  have hw4:=back2 _ _ hw3
  refine⟨_,rU (l:=[.cell 4 34]) (m:=[.int .i64 310]) Tryz.results62 ha.get hw4 ⟨aGs bFm.ok (v:= .int .i64 310) rfl (cD 1 rfl rfl),trivial⟩,.inr ⟨rfl,hB,?_⟩⟩
  exact hw4.drop (List.Sublist.cons _ (List.Sublist.cons _ (List.Sublist.refl _)))
 refine .inr ⟨_,rfl,_,back _ _ hw',?_⟩
 refine eY ?_
 refine aDl (L':=[pt b2 (.cells #[.int .i64 (0)] 34),pt b1 (.cells #[pp J 0] 89)]++(pt J (.cells #[x0,x1,x2,x3,x4,x5,x6] 143)::K1)) (by exact List.perm_append_comm) ?_
 refine lu (mS 0 (#[.int .i64 (0)])) (aN (aV ?_))
 intro a w ha hw
 show Leaves _ _ a.tmps _ a.defers _ w
 rw[ha.defers]
 refine leaves_cons (f:=105) (args:= #[pp b1 0,pp b2 0]) (by simp) (by simp[invoke,sP (show cfB Tryz.prog 105=true from by kernel_rfl)]) ?_
 refine(aPm _ w b1 b2 _ hw).mono ?_
 rintro e u' w2 ⟨rfl,rfl,hw3⟩
 refine⟨_,rU (l:=[.cell 4 34]) (m:=[.int .i64 0]) Tryz.results62 ha.get hw3 ⟨aGs bFm.ok (v:= .int .i64 0) rfl (cD 0 rfl rfl),trivial⟩,.inl ⟨rfl,hA,?_⟩⟩
 exact St.drop hw3 (List.Sublist.cons _ (List.Sublist.cons _ (List.Sublist.refl _)))
end Go.Proofs
