/-
 The reference's small functions,walked. Printed by a program of my own.
-/
import Derived.Test.YtkpdcajddpiknaaJn16
import Derived.Test.YtkpdcajddpiknaaJnRef
set_option linter.all false
set_option maxHeartbeats 4000000
namespace Go.Proofs
open Go Go.Sl Go.Jn
def aIy(n:Nat):UInt8:=(((U ((n:Nat):Int))*(11400714819323198485:UInt64))>>>(56:UInt64)).toUInt8
instance tf125:CfC Try.prog 84:={}
instance tf126:UndC Try.prog 121 99:={}
theorem aBk:nB Try.prog 121 99 1=true:=by kernel_rfl
instance tf128:CfC Try.prog 83:={}
theorem aLb:zS Try.prog 99 1 8=true:=by kernel_rfl
instance wC:CfC Try.prog 68:={}
instance tf131:CfC Try.prog 69:={}
instance tf132:CfC Try.prog 71:={}
instance tf133:CfC Try.prog 70:={}
instance tf134:CfC Try.prog 82:={}
theorem aBe(β:Base)(w:World)(hw:St β [] w)(x:UInt64):kH Try.prog 84 #[Ux x] β w (Ux (aEz x)):=by
 refine enter (n:=17) Try.func84 rfl Try.ntmps84 rfl ?_ hw
 refine cC ?_
 refine lE bV ?_
 refine eJ ?_
 iterate 2 refine lE bG ?_
 refine lv (v:=Ux (x>>>(30:UInt64))) (sF (a:=((x).toNat:Int)) (b:=((30:Nat):Int)) rfl rfl (by decide) (oJ _ 30 (by decide))) ?_
 refine lv (v:=Ux (x^^^(x>>>(30:UInt64)))) (sG (a:=((x).toNat:Int)) (b:=((x>>>(30:UInt64)).toNat:Int)) rfl rfl (oK _ _)) ?_
 refine lv (v:=Ux ((x^^^(x>>>(30:UInt64)))*(13787848793156543929:UInt64))) (iC (a:=((x^^^(x>>>(30:UInt64))).toNat:Int)) (b:=((13787848793156543929:UInt64).toNat:Int)) rfl rfl (lX _ _)) ?_
 refine lE bV ?_
 refine eJ ?_
 iterate 2 refine lE bG ?_
 refine lv (v:=Ux (((x^^^(x>>>(30:UInt64)))*(13787848793156543929:UInt64))>>>(27:UInt64))) (sF (a:=(((x^^^(x>>>(30:UInt64)))*(13787848793156543929:UInt64)).toNat:Int)) (b:=((27:Nat):Int)) rfl rfl (by decide) (oJ _ 27 (by decide))) ?_
 refine lv (v:=Ux (((x^^^(x>>>(30:UInt64)))*(13787848793156543929:UInt64))^^^(((x^^^(x>>>(30:UInt64)))*(13787848793156543929:UInt64))>>>(27:UInt64)))) (sG (a:=(((x^^^(x>>>(30:UInt64)))*(13787848793156543929:UInt64)).toNat:Int)) (b:=((((x^^^(x>>>(30:UInt64)))*(13787848793156543929:UInt64))>>>(27:UInt64)).toNat:Int)) rfl rfl (oK _ _)) ?_
 refine lv (v:=Ux ((((x^^^(x>>>(30:UInt64)))*(13787848793156543929:UInt64))^^^(((x^^^(x>>>(30:UInt64)))*(13787848793156543929:UInt64))>>>(27:UInt64)))*(10723151780598845931:UInt64))) (iC (a:=((((x^^^(x>>>(30:UInt64)))*(13787848793156543929:UInt64))^^^(((x^^^(x>>>(30:UInt64)))*(13787848793156543929:UInt64))>>>(27:UInt64))).toNat:Int)) (b:=((10723151780598845931:UInt64).toNat:Int)) rfl rfl (lX _ _)) ?_
 refine lE bV ?_
 refine eJ ?_
 iterate 2 refine lE bG ?_
 refine lv (v:=Ux (((((x^^^(x>>>(30:UInt64)))*(13787848793156543929:UInt64))^^^(((x^^^(x>>>(30:UInt64)))*(13787848793156543929:UInt64))>>>(27:UInt64)))*(10723151780598845931:UInt64))>>>(31:UInt64))) (sF (a:=(((((x^^^(x>>>(30:UInt64)))*(13787848793156543929:UInt64))^^^(((x^^^(x>>>(30:UInt64)))*(13787848793156543929:UInt64))>>>(27:UInt64)))*(10723151780598845931:UInt64)).toNat:Int)) (b:=((31:Nat):Int)) rfl rfl (by decide) (oJ _ 31 (by decide))) ?_
 refine lv (v:=Ux (((((x^^^(x>>>(30:UInt64)))*(13787848793156543929:UInt64))^^^(((x^^^(x>>>(30:UInt64)))*(13787848793156543929:UInt64))>>>(27:UInt64)))*(10723151780598845931:UInt64))^^^(((((x^^^(x>>>(30:UInt64)))*(13787848793156543929:UInt64))^^^(((x^^^(x>>>(30:UInt64)))*(13787848793156543929:UInt64))>>>(27:UInt64)))*(10723151780598845931:UInt64))>>>(31:UInt64)))) (sG (a:=(((((x^^^(x>>>(30:UInt64)))*(13787848793156543929:UInt64))^^^(((x^^^(x>>>(30:UInt64)))*(13787848793156543929:UInt64))>>>(27:UInt64)))*(10723151780598845931:UInt64)).toNat:Int)) (b:=((((((x^^^(x>>>(30:UInt64)))*(13787848793156543929:UInt64))^^^(((x^^^(x>>>(30:UInt64)))*(13787848793156543929:UInt64))>>>(27:UInt64)))*(10723151780598845931:UInt64))>>>(31:UInt64)).toNat:Int)) rfl rfl (oK _ _)) ?_
 refine lE bV ?_
 refine aW ?_
 refine bB ?_
 refine dS Try.results84 rfl ?_
 intro w hw
 exact⟨rfl,aF [] rfl hw⟩
theorem vV(β:Base)(w:World)(hw:St β [] w)(x y:UInt64):kH Try.prog 70 #[Ux x,Ux y] β w (Ux (jN x y)):=by
 refine enter (n:=11) Try.func70 rfl Try.ntmps70 rfl ?_ hw
 refine cC ?_
 refine lE bV ?_
 refine eJ ?_
 refine lE bG ?_
 refine lv (v:=Ux (x*(11400714819323198485:UInt64))) (iC (a:=((x).toNat:Int)) (b:=((11400714819323198485:UInt64).toNat:Int)) rfl rfl (lX _ _)) ?_
 refine lE bG ?_
 refine lv (v:=Ux ((x*(11400714819323198485:UInt64))+y)) (bJ rfl rfl (kM _ _)) ?_
 refine lv (v:=Ux (((x*(11400714819323198485:UInt64))+y)+(1:UInt64))) (bJ rfl rfl (kM _ _)) ?_
 refine gW gU (fun w β1 sb kn hw1=>aBe β1 w hw1 (((x*(11400714819323198485:UInt64))+y)+(1:UInt64))) ?_
 refine lE bV ?_
 refine aW ?_
 refine bB ?_
 refine dS Try.results70 rfl ?_
 intro w hw
 exact⟨rfl,aF [] rfl hw⟩
theorem xG(β:Base)(w:World)(hw:St β [] w)(xs:Bs)(hl8:xs.length≤8)(v:Value)(hs:Sl bE β.heap v xs):kH Try.prog 87 #[v] β w (Ux (aP xs)):=by
 obtain⟨va,vc,rfl,vl,vm,ve⟩:=hs.get
 refine enter (n:=20) Try.func87 rfl Try.ntmps87 rfl ?_ hw
 refine cC ?_
 refine lE bV ?_
 refine eJ ?_
 refine lE bV ?_
 refine aW ?_
 refine dX ?_
 refine aC ?_
 refine lE bV ?_
 refine aW ?_
 refine aY ?_
 refine dV (fun(k:Nat) f L=>(f 0=sB va xs (vc)∧f 3=Ux (gP 0 (xs.take k))∧f 4=Nx (k))∧L=[]∧(k≤xs.length)) (fun k=>xs.length-k) 0 ?_ ?_
 ·exact⟨⟨rfl,rfl,rfl⟩,rfl,(by omega)⟩
 rintro k f0 L0 ⟨⟨hs0,hs3,hs4⟩,hL,hk⟩
 subst L0
 refine dG 0 hs0 ?_
 refine dG 3 hs3 ?_
 refine dG 4 hs4 ?_
 refine dX ?_
 refine aC ?_
 refine lE bG ?_
 refine lE cX ?_
 refine lE fC ?_
 refine lE jI ?_
 refine aW ?_
 refine cK _ rfl (fun hc1=> ?_) (fun hc1=> ?_)
 ·refine eT ?_
  refine aO ?_
  refine aY ?_
  refine aC ?_
  refine lE bG ?_
  refine lv (v:=Ux ((gP 0 (xs.take k))*(256:UInt64))) (iC (a:=((gP 0 (xs.take k)).toNat:Int)) (b:=((256:UInt64).toNat:Int)) rfl rfl (lX _ _)) ?_
  refine lE cX ?_
  refine lE bG ?_
  obtain⟨x2,hx3⟩:=kC xs k (by omega)
  obtain⟨ha4,cs5,hc6,rfl⟩:=ve _ _ hx3
  refine lE (rN bQ ha4) ?_
  refine lv (v:=Bx (x2)) (bZ gQ.ok rfl (kB hc6)) ?_
  refine lv (v:=Ux (x2.toUInt64)) (cZ (a:=((x2).toNat:Int)) rfl ⟨_,tM⟩ mN (xO _)) ?_
  refine lv (v:=Ux (((gP 0 (xs.take k))*(256:UInt64))+x2.toUInt64)) (bJ rfl rfl (kM _ _)) ?_
  refine lE bV ?_
  refine aG ?_
  refine bD ?_
  refine aQ ?_
  refine aC ?_
  refine lE bG ?_
  refine lv (v:=Nx (k+1)) (bJ rfl rfl (bU (by omega) (by omega))) ?_
  refine lE bV ?_
  refine aG ?_
  exact bT ⟨k+1,⟨⟨rfl,(show Ux (((gP 0 (xs.take k))*(256:UInt64))+x2.toUInt64)=Ux (gP 0 (xs.take (k+1))) by rw[uW hx3 hl8]),rfl⟩,rfl,(by omega)⟩,(show xs.length-(k+1)<xs.length-k from by omega)⟩
 refine dZ ?_
 refine aU ?_
 refine aU ?_
 refine eA ?_
 refine qF ?_
 refine lE bG ?_
 refine lE bV ?_
 refine aW ?_
 refine bB ?_
 refine dS Try.results87 rfl ?_
 intro w hw
 rw[List.take_of_length_le (show xs.length≤k by omega)]
 exact⟨rfl,aF [] rfl hw⟩
theorem uL(β:Base)(w:World)(hw:St β [] w)(xs ys:Bs)(v u:Value)(hx:Sl bE β.heap v xs)(hy:Sl bE β.heap u ys):kH Try.prog 88 #[v,u] β w (.bool (decide (xs=ys))):=by
 obtain⟨va,vc,rfl,vl,vm,ve⟩:=hx.get
 obtain⟨ua,uc,rfl,ul,um,ue⟩:=hy.get
 refine enter (n:=26) Try.func88 rfl Try.ntmps88 rfl ?_ hw
 refine cC ?_
 refine lE eE ?_
 refine aW ?_
 refine dX ?_
 refine aC ?_
 refine lE cX ?_
 refine lE fC ?_
 refine lE cX ?_
 refine lE fC ?_
 refine lE gO ?_
 refine aW ?_
 refine cK _ rfl (fun hc1=> ?_) (fun hc1=> ?_)
 ·refine cC ?_
  refine lE eE ?_
  refine aW ?_
  refine bB ?_
  refine aK ?_
  refine dS Try.results88 rfl ?_
  intro w hw
  exact⟨iD (fun h=>by subst h;omega),aF [] rfl hw⟩
 refine eT ?_
 refine dX ?_
 refine aC ?_
 refine lE bV ?_
 refine aW ?_
 refine aY ?_
 refine dV (fun(k:Nat) f L=>(f 0=sB va xs (vc)∧f 1=sB ua ys (uc)∧f 5=Nx (k))∧L=[]∧(k≤xs.length∧xs.take k=ys.take k)) (fun k=>xs.length-k) 0 ?_ ?_
 ·exact⟨⟨rfl,rfl,rfl⟩,rfl,⟨by omega,rfl⟩⟩
 rintro k f0 L0 ⟨⟨hs0,hs1,hs5⟩,hL,⟨hp1,hp2⟩⟩
 subst L0
 refine dG 0 hs0 ?_
 refine dG 1 hs1 ?_
 refine dG 5 hs5 ?_
 refine dX ?_
 refine aC ?_
 refine lE bG ?_
 refine lE cX ?_
 refine lE fC ?_
 refine lE jI ?_
 refine aW ?_
 refine cK _ rfl (fun hc2=> ?_) (fun hc2=> ?_)
 ·refine eT ?_
  refine aO ?_
  refine aY ?_
  refine aO ?_
  refine eF (by kernel_rfl) (by kernel_rfl) ?_
  refine qE cX ?_
  refine qE bG ?_
  obtain⟨x3,hx4⟩:=kC xs k (by omega)
  obtain⟨ha5,cs6,hc7,rfl⟩:=ve _ _ hx4
  refine qE (rN bQ ha5) ?_
  refine eV (v:=Bx (x3)) rfl rfl rfl (bZ gQ.ok rfl (kB hc7)) ?_
  refine qE cX ?_
  refine qE bG ?_
  obtain⟨x9,hx10⟩:=kC ys k (by omega)
  obtain⟨ha11,cs12,hc13,rfl⟩:=ue _ _ hx10
  refine qE (rN bQ ha11) ?_
  refine eV (v:=Bx (x9)) rfl rfl rfl (bZ gQ.ok rfl (kB hc13)) ?_
  refine qE gO ?_
  refine fW ?_
  refine aQ ?_
  refine cK _ rfl (fun hc15=> ?_) (fun hc15=> ?_)
  ·refine cC ?_
   refine lE eE ?_
   refine aW ?_
   refine bB ?_
   refine bH ?_
   refine aK ?_
   refine aK ?_
   refine bH ?_
   refine aK ?_
   refine dS Try.results88 rfl ?_
   intro w hw
   exact⟨iD (wT hx4 hx10 (fun h=>hc15 (by rw[h]))),aF [] rfl hw⟩
  refine cM ?_
  refine bD ?_
  refine aQ ?_
  refine aC ?_
  refine lE bG ?_
  refine lv (v:=Nx (k+1)) (bJ rfl rfl (bU (by omega) (by omega))) ?_
  refine lE bV ?_
  refine aG ?_
  exact bT ⟨k+1,⟨⟨rfl,rfl,rfl⟩,rfl,⟨by omega,rW hx4 (by rw[hx10,UInt8.toNat_inj.1 (Int.ofNat.inj (Decidable.not_not.1 hc15))]) hp2⟩⟩,(show xs.length-(k+1)<xs.length-k from by omega)⟩
 refine dZ ?_
 refine aU ?_
 refine aU ?_
 refine eA ?_
 refine qF ?_
 refine lE eE ?_
 refine aW ?_
 refine bB ?_
 refine dS Try.results88 rfl ?_
 intro w hw
 exact⟨zX (uR hp2 (by omega) (by omega)),aF [] rfl hw⟩
theorem aBg(β:Base)(w:World)(hw:St β [] w)(v:Value)(xs:List UInt64)(hs:Sl zW β.heap v xs):kH Try.prog 83 #[v] β w (Ux (aDc xs)):=by
 obtain⟨va,vc,rfl,vl,vm,ve⟩:=hs.get
 refine enter (n:=21) Try.func83 rfl Try.ntmps83 rfl ?_ hw
 refine cC ?_
 refine lE bV ?_
 refine eJ ?_
 refine lE bV ?_
 refine aW ?_
 refine dX ?_
 refine aC ?_
 refine lE bV ?_
 refine aW ?_
 refine aY ?_
 refine dV (fun(k:Nat) f L=>(f 0=sB va xs (vc)∧f 3=Ux (mI 0 (xs.take k))∧f 4=Nx (k))∧L=[]∧(k≤xs.length)) (fun k=>xs.length-k) 0 ?_ ?_
 ·exact⟨⟨rfl,rfl,rfl⟩,rfl,(by omega)⟩
 rintro k f0 L0 ⟨⟨hs0,hs3,hs4⟩,hL,hk⟩
 subst L0
 refine dG 0 hs0 ?_
 refine dG 3 hs3 ?_
 refine dG 4 hs4 ?_
 refine dX ?_
 refine aC ?_
 refine lE bG ?_
 refine lE cX ?_
 refine lE fC ?_
 refine lE jI ?_
 refine aW ?_
 refine cK _ rfl (fun hc1=> ?_) (fun hc1=> ?_)
 ·refine eT ?_
  refine aO ?_
  refine aY ?_
  refine aC ?_
  refine lE bG ?_
  refine lv (v:=Ux ((mI 0 (xs.take k))*(11400714819323198485:UInt64))) (iC (a:=((mI 0 (xs.take k)).toNat:Int)) (b:=((11400714819323198485:UInt64).toNat:Int)) rfl rfl (lX _ _)) ?_
  refine lE cX ?_
  refine lE bG ?_
  obtain⟨x2,hx3⟩:=kC xs k (by omega)
  obtain⟨ha4,cs5,hc6,rfl⟩:=ve _ _ hx3
  refine lE (rN aBk ha4) ?_
  refine lv (v:=Ux (x2)) (bZ tf5.ok rfl (kB hc6)) ?_
  refine lv (v:=Ux (((mI 0 (xs.take k))*(11400714819323198485:UInt64))+x2)) (bJ rfl rfl (kM _ _)) ?_
  refine lv (v:=Ux ((((mI 0 (xs.take k))*(11400714819323198485:UInt64))+x2)+(1:UInt64))) (bJ rfl rfl (kM _ _)) ?_
  refine lE bV ?_
  refine aG ?_
  refine bD ?_
  refine aQ ?_
  refine aC ?_
  refine lE bG ?_
  refine lv (v:=Nx (k+1)) (bJ rfl rfl (bU (by omega) (by omega))) ?_
  refine lE bV ?_
  refine aG ?_
  exact bT ⟨k+1,⟨⟨rfl,congrArg (fun z=>Ux z) (aDb hx3).symm,rfl⟩,rfl,(by omega)⟩,(show xs.length-(k+1)<xs.length-k from by omega)⟩
 refine dZ ?_
 refine aU ?_
 refine aU ?_
 refine eA ?_
 refine qF ?_
 refine lE bG ?_
 refine gW gU (fun w β1 sb kn hw1=>aBe β1 w hw1 (mI 0 (xs.take k))) ?_
 refine lE bV ?_
 refine aW ?_
 refine bB ?_
 refine dS Try.results83 rfl ?_
 intro w hw
 exact⟨by rw[aDc,List.take_of_length_le (show xs.length≤k by omega)]<;>rfl,aF [] rfl hw⟩
theorem aFr(β:Base)(w:World)(hw:St β [] w)(t:Int):kH Try.prog 69 #[Ix t] β w (Ux (bF t)):=by
 refine enter (n:=7) Try.func69 rfl Try.ntmps69 rfl ?_ hw
 refine cC ?_
 refine lE bV ?_
 refine eJ ?_
 refine lE bG ?_
 refine lv (v:=Ux (U (t))) (cZ (a:=(t)) rfl ⟨_,oD⟩ mN (jM _)) ?_
 refine cF rfl rfl rfl (cO aBk tf4.ok (cells:= #[Ux (U (t))]) rfl rfl rfl rfl) ?_
 rintro _ _ ⟨b1,rfl,rfl⟩
 refine gW gU (fun w β1 sb kn hw1=>aBg β1 w hw1 _ [(U (t))] (kn (fun h=>Sl zW h _ [(U (t))]) (aX.of_res 0 rfl (fun _ _ hs h=>Sl.mono zW _ _ _ _ hs h) fun _ h=>aHy (xs:=[(U (t))]) h rfl rfl))) ?_
 refine lE bV ?_
 refine aW ?_
 refine bB ?_
 refine dS Try.results69 rfl ?_
 intro w hw
 exact⟨rfl,aF [false] rfl hw⟩
theorem aFn(β:Base)(w:World)(hw:St β [] w)(s:ByteArray)(hs:s.size≤1048576):kH Try.prog 71 #[.string s] β w (Ux (aDc (iH s))):=by
 refine enter (n:=20) Try.func71 rfl Try.ntmps71 rfl ?_ hw
 refine cC ?_
 refine lE bV ?_
 refine eJ ?_
 refine lE fR ?_
 refine aW ?_
 refine dX ?_
 refine iW (r:=row (.slice none 0 0) 99 1 0 ([].map (fun z:UInt64=>Ux z))) (eS _ _ _) ?_
 refine aC ?_
 refine lE bV ?_
 refine aW ?_
 refine aY ?_
 refine dV (fun(x_:Nat×List UInt64×Option Addr×Nat) f L=>match x_ with|(k,ys,p,c)=>(f 0= .string (s)∧f 3=sB p ys c∧f 4=Nx (k))∧L=[row (sB p ys c) 99 1 ((ys).length) (ys.map (fun z:UInt64=>Ux z))]∧(k≤s.size∧ys=(iH s).take k)) (fun(k,ys,p,c)=>s.size-k) (0,[],none,0) ?_ ?_
 ·exact⟨⟨rfl,rfl,rfl⟩,rfl,⟨by omega,rfl⟩⟩
 rintro⟨k,ys,p,c⟩ f0 L0 ⟨⟨hs0,hs3,hs4⟩,hL,⟨hk,hys⟩⟩
 subst L0
 refine dG 0 hs0 ?_
 refine dG 3 hs3 ?_
 refine dG 4 hs4 ?_
 have hyl:ys.length≤s.size:=by rw[hys];simp[iH];try omega
 refine dX ?_
 refine aC ?_
 refine lE bG ?_
 refine lv cV ?_
 refine lv (v:=Nx ((s).size)) (aAu (s:=s) rfl tf7) ?_
 refine lE jI ?_
 refine aW ?_
 refine cK _ rfl (fun hc1=> ?_) (fun hc1=> ?_)
 ·refine eT ?_
  refine aO ?_
  refine aY ?_
  refine aC ?_
  refine lE cX ?_
  refine lv cV ?_
  refine lE bG ?_
  obtain⟨c2,hc3⟩:∃c,(s).data.toList[k]? =some c:=⟨_,List.getElem?_eq_getElem (by simp;omega)⟩
  refine lv (v:=Bx (c2)) (vN (s:=s) (k:=k) (c:=c2) rfl rfl tf7 hc3) ?_
  refine lv (v:=Ux (c2.toUInt64)) (cZ (a:=((c2).toNat:Int)) rfl ⟨_,tM⟩ mN (xO _)) ?_
  refine cF rfl rfl rfl (cO aBk tf4.ok (cells:= #[Ux (c2.toUInt64)]) rfl rfl rfl rfl) ?_
  rintro _ _ ⟨b4,rfl,rfl⟩
  refine cF rfl rfl rfl (cG (enc:=(fun z:UInt64=>Ux z)) 1 aIo aBk aLb (v:=sB p ys c) (xs:=ys) (ys:=[c2.toUInt64]) (ao:=some ⟨b4,0,none⟩) (c:=1) rfl rfl (by first|rfl|simp) rfl (by first|rfl|simp) (fO 0 (xs:=[c2.toUInt64]) rfl) (by first|omega|(simp only[List.length_append,List.length_nil,List.length_cons,aL]at*;omega)) (by first|omega|(simp only[List.length_append,List.length_nil,List.length_cons,aL]at*;omega))) ?_
  rintro _ _ ⟨rp5,rc6,rfl,rfl⟩
  refine lE fR ?_
  refine aG ?_
  refine bD ?_
  refine aQ ?_
  refine aC ?_
  refine lE bG ?_
  refine lv (v:=Nx (k+1)) (bJ rfl rfl (bU (by omega) (by omega))) ?_
  refine lE bV ?_
  refine aG ?_
  refine dL [false,true] rfl ?_
  exact bT ⟨(k+1,ys++[c2.toUInt64],rp5,rc6),⟨⟨rfl,rfl,rfl⟩,rfl,⟨by omega,by rw[hys,iB (xs:=iH s) (a:=c2.toUInt64) (by simp[iH,hc3])]⟩⟩,(show s.size-(k+1)<s.size-k from by omega)⟩
 refine dZ ?_
 refine aU ?_
 refine aU ?_
 refine eA ?_
 refine zT ?_
 rw[List.take_of_length_le (show(iH s).length≤k by simp[iH];omega)]at hys
 refine aC ?_
 refine lE cX ?_
 refine gW gU (fun w β1 sb kn hw1=>aBg β1 w hw1 _ ys (kn (fun h=>Sl zW h _ ys) (aX.of_res 0 rfl (fun _ _ hs h=>Sl.mono zW _ _ _ _ hs h) fun _ h=>aFo h))) ?_
 refine lE bV ?_
 refine aW ?_
 refine bB ?_
 refine dS Try.results71 rfl ?_
 intro w hw
 exact⟨by rw[hys]<;>rfl,aF [false] rfl hw⟩
theorem kS(β:Base)(w:World)(hw:St β [] w)(n:UInt64)(sz:Nat)(hs1:1≤sz)(hs8:sz≤8):Calls Try.prog 68 #[Ux n,Nx sz] w fun r w'=>∃p c,r= .returned (sB p (be sz n) c)∧St β [rB p (be sz n) c] w':=by
 refine enter (n:=24) Try.func68 rfl Try.ntmps68 rfl ?_ hw
 refine cC ?_
 refine lE fR ?_
 refine eJ ?_
 refine lE bG ?_
 refine cF rfl rfl rfl (oM (c:=sz) bQ fV iG.ok rfl rfl (by omega) (by omega)) ?_
 rintro _ _ ⟨b1,rfl,rfl⟩
 refine lE fR ?_
 refine aW ?_
 refine dX ?_
 refine aC ?_
 refine lE bG ?_
 refine lE omn ?_
 refine lE bV ?_
 refine aW ?_
 refine aY ?_
 refine dV (fun(x_:Nat×UInt64×Bs) f L=>match x_ with|(q,m,ys)=>(f 0=Ux (m)∧f 5=sB (some ⟨b1,0,none⟩) ys sz∧f 6=Ix (((q:Nat):Int)-1))∧L=[rB (some ⟨b1,0,none⟩) ys sz]∧(q≤sz∧ys.length=sz∧ys.drop q=be (sz-q) n∧m.toNat=n.toNat/256^(sz-q))) (fun(q,m,ys)=>q) (sz,n,(List.replicate sz (0:UInt8))) ?_ ?_
 ·exact⟨⟨rfl,rfl,rfl⟩,rfl,⟨by omega,by simp,by rw[Nat.sub_self];simp[be],by rw[Nat.sub_self];simp⟩⟩
 rintro⟨q,m,ys⟩ f0 L0 ⟨⟨hs0,hs5,hs6⟩,hL,⟨hq,hyl,hyd,hym⟩⟩
 subst L0
 refine dG 0 hs0 ?_
 refine dG 5 hs5 ?_
 refine dG 6 hs6 ?_
 refine dX ?_
 refine aC ?_
 refine lE bG ?_
 refine lE oge ?_
 refine aW ?_
 refine cK _ rfl (fun hc2=> ?_) (fun hc2=> ?_)
 ·refine eT ?_
  refine aO ?_
  refine aY ?_
  refine aO ?_
  obtain⟨z,hz⟩:∃z,q=z+1:=⟨q-1,by omega⟩
  subst hz
  refine dG 6 (v:=Nx z) (congrArg (Value.int .i64) (by omega)) ?_
  refine aC ?_
  refine lE cX ?_
  iterate 2 refine lE bG ?_
  refine lv (v:=Ux (m%(256:UInt64))) (gJ (a:=((m).toNat:Int)) (b:=((256:UInt64).toNat:Int)) rfl rfl (by decide) (uU _ _)) ?_
  refine lv (v:=Bx ((m%(256:UInt64)).toUInt8)) (cZ (a:=((m%(256:UInt64)).toNat:Int)) rfl ⟨_,mN⟩ tM (wK _)) ?_
  refine lv (v:= .pointer (some ((ba (some ⟨b1,0,none⟩)).add (z*1)))) (dK 0 (j:=z) (len:=(ys).length) (cap:=sz) (p:=(some ⟨b1,0,none⟩)) rfl rfl bQ (by omega) (by omega) rfl) ?_
  refine lu (fJ 0 gQ.ok (o:=z*1) (v:=Bx ((m%(256:UInt64)).toUInt8)) rfl rfl rfl rfl rfl (by omega) (by omega)) ?_
  refine pR (L':=[row (.slice (some ⟨b1,0,none⟩) ((ys.set z ((m%(256:UInt64)).toUInt8))).length sz) 5 1 (((ys.set z ((m%(256:UInt64)).toUInt8))).length) (BX (ys.set z ((m%(256:UInt64)).toUInt8)))]) (by show [row (.slice (some ⟨b1,0,none⟩) (ys).length sz) 5 1 ((ys).length) ((kE (BX ys) (z*1) [Bx ((m%(256:UInt64)).toUInt8)]))]=_;rw[gX (by omega)];simp only[List.length_set]) ?_
  refine lnr ?_
  refine lE bG ?_
  refine lv (v:=Ux (m/(256:UInt64))) (aEb (a:=((m).toNat:Int)) (b:=(((256:UInt64)).toNat:Int)) rfl rfl (by decide) (aKi _ _)) ?_
  refine lE bV ?_
  refine aG ?_
  refine bD ?_
  refine aQ ?_
  refine aC ?_
  refine lE bG ?_
  refine lE omn ?_
  refine lE bV ?_
  refine aG ?_
  exact bT ⟨(z,(m/(256:UInt64)),(ys.set z ((m%(256:UInt64)).toUInt8))),⟨⟨rfl,(show(sB (some ⟨b1,0,none⟩) ys sz:Value)=_ by simp only[sB,List.length_set]),(congrArg (Value.int .i64) (by omega))⟩,(by simp[rB,sB]),⟨by omega,by simp;omega,by rw[show sz-z=(sz-(z+1))+1 by omega];exact aJi (by omega) hyd (yA (by omega) hym),by rw[show sz-z=(sz-(z+1))+1 by omega];exact yB hym⟩⟩,(show z<z+1 from Nat.lt_succ_self z)⟩
 refine dZ ?_
 refine aU ?_
 refine aU ?_
 refine eA ?_
 refine qF ?_
 refine lE cX ?_
 refine lE fR ?_
 refine aW ?_
 refine bB ?_
 refine dS Try.results68 rfl ?_
 intro w hw
 have hz:q=0:=by omega
 subst hz
 have he:ys=be sz n:=by simpa using hyd
 subst he
 exact⟨_,_,rfl,aF [true] rfl hw⟩
theorem qL(β:Base)(w:World)(hw:St β [] w)(e:Int):Calls Try.prog 30 #[Ix e] w fun r w'=>∃p c,r= .returned (sB p (be 8 (U e)++be 8 (bF e)) c)∧St β [rB p (be 8 (U e)++be 8 (bF e)) c] w':=by
 refine enter (n:=10) Try.func30 rfl Try.ntmps30 rfl ?_ hw
 refine cC ?_
 refine lE fR ?_
 refine eJ ?_
 refine lE bG ?_
 refine lv (v:=Ux (U (e))) (cZ (a:=(e)) rfl ⟨_,oD⟩ mN (jM _)) ?_
 refine jH (cY (vs:=[Ux (U (e)),.int .i64 (8)]) wC.ok rfl rfl) rfl fun w β1 sb kn hw1 back=>(kS β1 w hw1 (U (e)) 8 (by decide) (by decide)).mono ?_
 rintro e w' ⟨p1,c2,rfl,hw'⟩
 refine⟨_,rfl,_,back _ _ hw',?_⟩
 refine lE bG ?_
 refine gW gU (fun w β1 sb kn hw1=>aFr β1 w hw1 (e)) ?_
 refine jH (cY (vs:=[Ux (bF (e)),.int .i64 (8)]) wC.ok rfl rfl) rfl fun w β1 sb kn hw1 back=>(kS β1 w hw1 (bF (e)) 8 (by decide) (by decide)).mono ?_
 rintro e w' ⟨p3,c4,rfl,hw'⟩
 refine⟨_,rfl,_,back _ _ hw',?_⟩
 refine cF rfl rfl rfl (cG (enc:=fun c:UInt8=>Bx c) 1 dJ bQ fV (v:=sB p1 (be 8 (U (e))) c2) (xs:=be 8 (U (e))) (ys:=be 8 (bF (e))) (ao:=p3) (c:=c4) rfl rfl (by first|rfl|simp) rfl (by first|rfl|simp) (iF 0 rfl) (by first|omega|(simp only[List.length_append,List.length_nil,List.length_cons,aL]at*;omega)) (by first|omega|(simp only[List.length_append,List.length_nil,List.length_cons,aL]at*;omega))) ?_
 rintro _ _ ⟨rp5,rc6,rfl,rfl⟩
 refine lE fR ?_
 refine aW ?_
 refine bB ?_
 refine dS Try.results30 rfl ?_
 intro w hw
 exact⟨_,_,rfl,aF [false,true] rfl hw⟩
theorem gZ(β:Base)(w:World)(hw:St β [] w)(e n:Int)(xs:Bs)(v:Value)(hx:xs.length≤1048576)(hs:Sl bE β.heap v xs):Calls Try.prog 31 #[Ix e,Ix n,v] w fun r w'=>∃p c,r= .returned (sB p (aD e n xs) c)∧St β [rB p (aD e n xs) c] w':=by
 obtain⟨va,vc,rfl,vl,vm,ve⟩:=hs.get
 refine enter (n:=40) Try.func31 rfl Try.ntmps31 rfl ?_ hw
 refine cC ?_
 refine lE fR ?_
 refine eJ ?_
 refine lE cX ?_
 refine lE fC ?_
 refine lv (v:=Ux (U ((xs.length:Nat):Int))) (cZ (a:=((xs.length:Nat):Int)) rfl ⟨_,oD⟩ mN (jM _)) ?_
 refine jH (cY (vs:=[Ux (U ((xs.length:Nat):Int)),.int .i64 (4)]) wC.ok rfl rfl) rfl fun w β1 sb kn hw1 back=>(kS β1 w hw1 (U ((xs.length:Nat):Int)) 4 (by decide) (by decide)).mono ?_
 rintro e w' ⟨p1,c2,rfl,hw'⟩
 refine⟨_,rfl,_,back _ _ hw',?_⟩
 refine lE cX ?_
 refine lE fC ?_
 refine lv (v:=Ux (U ((xs.length:Nat):Int))) (cZ (a:=((xs.length:Nat):Int)) rfl ⟨_,oD⟩ mN (jM _)) ?_
 refine lv (v:=Ux ((4294967295:UInt64)-(U ((xs.length:Nat):Int)))) (aIw rfl rfl (aKk _ _)) ?_
 refine jH (cY (vs:=[Ux ((4294967295:UInt64)-(U ((xs.length:Nat):Int))),.int .i64 (4)]) wC.ok rfl rfl) rfl fun w β1 sb kn hw1 back=>(kS β1 w hw1 ((4294967295:UInt64)-(U ((xs.length:Nat):Int))) 4 (by decide) (by decide)).mono ?_
 rintro e w' ⟨p3,c4,rfl,hw'⟩
 refine⟨_,rfl,_,back _ _ hw',?_⟩
 refine cF rfl rfl rfl (cG (enc:=fun c:UInt8=>Bx c) 1 dJ bQ fV (v:=sB p1 (be 4 (U ((xs.length:Nat):Int))) c2) (xs:=be 4 (U ((xs.length:Nat):Int))) (ys:=be 4 ((4294967295:UInt64)-(U ((xs.length:Nat):Int)))) (ao:=p3) (c:=c4) rfl rfl (by first|rfl|simp) rfl (by first|rfl|simp) (iF 0 rfl) (by first|omega|(simp only[List.length_append,List.length_nil,List.length_cons,aL]at*;omega)) (by first|omega|(simp only[List.length_append,List.length_nil,List.length_cons,aL]at*;omega))) ?_
 rintro _ _ ⟨rp5,rc6,rfl,rfl⟩
 refine lE fR ?_
 refine eJ ?_
 refine lE cX ?_
 refine lE bG ?_
 refine lv (v:=Ux (U (n))) (cZ (a:=(n)) rfl ⟨_,oD⟩ mN (jM _)) ?_
 refine jH (cY (vs:=[Ux (U (n)),.int .i64 (8)]) wC.ok rfl rfl) rfl fun w β1 sb kn hw1 back=>(kS β1 w hw1 (U (n)) 8 (by decide) (by decide)).mono ?_
 rintro e w' ⟨p7,c8,rfl,hw'⟩
 refine⟨_,rfl,_,back _ _ hw',?_⟩
 refine cF rfl rfl rfl (cG (enc:=fun c:UInt8=>Bx c) 2 dJ bQ fV (v:=sB rp5 ((be 4 (U ((xs.length:Nat):Int)))++(be 4 ((4294967295:UInt64)-(U ((xs.length:Nat):Int))))) rc6) (xs:=(be 4 (U ((xs.length:Nat):Int)))++(be 4 ((4294967295:UInt64)-(U ((xs.length:Nat):Int))))) (ys:=be 8 (U (n))) (ao:=p7) (c:=c8) rfl rfl (by first|rfl|simp) rfl (by first|rfl|simp) (iF 0 rfl) (by first|omega|(simp only[List.length_append,List.length_nil,List.length_cons,aL]at*;omega)) (by first|omega|(simp only[List.length_append,List.length_nil,List.length_cons,aL]at*;omega))) ?_
 rintro _ _ ⟨rp9,rc10,rfl,rfl⟩
 refine lE fR ?_
 refine eJ ?_
 iterate 2 refine lE cX ?_
 refine cF rfl rfl rfl (cG (enc:=fun c:UInt8=>Bx c) 2 dJ bQ fV (v:=sB rp9 (((be 4 (U ((xs.length:Nat):Int)))++(be 4 ((4294967295:UInt64)-(U ((xs.length:Nat):Int)))))++(be 8 (U (n)))) rc10) (xs:=((be 4 (U ((xs.length:Nat):Int)))++(be 4 ((4294967295:UInt64)-(U ((xs.length:Nat):Int)))))++(be 8 (U (n)))) (ys:=xs) (ao:=va) (c:=vc) rfl rfl (by first|rfl|simp) rfl (by first|rfl|simp) (aX.of_base (bO.mono _ _ _) ve) (by first|omega|(simp only[List.length_append,List.length_nil,List.length_cons,aL]at*;omega)) (by first|omega|(simp only[List.length_append,List.length_nil,List.length_cons,aL]at*;omega))) ?_
 rintro _ _ ⟨rp11,rc12,rfl,rfl⟩
 refine lE fR ?_
 refine eJ ?_
 refine lE cX ?_
 refine lv (v:= .string (mK xs)) (jO (a:=va) (bs:=xs) (m:=xs.length) (c:=vc) rfl (by first|rfl|simp) mM.ok tM tf7 (aX.of_base (bO.mono _ _ _) ve)) ?_
 refine gW gU (fun w β1 sb kn hw1=>aFn β1 w hw1 (mK xs) (show(xs.length:Nat)≤_ by omega)) ?_
 refine lE bG ?_
 refine lv (v:=Ux (U (n))) (cZ (a:=(n)) rfl ⟨_,oD⟩ mN (jM _)) ?_
 refine gW gU (fun w β1 sb kn hw1=>vV β1 w hw1 (sL xs) (U (n))) ?_
 refine lE bG ?_
 refine lv (v:=Ux (U (e))) (cZ (a:=(e)) rfl ⟨_,oD⟩ mN (jM _)) ?_
 refine gW gU (fun w β1 sb kn hw1=>vV β1 w hw1 (jN (sL xs) (U (n))) (U (e))) ?_
 refine lE bV ?_
 refine eJ ?_
 refine lE cX ?_
 refine lE bG ?_
 refine jH (cY (vs:=[Ux (jN (jN (sL xs) (U (n))) (U (e))),.int .i64 (8)]) wC.ok rfl rfl) rfl fun w β1 sb kn hw1 back=>(kS β1 w hw1 (jN (jN (sL xs) (U (n))) (U (e))) 8 (by decide) (by decide)).mono ?_
 rintro e w' ⟨p13,c14,rfl,hw'⟩
 refine⟨_,rfl,_,back _ _ hw',?_⟩
 refine cF rfl rfl rfl (cG (enc:=fun c:UInt8=>Bx c) 3 dJ bQ fV (v:=sB rp11 ((((be 4 (U ((xs.length:Nat):Int)))++(be 4 ((4294967295:UInt64)-(U ((xs.length:Nat):Int)))))++(be 8 (U (n))))++xs) rc12) (xs:=(((be 4 (U ((xs.length:Nat):Int)))++(be 4 ((4294967295:UInt64)-(U ((xs.length:Nat):Int)))))++(be 8 (U (n))))++xs) (ys:=be 8 (jN (jN (sL xs) (U (n))) (U (e)))) (ao:=p13) (c:=c14) rfl rfl (by first|rfl|simp) rfl (by first|rfl|simp) (iF 0 rfl) (by first|omega|(simp only[List.length_append,List.length_nil,List.length_cons,aL]at*;omega)) (by first|omega|(simp only[List.length_append,List.length_nil,List.length_cons,aL]at*;omega))) ?_
 rintro _ _ ⟨rp15,rc16,rfl,rfl⟩
 refine lE fR ?_
 refine aW ?_
 refine bB ?_
 refine dS Try.results31 rfl ?_
 intro w hw
 rw[aDn (by rw[fY (by omega)];omega)]at hw⊢
 exact⟨_,_,rfl,aF [false,false,false,true] rfl hw⟩
theorem aDa(β:Base)(w:World)(hw:St β [] w)(k:KS)(vh va vb:Value)(hH:Sl bE β.heap vh k.head)(hA:Sl bE β.heap va k.a)(hB:Sl bE β.heap vb k.b):kH Try.prog 79 #[.agg #[vh,va,vb,Ix k.power]] β w (.bool (decide k.okP)):=by
 obtain⟨vha,vhc,rfl,vhl,vhm,vhe⟩:=hH.get
 obtain⟨vaa,vac,rfl,val,vam,vae⟩:=hA.get
 obtain⟨vba,vbc,rfl,vbl,vbm,vbe⟩:=hB.get
 refine enter (n:=30) Try.func79 rfl Try.ntmps79 rfl ?_ hw
 refine cC ?_
 refine pD fun b1=> ?_
 refine lE eE ?_
 refine eJ ?_
 refine lE bM ?_
 refine lE (fA 0) ?_
 refine lE fC ?_
 refine lE dR ?_
 refine lE dQ ?_
 refine cD (s:=7) rfl (fun hg2=> ?_) (fun hg2=> ?_)
 ·iterate 4 refine iU ?_
  refine lE dY ?_
  refine lE dQ ?_
  refine gE bM ?_
  refine gE (fA 0) ?_
  refine gE fC ?_
  refine gE ole ?_
  refine lE dY ?_
  refine lE dQ ?_
  refine cD (s:=19) rfl (fun hg3=> ?_) (fun hg3=> ?_)
  ·refine gE bM ?_
   refine gE (fA 0) ?_
   refine gE fC ?_
   refine gE ole ?_
   refine lE dY ?_
   refine lE dQ ?_
   refine cD (s:=25) rfl (fun hg4=> ?_) (fun hg4=> ?_)
   ·refine gE bM ?_
    refine gE (eU 0) ?_
    refine gE oge ?_
    refine lE dY ?_
    refine lE eE ?_
    refine aW ?_
    refine bB ?_
    refine dS Try.results79 rfl ?_
    intro w hw
    exact⟨wJ (by unfold KS.okP;omega),aF [false] rfl hw⟩
   iterate 3 refine iU ?_
   refine lE cR ?_
   refine lE eE ?_
   refine aW ?_
   refine bB ?_
   refine dS Try.results79 rfl ?_
   intro w hw
   exact⟨iD (by unfold KS.okP;omega),aF [false] rfl hw⟩
  iterate 4 refine iU ?_
  refine lE cR ?_
  refine lE dQ ?_
  iterate 3 refine iU ?_
  refine lE cR ?_
  refine lE eE ?_
  refine aW ?_
  refine bB ?_
  refine dS Try.results79 rfl ?_
  intro w hw
  exact⟨iD (by unfold KS.okP;omega),aF [false] rfl hw⟩
 refine gE bM ?_
 refine gE (fA 0) ?_
 refine gE fC ?_
 refine gE dR ?_
 refine lE cR ?_
 refine lE dQ ?_
 refine cD (s:=13) rfl (fun hg5=> ?_) (fun hg5=> ?_)
 ·refine gE bM ?_
  refine gE (fA 0) ?_
  refine gE fC ?_
  refine gE ole ?_
  refine lE dY ?_
  refine lE dQ ?_
  refine cD (s:=19) rfl (fun hg6=> ?_) (fun hg6=> ?_)
  ·refine gE bM ?_
   refine gE (fA 0) ?_
   refine gE fC ?_
   refine gE ole ?_
   refine lE dY ?_
   refine lE dQ ?_
   refine cD (s:=25) rfl (fun hg7=> ?_) (fun hg7=> ?_)
   ·refine gE bM ?_
    refine gE (eU 0) ?_
    refine gE oge ?_
    refine lE dY ?_
    refine lE eE ?_
    refine aW ?_
    refine bB ?_
    refine dS Try.results79 rfl ?_
    intro w hw
    exact⟨wJ (by unfold KS.okP;omega),aF [false] rfl hw⟩
   iterate 3 refine iU ?_
   refine lE cR ?_
   refine lE eE ?_
   refine aW ?_
   refine bB ?_
   refine dS Try.results79 rfl ?_
   intro w hw
   exact⟨iD (by unfold KS.okP;omega),aF [false] rfl hw⟩
  iterate 4 refine iU ?_
  refine lE cR ?_
  refine lE dQ ?_
  iterate 3 refine iU ?_
  refine lE cR ?_
  refine lE eE ?_
  refine aW ?_
  refine bB ?_
  refine dS Try.results79 rfl ?_
  intro w hw
  exact⟨iD (by unfold KS.okP;omega),aF [false] rfl hw⟩
 iterate 4 refine iU ?_
 refine lE cR ?_
 refine lE dQ ?_
 iterate 4 refine iU ?_
 refine lE cR ?_
 refine lE dQ ?_
 iterate 3 refine iU ?_
 refine lE cR ?_
 refine lE eE ?_
 refine aW ?_
 refine bB ?_
 refine dS Try.results79 rfl ?_
 intro w hw
 exact⟨iD (by unfold KS.okP;omega),aF [false] rfl hw⟩
theorem uC(β:Base)(w:World)(hw:St β [] w)(e:Nat)(k:KS)(vh va vb:Value)(hH:Sl bE β.heap vh k.head)(hA:Sl bE β.heap va k.a)(hB:Sl bE β.heap vb k.b):kH Try.prog 63 #[.agg #[vh,va,vb,Ix k.power],Nx e] β w (if e%2=0 then va else vb):=by
 obtain⟨vha,vhc,rfl,vhl,vhm,vhe⟩:=hH.get
 obtain⟨vaa,vac,rfl,val,vam,vae⟩:=hA.get
 obtain⟨vba,vbc,rfl,vbl,vbm,vbe⟩:=hB.get
 refine enter (n:=12) Try.func63 rfl Try.ntmps63 rfl ?_ hw
 refine cC ?_
 refine pD fun b1=> ?_
 refine lE fR ?_
 refine aW ?_
 refine dX ?_
 refine aC ?_
 refine lE bG ?_
 refine lv (v:=Nx (e%2)) (gJ (a:=((e:Nat):Int)) (b:=(2:Int)) rfl rfl (by decide) (eC _ 2)) ?_
 refine lE dR ?_
 refine aW ?_
 refine cK _ rfl (fun hc2=> ?_) (fun hc2=> ?_)
 ·refine cC ?_
  refine lE bM ?_
  refine lE (fA 0) ?_
  refine lE fR ?_
  refine aW ?_
  refine bB ?_
  refine aK ?_
  refine dS Try.results63 (v:=sB vaa k.a (vac)) rfl ?_
  intro w hw
  exact⟨by first|rw[if_pos (by omega)]|rw[if_neg (by omega)],aF [false] rfl hw⟩
 refine eT ?_
 refine cC ?_
 refine lE bM ?_
 refine lE (fA 0) ?_
 refine lE fR ?_
 refine aW ?_
 refine bB ?_
 refine dS Try.results63 (v:=sB vba k.b (vbc)) rfl ?_
 intro w hw
 exact⟨by first|rw[if_pos (by omega)]|rw[if_neg (by omega)],aF [false] rfl hw⟩
theorem aEw(β:Base)(w:World)(hw:St β [] w)(i:Nat)(hi:i≤4611686018427387904):kH Try.prog 82 #[.int .i64 2,Nx i] β w (Nx (9000027+i)):=by
 refine enter (n:=10) Try.func82 rfl Try.ntmps82 rfl ?_ hw
 refine cC ?_
 refine lE bV ?_
 refine eJ ?_
 refine lE bG ?_
 refine lE opl ?_
 refine lv (v:= .int .i64 (9000027)) (iC (a:=(1000003:Int)) (b:=(9:Int)) rfl rfl (by decide)) ?_
 refine lE bG ?_
 refine lv (v:=Nx (9000027+i)) (bJ rfl rfl (bU (by omega) (by omega))) ?_
 refine lE bV ?_
 refine aW ?_
 refine bB ?_
 refine dS Try.results82 rfl ?_
 intro w hw
 exact⟨rfl,aF [] rfl hw⟩
theorem aCn(β:Base)(w:World)(hw:St β [] w)(i:Nat)(hi:i≤4611686018427387904):kH Try.prog 62 #[.int .i64 2,Nx i] β w (Bx (aIy (9000027+i))):=by
 refine enter (n:=12) Try.func62 rfl Try.ntmps62 rfl ?_ hw
 refine cC ?_
 refine lE bV ?_
 refine eJ ?_
 iterate 2 refine lE bG ?_
 refine gW gU (fun w β1 sb kn hw1=>aEw β1 w hw1 i (by omega)) ?_
 refine lv (v:=Ux (U ((9000027+i:Nat):Int))) (cZ (a:=((9000027+i:Nat):Int)) rfl ⟨_,oD⟩ mN (jM _)) ?_
 refine lv (v:=Ux ((U ((9000027+i:Nat):Int))*(11400714819323198485:UInt64))) (iC (a:=((U ((9000027+i:Nat):Int)).toNat:Int)) (b:=((11400714819323198485:UInt64).toNat:Int)) rfl rfl (lX _ _)) ?_
 refine lv (v:=Ux (((U ((9000027+i:Nat):Int))*(11400714819323198485:UInt64))>>>(56:UInt64))) (sF (a:=(((U ((9000027+i:Nat):Int))*(11400714819323198485:UInt64)).toNat:Int)) (b:=((56:Nat):Int)) rfl rfl (by decide) (oJ _ 56 (by decide))) ?_
 refine lv (v:=Bx ((((U ((9000027+i:Nat):Int))*(11400714819323198485:UInt64))>>>(56:UInt64)).toUInt8)) (cZ (a:=((((U ((9000027+i:Nat):Int))*(11400714819323198485:UInt64))>>>(56:UInt64)).toNat:Int)) rfl ⟨_,mN⟩ tM (wK _)) ?_
 refine lE bV ?_
 refine aW ?_
 refine bB ?_
 refine dS Try.results62 rfl ?_
 intro w hw
 exact⟨rfl,aF [] rfl hw⟩
theorem pV(β:Base)(w:World)(hw:St β [] w)(k:KS)(vh va vb:Value)(hH:Sl bE β.heap vh k.head)(hA:Sl bE β.heap va k.a)(hB:Sl bE β.heap vb k.b)(h1:k.head.length≤1048576)(h2:k.a.length≤1048576)(h3:k.b.length≤1048576):Calls Try.prog 65 #[.agg #[vh,va,vb,Ix k.power]] w fun r w'=>∃pH pA pB cH cA cB,r= .returned (.agg #[sB pH k.head cH,sB pA k.a cA,sB pB k.b cB,Ix k.power])∧St β [rB pH k.head cH,rB pA k.a cA,rB pB k.b cB] w':=by
 obtain⟨vha,vhc,rfl,vhl,vhm,vhe⟩:=hH.get
 obtain⟨vaa,vac,rfl,val,vam,vae⟩:=hA.get
 obtain⟨vba,vbc,rfl,vbl,vbm,vbe⟩:=hB.get
 refine enter (n:=19) Try.func65 rfl Try.ntmps65 rfl ?_ hw
 refine cC ?_
 refine pD fun b1=> ?_
 refine fZ fun b2=> ?_
 refine aW ?_
 refine aO ?_
 refine rF [⟨[],[],[],[3],fun f=>f 3= .slice (some ⟨(bI (f 3)),0,none⟩) 0 0⟩,sv 4 (pp b1 0) [] [] [0],sv 5 (sB vha k.head (vhc)) [1] [1] [],⟨[0,1,2],[0,2],[],[6],fun f=>f 6=sB (aM (f 6)) ([]++k.head) (aN (f 6))⟩,⟨[],[],[],[7],fun f=>f 7= .slice (some ⟨(bI (f 7)),0,none⟩) 0 0⟩,sv 8 (pp b1 1) [] [] [0],sv 9 (sB vaa k.a (vac)) [5] [5] [],⟨(List.range 7),[4,6],[],[10],fun f=>f 10=sB (aM (f 10)) ([]++k.a) (aN (f 10))⟩,⟨[],[],[],[11],fun f=>f 11= .slice (some ⟨(bI (f 11)),0,none⟩) 0 0⟩,sv 12 (pp b1 2) [] [] [0],sv 13 (sB vba k.b (vbc)) [9] [9] [],⟨(List.range 11),[8,10],[],[14],fun f=>f 14=sB (aM (f 14)) ([]++k.b) (aN (f 14))⟩,sv 15 (pp b1 0) [0,1,2,3,5,6,9,10] [] [0],⟨(List.range 13),[12,3],[],[],fun _=>True⟩,sv 16 (pp b1 1) (List.range 14) [] [0],⟨(List.range 15),[14,7],[],[],fun _=>True⟩,sv 17 (pp b1 2) (List.range 16) [] [0],⟨(List.range 17),[16,11],[],[],fun _=>True⟩] [u0,(some 13,[2,6,10,13])] [⟨(some 0),(some 3),[3],[3],fun f=>pt (bI (f 3)) (.cells #[] 5)⟩,⟨(some 3),none,[],[6],fun f=>rB (aM (f 6)) ([]++k.head) (aN (f 6))⟩,⟨(some 4),(some 7),[7],[7],fun f=>pt (bI (f 7)) (.cells #[] 5)⟩,⟨(some 7),none,[],[10],fun f=>rB (aM (f 10)) ([]++k.a) (aN (f 10))⟩,⟨(some 8),(some 11),[11],[11],fun f=>pt (bI (f 11)) (.cells #[] 5)⟩,⟨(some 11),none,[],[14],fun f=>rB (aM (f 14)) ([]++k.b) (aN (f 14))⟩,⟨(some 13),(some 15),[15],[6],fun f=>pt b1 (.cells #[sB (aM (f 6)) ([]++k.head) (aN (f 6)),sB vaa k.a (vac),sB vba k.b (vbc),Ix (k.power)] 32)⟩,⟨(some 15),(some 17),[17],[6,10],fun f=>pt b1 (.cells #[sB (aM (f 6)) ([]++k.head) (aN (f 6)),sB (aM (f 10)) ([]++k.a) (aN (f 10)),sB vba k.b (vbc),Ix (k.power)] 32)⟩,⟨(some 17),none,[],[6,10,14],fun f=>pt b1 (.cells #[sB (aM (f 6)) ([]++k.head) (aN (f 6)),sB (aM (f 10)) ([]++k.a) (aN (f 10)),sB (aM (f 14)) ([]++k.b) (aN (f 14)),Ix (k.power)] 32)⟩] [(1,pp b1 0),(2,pp b2 0)] [0,1] ⟨rfl,rfl,trivial⟩ ⟨?_,?_,?_,?_,?_,?_,?_,?_,?_,?_,?_,?_,?_,?_,?_,?_,?_,?_,trivial⟩ ?_
 ·rintro f M- -
  refine fF rfl ?_
  refine cF rfl rfl rfl (iZ bQ) ?_
  rintro _ _ ⟨b4,rfl,rfl⟩
  refine aG ?_
  exact aI rfl rfl (aB 0 rfl)
 ·rintro f M-⟨i0,-⟩
  exact bK bM
 ·rintro f M ⟨k0,-⟩-
  exact bK (fA 0)
 ·rintro f M ⟨k0,k1,-⟩-
  have hs3:f 3= .slice (some ⟨(bI (f 3)),0,none⟩) 0 0:=k0
  refine fF (aA (d:=5) (aA rfl hs3) k1) ?_
  refine iY 0 (r':=row (.slice (some ⟨(bI (f 3)),0,none⟩) 0 0) 5 1 0 (BX [])) rfl (fun a h=>jA (m:=0) (by decide) rfl a h) ?_
  refine cF rfl rfl rfl (cG (enc:=fun c:UInt8=>Bx c) 0 dJ bQ fV (v:= .slice (some ⟨(bI (f 3)),0,none⟩) 0 0) (xs:=[]) (ys:=k.head) (ao:=vha) (c:=vhc) rfl rfl (by first|rfl|simp) rfl (by first|rfl|simp) (aX.of_base (bO.mono _ _ _) vhe) (by first|omega|(simp only[List.length_append,List.length_nil,List.length_cons,aL]at*;omega)) (by first|omega|(simp only[List.length_append,List.length_nil,List.length_cons,aL]at*;omega))) ?_
  rintro _ _ ⟨rp7,rc8,rfl,rfl⟩
  refine aG ?_
  exact aI (aA (d:=5) (aA rfl hs3) k1) rfl (aB 0 rfl)
 ·rintro f M- -
  refine fF rfl ?_
  refine cF rfl rfl rfl (iZ bQ) ?_
  rintro _ _ ⟨b10,rfl,rfl⟩
  refine aG ?_
  exact aI rfl rfl (aB 0 rfl)
 ·rintro f M-⟨i0,-⟩
  exact bK bM
 ·rintro f M ⟨k0,-⟩-
  exact bK (fA 0)
 ·rintro f M ⟨k0,k1,-⟩-
  have hs7:f 7= .slice (some ⟨(bI (f 7)),0,none⟩) 0 0:=k0
  refine fF (aA (d:=9) (aA rfl hs7) k1) ?_
  refine iY 0 (r':=row (.slice (some ⟨(bI (f 7)),0,none⟩) 0 0) 5 1 0 (BX [])) rfl (fun a h=>jA (m:=0) (by decide) rfl a h) ?_
  refine cF rfl rfl rfl (cG (enc:=fun c:UInt8=>Bx c) 0 dJ bQ fV (v:= .slice (some ⟨(bI (f 7)),0,none⟩) 0 0) (xs:=[]) (ys:=k.a) (ao:=vaa) (c:=vac) rfl rfl (by first|rfl|simp) rfl (by first|rfl|simp) (aX.of_base (bO.mono _ _ _) vae) (by first|omega|(simp only[List.length_append,List.length_nil,List.length_cons,aL]at*;omega)) (by first|omega|(simp only[List.length_append,List.length_nil,List.length_cons,aL]at*;omega))) ?_
  rintro _ _ ⟨rp13,rc14,rfl,rfl⟩
  refine aG ?_
  exact aI (aA (d:=9) (aA rfl hs7) k1) rfl (aB 0 rfl)
 ·rintro f M- -
  refine fF rfl ?_
  refine cF rfl rfl rfl (iZ bQ) ?_
  rintro _ _ ⟨b16,rfl,rfl⟩
  refine aG ?_
  exact aI rfl rfl (aB 0 rfl)
 ·rintro f M-⟨i0,-⟩
  exact bK bM
 ·rintro f M ⟨k0,-⟩-
  exact bK (fA 0)
 ·rintro f M ⟨k0,k1,-⟩-
  have hs11:f 11= .slice (some ⟨(bI (f 11)),0,none⟩) 0 0:=k0
  refine fF (aA (d:=13) (aA rfl hs11) k1) ?_
  refine iY 0 (r':=row (.slice (some ⟨(bI (f 11)),0,none⟩) 0 0) 5 1 0 (BX [])) rfl (fun a h=>jA (m:=0) (by decide) rfl a h) ?_
  refine cF rfl rfl rfl (cG (enc:=fun c:UInt8=>Bx c) 0 dJ bQ fV (v:= .slice (some ⟨(bI (f 11)),0,none⟩) 0 0) (xs:=[]) (ys:=k.b) (ao:=vba) (c:=vbc) rfl rfl (by first|rfl|simp) rfl (by first|rfl|simp) (aX.of_base (bO.mono _ _ _) vbe) (by first|omega|(simp only[List.length_append,List.length_nil,List.length_cons,aL]at*;omega)) (by first|omega|(simp only[List.length_append,List.length_nil,List.length_cons,aL]at*;omega))) ?_
  rintro _ _ ⟨rp19,rc20,rfl,rfl⟩
  refine aG ?_
  exact aI (aA (d:=13) (aA rfl hs11) k1) rfl (aB 0 rfl)
 ·rintro f M-⟨i0,-⟩
  exact bK bM
 ·rintro f M ⟨k0,k1,-⟩-
  have hs6:f 6=sB (aM (f 6)) ([]++k.head) (aN (f 6)):=k1
  refine fF (aA (aA (d:=15) rfl k0) hs6) ?_
  refine lu (mS 0 (#[sB (aM (f 6)) ([]++k.head) (aN (f 6)),sB vaa k.a (vac),sB vba k.b (vbc),Ix (k.power)])) ?_
  refine aG ?_
  exact cT (aA (aA (d:=15) rfl k0) hs6) trivial (aB 0 rfl)
 ·rintro f M-⟨i0,-⟩
  exact bK bM
 ·rintro f M ⟨k0,k1,-⟩-
  have hs10:f 10=sB (aM (f 10)) ([]++k.a) (aN (f 10)):=k1
  refine fF (aA (aA (d:=16) rfl k0) hs10) ?_
  refine lu (mS 0 (#[sB (aM (f 6)) ([]++k.head) (aN (f 6)),sB (aM (f 10)) ([]++k.a) (aN (f 10)),sB vba k.b (vbc),Ix (k.power)])) ?_
  refine aG ?_
  exact cT (aA (aA (d:=16) rfl k0) hs10) trivial (aB 0 rfl)
 ·rintro f M-⟨i0,-⟩
  exact bK bM
 ·rintro f M ⟨k0,k1,-⟩-
  have hs14:f 14=sB (aM (f 14)) ([]++k.b) (aN (f 14)):=k1
  refine fF (aA (aA (d:=17) rfl k0) hs14) ?_
  refine lu (mS 0 (#[sB (aM (f 6)) ([]++k.head) (aN (f 6)),sB (aM (f 10)) ([]++k.a) (aN (f 10)),sB (aM (f 14)) ([]++k.b) (aN (f 14)),Ix (k.power)])) ?_
  refine aG ?_
  exact cT (aA (aA (d:=17) rfl k0) hs14) trivial (aB 0 rfl)
 rintro fa21 ⟨-,-,-,-,-,-,-,-,-,-,-,-,-,-,-,-,-,-,-⟩ ⟨j0,j1,-⟩
 refine rL ?_
 refine aJ (d:=1) j0 ?_
 refine aJ (d:=2) j1 ?_
 refine qF ?_
 refine lE (dO 4) ?_
 refine lu (mS 0 (#[sB (aM (fa21 6)) ([]++k.head) (aN (fa21 6)),sB (aM (fa21 10)) ([]++k.a) (aN (fa21 10)),sB (aM (fa21 14)) ([]++k.b) (aN (fa21 14)),Ix (k.power)])) ?_
 refine aW ?_
 refine bB ?_
 refine fH (m:=[.agg #[sB (aM (fa21 6)) ([]++k.head) (aN (fa21 6)),sB (aM (fa21 10)) ([]++k.a) (aN (fa21 10)),sB (aM (fa21 14)) ([]++k.b) (aN (fa21 14)),Ix (k.power)]]) Try.results65 ⟨bY fX.ok rfl (dM 0 rfl rfl) rfl,trivial⟩ rfl ?_
 intro w hw
 exact⟨_,_,_,_,_,_,rfl,aF [true,true,true,false,false] rfl (hw.perm (L':=[rB (aM (fa21 6)) ([]++k.head) (aN (fa21 6)),rB (aM (fa21 10)) ([]++k.a) (aN (fa21 10)),rB (aM (fa21 14)) ([]++k.b) (aN (fa21 14)),pt b2 (.cells #[sB (aM (fa21 6)) ([]++k.head) (aN (fa21 6)),sB (aM (fa21 10)) ([]++k.a) (aN (fa21 10)),sB (aM (fa21 14)) ([]++k.b) (aN (fa21 14)),Ix (k.power)] 32),pt b1 (.cells #[sB (aM (fa21 6)) ([]++k.head) (aN (fa21 6)),sB (aM (fa21 10)) ([]++k.a) (aN (fa21 10)),sB (aM (fa21 14)) ([]++k.b) (aN (fa21 14)),Ix (k.power)] 32)]) (by exact(bN [1,2,3,0,4] 5 rfl (by kernel_rfl) (by kernel_rfl))))⟩
end Go.Proofs
