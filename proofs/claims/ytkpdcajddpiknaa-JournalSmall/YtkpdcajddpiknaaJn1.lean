/-
 The journal's small functions,walked. Printed by a program of my own.
-/
import Derived.Test.YtkpdcajddpiknaaJnOpen
import Derived.Test.YtkpdcajddpiknaaProg
set_option linter.all false
set_option maxHeartbeats 4000000
namespace Go.Proofs
open Go Go.Sl Go.Jn
theorem qN{e:Int}{xs:Bs}{a:Option Addr}{c:Nat}(h:jS xs):Ending.returned (.tuple #[.int .i64 0,.slice none 0 0,.bool false])= .returned (.tuple #[Nx (eD xs),sB (nY a c xs) (aZ xs) (nD c xs),.bool (fK e xs)]):=by
 unfold eD nY aZ nD fK
 simp[h]
theorem aFl{e:Int}{xs:Bs}{a:Option Addr}{c:Nat}(h:¬jS xs):
  Ending.returned (.tuple #[Nx (xF xs).toNat,sB (gL a c 16 1) (vK xs) (c-16),.bool (decide (((aCz xs).toNat:Int)=((vF e ((xF xs).toNat:Int) (vK xs)).toNat:Int)))])=
  .returned (.tuple #[Nx (eD xs),sB (nY a c xs) (aZ xs) (nD c xs),.bool (fK e xs)]):=by
 unfold eD nY aZ nD fK
 simp only[sB,rB,if_neg h]
 rw[aLr]
theorem wJ{p q:Prop}[Decidable p][Decidable q](h:p↔q):Ending.returned (.bool (decide p))= .returned (.bool (decide q)):=by rw[decide_eq_decide.2 h]
instance tf0:CfC Try.prog 86:={}
theorem oD:Try.prog.underlying 3=some (.int .i64):=by kernel_rfl
theorem mN:Try.prog.underlying 99=some (.int .u64):=by kernel_rfl
instance tf3:CfC Try.prog 78:={}
instance tf4:ZerC Try.prog 99 (.int .u64 (0)):={}
instance tf5:TyC Try.prog 99 false 1:={}
instance tf6:TyC Try.prog 9 false 1:={}
theorem tf7:Try.prog.underlying 9=some .string:=by kernel_rfl
theorem tM:Try.prog.underlying 5=some (.int .u8):=by kernel_rfl
instance tf9:CfC Try.prog 90:={}
instance aMb:CfC Try.prog 89:={}
instance mM:UndC Try.prog 30 5:={}
theorem bQ:nB Try.prog 30 5 1=true:=by kernel_rfl
instance gQ:TyC Try.prog 5 false 1:={}
instance iG:ZerC Try.prog 5 (.int .u8 (0)):={}
theorem fV:zS Try.prog 5 1 1=true:=by kernel_rfl
instance tf16:CfC Try.prog 85:={}
instance zM:CfC Try.prog 57:={}
instance tf18:CfC Try.prog 75:={}
instance aGf:CfC Try.prog 74:={}
instance tf20:FldC Try.prog 32 0 0 1 false:={}
instance lV:TyC Try.prog 30 false 1:={}
instance tf22:FldC Try.prog 32 1 1 1 false:={}
instance tf23:FldC Try.prog 32 2 2 1 false:={}
instance tf24:FldC Try.prog 32 3 3 1 false:={}
instance sY:TyC Try.prog 3 false 1:={}
instance aMc:CfC Try.prog 58:={}
instance aMd:ZerC Try.prog 90 (.agg #[.pointer none,.pointer none]):={}
instance xM:ArrC Try.prog 90 2 89 1:={}
instance aMe:TyC Try.prog 90 true 2:={}
theorem aFa(β:Base)(w:World)(hw:St β [] w)(x:UInt64):kH Try.prog 86 #[Ux x] β w (Ux (aEz x)):=by
 refine enter (n:=17) Try.func86 rfl Try.ntmps86 rfl ?_ hw
 refine cC ?_
 refine lE bV ?_
 refine eJ ?_
 iterate 2 refine lE bG ?_
 refine lv (v:=Ux (x>>>(30:UInt64))) (sF (a:=((x).toNat:Int)) (b:=((30:Nat):Int)) rfl rfl (by decide) (oJ _ 30 (by decide))) ?_
 refine lv (v:=Ux (x^^^(x>>>(30:UInt64)))) (sG (a:=((x).toNat:Int)) (b:=((x>>>(30:UInt64)).toNat:Int)) rfl rfl (oK _ _)) ?_
 refine lv (v:=Ux ((x^^^(x>>>(30:UInt64)))*(13787848793156543929:UInt64))) (iC (a:=((x^^^(x>>>(30:UInt64))).toNat:Int)) (b:=((13787848793156543929:UInt64).toNat:Int)) rfl rfl (lX _ _)) ?_
 refine lE bV ?_
 refine eJ ?_
 iterate 2 refine lE bG ?_
 refine lv (v:=Ux (((x^^^(x>>>(30:UInt64)))*(13787848793156543929:UInt64))>>>(27:UInt64))) (sF (a:=(((x^^^(x>>>(30:UInt64)))*(13787848793156543929:UInt64)).toNat:Int)) (b:=((27:Nat):Int)) rfl rfl (by decide) (oJ _ 27 (by decide))) ?_
 refine lv (v:=Ux (((x^^^(x>>>(30:UInt64)))*(13787848793156543929:UInt64))^^^(((x^^^(x>>>(30:UInt64)))*(13787848793156543929:UInt64))>>>(27:UInt64)))) (sG (a:=(((x^^^(x>>>(30:UInt64)))*(13787848793156543929:UInt64)).toNat:Int)) (b:=((((x^^^(x>>>(30:UInt64)))*(13787848793156543929:UInt64))>>>(27:UInt64)).toNat:Int)) rfl rfl (oK _ _)) ?_
 refine lv (v:=Ux ((((x^^^(x>>>(30:UInt64)))*(13787848793156543929:UInt64))^^^(((x^^^(x>>>(30:UInt64)))*(13787848793156543929:UInt64))>>>(27:UInt64)))*(10723151780598845931:UInt64))) (iC (a:=((((x^^^(x>>>(30:UInt64)))*(13787848793156543929:UInt64))^^^(((x^^^(x>>>(30:UInt64)))*(13787848793156543929:UInt64))>>>(27:UInt64))).toNat:Int)) (b:=((10723151780598845931:UInt64).toNat:Int)) rfl rfl (lX _ _)) ?_
 refine lE bV ?_
 refine eJ ?_
 iterate 2 refine lE bG ?_
 refine lv (v:=Ux (((((x^^^(x>>>(30:UInt64)))*(13787848793156543929:UInt64))^^^(((x^^^(x>>>(30:UInt64)))*(13787848793156543929:UInt64))>>>(27:UInt64)))*(10723151780598845931:UInt64))>>>(31:UInt64))) (sF (a:=(((((x^^^(x>>>(30:UInt64)))*(13787848793156543929:UInt64))^^^(((x^^^(x>>>(30:UInt64)))*(13787848793156543929:UInt64))>>>(27:UInt64)))*(10723151780598845931:UInt64)).toNat:Int)) (b:=((31:Nat):Int)) rfl rfl (by decide) (oJ _ 31 (by decide))) ?_
 refine lv (v:=Ux (((((x^^^(x>>>(30:UInt64)))*(13787848793156543929:UInt64))^^^(((x^^^(x>>>(30:UInt64)))*(13787848793156543929:UInt64))>>>(27:UInt64)))*(10723151780598845931:UInt64))^^^(((((x^^^(x>>>(30:UInt64)))*(13787848793156543929:UInt64))^^^(((x^^^(x>>>(30:UInt64)))*(13787848793156543929:UInt64))>>>(27:UInt64)))*(10723151780598845931:UInt64))>>>(31:UInt64)))) (sG (a:=(((((x^^^(x>>>(30:UInt64)))*(13787848793156543929:UInt64))^^^(((x^^^(x>>>(30:UInt64)))*(13787848793156543929:UInt64))>>>(27:UInt64)))*(10723151780598845931:UInt64)).toNat:Int)) (b:=((((((x^^^(x>>>(30:UInt64)))*(13787848793156543929:UInt64))^^^(((x^^^(x>>>(30:UInt64)))*(13787848793156543929:UInt64))>>>(27:UInt64)))*(10723151780598845931:UInt64))>>>(31:UInt64)).toNat:Int)) rfl rfl (oK _ _)) ?_
 refine lE bV ?_
 refine aW ?_
 refine bB ?_
 refine dS Try.results86 rfl ?_
 intro w hw
 exact⟨rfl,aF [] rfl hw⟩
theorem tR(β:Base)(w:World)(hw:St β [] w)(x y:UInt64):kH Try.prog 78 #[Ux x,Ux y] β w (Ux (jN x y)):=by
 refine enter (n:=11) Try.func78 rfl Try.ntmps78 rfl ?_ hw
 refine cC ?_
 refine lE bV ?_
 refine eJ ?_
 refine lE bG ?_
 refine lv (v:=Ux (x*(11400714819323198485:UInt64))) (iC (a:=((x).toNat:Int)) (b:=((11400714819323198485:UInt64).toNat:Int)) rfl rfl (lX _ _)) ?_
 refine lE bG ?_
 refine lv (v:=Ux ((x*(11400714819323198485:UInt64))+y)) (bJ rfl rfl (kM _ _)) ?_
 refine lv (v:=Ux (((x*(11400714819323198485:UInt64))+y)+(1:UInt64))) (bJ rfl rfl (kM _ _)) ?_
 refine gW gU (fun w β1 sb kn hw1=>aFa β1 w hw1 (((x*(11400714819323198485:UInt64))+y)+(1:UInt64))) ?_
 refine lE bV ?_
 refine aW ?_
 refine bB ?_
 refine dS Try.results78 rfl ?_
 intro w hw
 exact⟨rfl,aF [] rfl hw⟩
theorem xN(β:Base)(w:World)(hw:St β [] w)(t:Int):kH Try.prog 58 #[Ix t] β w (Ux (bF t)):=by
 refine enter (n:=6) Try.func58 rfl Try.ntmps58 rfl ?_ hw
 refine cC ?_
 refine lE bV ?_
 refine eJ ?_
 refine lE bG ?_
 refine lv (v:=Ux (U (t))) (cZ (a:=(t)) rfl ⟨_,oD⟩ mN (jM _)) ?_
 refine gW gU (fun w β1 sb kn hw1=>tR β1 w hw1 (0:UInt64) (U (t))) ?_
 refine lE bV ?_
 refine aW ?_
 refine bB ?_
 refine dS Try.results58 rfl ?_
 intro w hw
 exact⟨rfl,aF [] rfl hw⟩
theorem zH(β:Base)(w:World)(hw:St β [] w)(v:Value)(xs:List UInt64)(hs:sA Try.prog β v (fun x=>[Ux x]) (· =xs)):kH Try.prog 89 #[v] β w (Ux (aDc xs)):=by
 refine aJt (n:=14) Try.func89 rfl Try.ntmps89 rfl ?_ hw
 refine cC ?_
 refine lE bV ?_
 refine eJ ?_
 refine fZ fun b1=> ?_
 refine lu (mS 0 (#[.int .u64 (0)])) ?_
 refine aW ?_
 refine dX ?_
 refine aC ?_
 refine lv cV ?_
 refine aW ?_
 refine aY ?_
 refine aGt (α:=UInt64) (enc:=fun x=>[Ux x]) (S:=(· =xs)) (ps:=[6]) (I:=fun(pre:List (UInt64)) (L:List cE)=>L=[pt b1 (.cells #[Ux (mI 0 pre)] 99)]∧(True)) (X:=fun _ _ _=>False) rfl (hs) (fun _=>rfl) rfl ⟨rfl,trivial⟩ ?_ ?_ ?_
 ·rintro l β1 pre x M ext hpre ⟨rfl,-⟩
  refine aC ?_
  refine lE bV ?_
  refine aG ?_
  refine bT (fun β2 ext2=> ?_)
  refine aY ?_
  refine aC ?_
  refine lE (eU 0) ?_
  refine lv (v:=Ux ((mI 0 pre)*(11400714819323198485:UInt64))) (iC (a:=((mI 0 pre).toNat:Int)) (b:=((11400714819323198485:UInt64).toNat:Int)) rfl rfl (lX _ _)) ?_
  refine lE bG ?_
  refine lv (v:=Ux (((mI 0 pre)*(11400714819323198485:UInt64))+x)) (bJ rfl rfl (kM _ _)) ?_
  refine lv (v:=Ux ((((mI 0 pre)*(11400714819323198485:UInt64))+x)+(1:UInt64))) (bJ rfl rfl (kM _ _)) ?_
  refine lu (mS 0 (#[Ux ((((mI 0 pre)*(11400714819323198485:UInt64))+x)+(1:UInt64))])) ?_
  refine aG ?_
  refine bD ?_
  exact fun a w ha hw=>⟨_,⟨(by rw[wA];rfl),trivial⟩,hw⟩
 ·rintro D ys M hS ⟨rfl,-⟩
  subst hS
  refine bD ?_
  refine qF ?_
  refine lE (eU 0) ?_
  refine gW gU (fun w β1 sb kn hw1=>aFa β1 w hw1 (mI 0 ys)) ?_
  refine lE bV ?_
  refine aW ?_
  refine bB ?_
  refine aLz 1 rfl Try.results89 (v:=Ux (aEz (mI 0 ys))) rfl ?_
  intro w hw
  exact⟨rfl,aF [false,false] rfl hw⟩
 intro D c pre M h;exact h.elim
theorem aDq(β:Base)(w:World)(hw:St β [] w)(s:ByteArray):Calls Try.prog 90 #[.string s] w fun e w'=>∃b,e= .returned (.func (.func 91) #[] #[pp b 0])∧St β [pt b (.cells #[.string s] 9)] w':=by
 refine enter (n:=4) Try.func90 rfl Try.ntmps90 rfl ?_ hw
 refine cC ?_
 refine cF rfl rfl rfl (vO (v:= .string (s)) rfl) ?_
 rintro _ _ ⟨b1,rfl,rfl⟩
 refine lv eR ?_
 refine eJ ?_
 refine lv (v:= .func (.func 91) #[] #[pp b1 0]) (pO (u:=[]) (v:=[pp b1 0]) rfl rfl) ?_
 refine lE oaf ?_
 refine aW ?_
 refine bB ?_
 refine dS Try.results90 rfl ?_
 intro w hw
 exact⟨_,rfl,hw⟩
theorem aBz(β:Base)(b:Nat)(s:ByteArray)(hb:Cs β.heap ⟨b,0,none⟩ [.string s])(hs:s.size≤9223372036854775807):sA Try.prog β (.func (.func 91) #[] #[pp b 0]) (fun x:UInt64=>[Ux x]) (· =iH s):=by
 refine⟨91,[],[pp b 0],rfl,by kernel_rfl,fun β₁ ext l J X hY M w hJ hw=> ?_⟩
 have hb1:=Cs.mono _ _ _ _ ext.sub hb
 refine enter (n:=17) Try.func91 rfl Try.ntmps91 rfl ?_ hw
 refine cC ?_
 refine lv (v:= .string (s)) (bZ tf6.ok rfl (kB hb1)) ?_
 refine lv (v:=Nx ((s).size)) (aAu (s:=s) rfl tf7) ?_
 refine lE bG ?_
 refine aW ?_
 refine aY ?_
 refine dV (fun(x_:Nat×List cE) f L=>match x_ with|(k,M)=>(f 0=yfn l∧f 1= .pointer (some (⟨b,0,none⟩))∧f 5=Nx ((s).size)∧f 6=Nx (k))∧L=(M)∧(k≤s.size∧J ((iH s).take (k)) M)) (fun(k,M)=>s.size-k) (0,M) ?_ ?_
 ·exact⟨⟨rfl,rfl,rfl,rfl⟩,rfl,⟨by omega,by simpa using hJ⟩⟩
 rintro⟨k,M⟩ f0 L0 ⟨⟨hs0,hs1,hs5,hs6⟩,hL,⟨hk,hJ⟩⟩
 subst L0
 refine dG 0 hs0 ?_
 refine dG 1 hs1 ?_
 refine dG 5 hs5 ?_
 refine dG 6 hs6 ?_
 refine cC ?_
 refine lE jI ?_
 refine aW ?_
 refine aO ?_
 refine cK _ rfl (fun hc1=> ?_) (fun hc1=> ?_)
 ·refine eT ?_
  refine aO ?_
  refine aY ?_
  refine cC ?_
  refine lE bG ?_
  refine lE bV ?_
  refine eJ ?_
  refine lv cV ?_
  refine lv (v:= .string (s)) (bZ tf6.ok rfl (kB hb1)) ?_
  refine lE bG ?_
  obtain⟨c2,hc3⟩:∃c,(s).data.toList[k]? =some c:=⟨_,List.getElem?_eq_getElem (by simp;omega)⟩
  refine lv (v:=Bx (c2)) (vN (s:=s) (k:=k) (c:=c2) rfl rfl tf7 hc3) ?_
  refine lv (v:=Ux (c2.toUInt64)) (cZ (a:=((c2).toNat:Int)) rfl ⟨_,tM⟩ mN (xO _)) ?_
  refine aHo (own:=[]) (M:=M) (d:=14) (enc:=fun x=>[Ux x]) (pre:=(iH s).take k) (x:=c2.toUInt64) rfl rfl rfl rfl hY (⟨_,rfl,take_prefix (by simp[iH,hc3])⟩) hJ (fun M1 hJ1=> ?_) (fun M1 hX1=> ?_)
  ·refine lE lI ?_
   refine aW ?_
   refine dI rfl ?_
   refine cM ?_
   refine bD ?_
   refine aQ ?_
   refine aC ?_
   refine lv (v:=Nx (k+1)) (bJ rfl rfl (bU (by omega) (by omega))) ?_
   refine lE bG ?_
   refine aG ?_
   exact bT ⟨(k+1,M1),⟨⟨rfl,rfl,rfl,rfl⟩,rfl,⟨by omega,by rw[iB (a:=c2.toUInt64) (by simp[iH,hc3])];exact hJ1⟩⟩,(show s.size-(k+1)<s.size-k from by omega)⟩
  refine lE lI ?_
  refine aW ?_
  refine dU rfl ?_
  refine bB ?_
  refine bH ?_
  refine aK ?_
  refine aK ?_
  refine bH ?_
  refine aLy Try.results91 ?_
  intro w hw
  exact⟨⟨_,rfl⟩,.inr ⟨_,M1,hX1,aF [] rfl hw⟩⟩
 refine dZ ?_
 refine aU ?_
 refine aU ?_
 refine eA ?_
 refine nS Try.results91 ?_
 intro w hw
 exact⟨⟨_,rfl⟩,.inl ⟨_,M,rfl,(by rw[List.take_of_length_le (by simp[iH];omega)]at hJ;exact hJ),aF [] rfl hw⟩⟩
theorem aHw(β:Base)(w:World)(hw:St β [] w)(s:ByteArray)(hs:s.size≤9223372036854775807):kH Try.prog 85 #[.string s] β w (Ux (aDc (iH s))):=by
 refine enter (n:=6) Try.func85 rfl Try.ntmps85 rfl ?_ hw
 refine cC ?_
 refine lE bV ?_
 refine eJ ?_
 refine lv cV ?_
 refine jH (cY (vs:=[.string (s)]) tf9.ok rfl rfl) rfl fun w β1 sb kn hw1 back=>(aDq β1 w hw1 s).mono ?_
 rintro e w' ⟨b1,rfl,hw'⟩
 refine⟨_,rfl,_,back _ _ hw',?_⟩
 refine bP rfl rfl rfl (cY (vs:=[.func (.func 91) #[] #[pp b1 0]]) aMb.ok rfl rfl) ?_
 intro w hw
 obtain⟨β1,sb,kn,hw1,back⟩:=St.frame_all hw
 have hsq:=aBz β1 b1 s (kn _ (dM 0 (cs:= #[.string (s)]) (vs:=[.string (s)]) rfl rfl)) (by omega)
 refine(zH β1 w hw1 _ (iH s) hsq).mono ?_
 rintro e w' ⟨rfl,hw'⟩
 refine⟨_,rfl,_,back _ _ hw',?_⟩
 refine lE bV ?_
 refine aW ?_
 refine bB ?_
 refine dS Try.results85 rfl ?_
 intro w hw
 exact⟨rfl,aF [false] rfl hw⟩
theorem oX(β:Base)(w:World)(hw:St β [] w)(xs:Bs)(v:Value)(hs:Sl bE β.heap v xs):kH Try.prog 74 #[v] β w (Ux (aP xs)):=by
 obtain⟨va,vc,rfl,vl,vm,ve⟩:=hs.get
 refine enter (n:=19) Try.func74 rfl Try.ntmps74 rfl ?_ hw
 refine cC ?_
 refine lE bV ?_
 refine eJ ?_
 refine lE bV ?_
 refine aW ?_
 refine dX ?_
 refine aC ?_
 refine lE cX ?_
 refine lE fC ?_
 refine lE bG ?_
 refine aW ?_
 refine aY ?_
 refine dV (fun(k:Nat) f L=>(f 3=Ux (gP 0 (xs.take k))∧f 6=sB va xs (vc)∧f 7=Nx (xs.length)∧f 8=Nx (k))∧L=[]∧(k≤xs.length)) (fun k=>xs.length-k) 0 ?_ ?_
 ·exact⟨⟨rfl,rfl,rfl,rfl⟩,rfl,(by omega)⟩
 rintro k f0 L0 ⟨⟨hs3,hs6,hs7,hs8⟩,hL,hk⟩
 subst L0
 refine dG 3 hs3 ?_
 refine dG 6 hs6 ?_
 refine dG 7 hs7 ?_
 refine dG 8 hs8 ?_
 refine cC ?_
 refine lE jI ?_
 refine aW ?_
 refine aO ?_
 refine cK _ rfl (fun hc1=> ?_) (fun hc1=> ?_)
 ·refine eT ?_
  refine aO ?_
  refine aY ?_
  refine cC ?_
  obtain⟨x2,hx3⟩:=kC xs k (by omega)
  obtain⟨ha4,cs5,hc6,rfl⟩:=ve _ _ hx3
  refine lE (rN bQ ha4) ?_
  refine lv (v:=Bx (x2)) (bZ gQ.ok rfl (kB hc6)) ?_
  refine lE bV ?_
  refine lnr ?_
  refine lE bG ?_
  refine lv (v:=Ux ((gP 0 (xs.take k))<<<(8:UInt64))) (aIv (a:=((gP 0 (xs.take k)).toNat:Int)) (b:=((8:Nat):Int)) rfl rfl (by decide) (aKj _ 8 (by decide))) ?_
  refine lE bG ?_
  refine lv (v:=Ux (x2.toUInt64)) (cZ (a:=((x2).toNat:Int)) rfl ⟨_,tM⟩ mN (xO _)) ?_
  refine lv (v:=Ux (((gP 0 (xs.take k))<<<(8:UInt64))|||x2.toUInt64)) (aLv (a:=(((gP 0 (xs.take k))<<<(8:UInt64)).toNat:Int)) (b:=((x2.toUInt64).toNat:Int)) rfl rfl (aLs _ _)) ?_
  refine lE bV ?_
  refine aG ?_
  refine bD ?_
  refine aQ ?_
  refine aC ?_
  refine lv (v:=Nx (k+1)) (bJ rfl rfl (bU (by omega) (by omega))) ?_
  refine lE bG ?_
  refine aG ?_
  exact bT ⟨k+1,⟨⟨(show Ux (((gP 0 (xs.take k))<<<(8:UInt64))|||x2.toUInt64)=Ux (gP 0 (xs.take (k+1))) by rw[iB hx3,uV]),rfl,rfl,rfl⟩,rfl,(by omega)⟩,(show xs.length-(k+1)<xs.length-k from by omega)⟩
 refine dZ ?_
 refine aU ?_
 refine aU ?_
 refine eA ?_
 refine qF ?_
 refine lE bG ?_
 refine lE bV ?_
 refine aW ?_
 refine bB ?_
 refine dS Try.results74 rfl ?_
 intro w hw
 rw[List.take_of_length_le (show xs.length≤k by omega)]
 exact⟨rfl,aF [] rfl hw⟩
theorem iO(β:Base)(w:World)(p0:Option Addr)(c0:Nat)(bs:Bs)(n:UInt64)(sz:Nat)(hsz:sz≤8)(hbs:bs.length≤1099511627776)(hw:St β [rB p0 bs c0] w):Calls Try.prog 57 #[sB p0 bs c0,Ux n,Nx sz] w fun r w'=>∃p c,r= .returned (sB p (bs++be sz n) c)∧St β [rB p (bs++be sz n) c] w':=by
 refine enter (n:=23) Try.func57 rfl Try.ntmps57 rfl ?_ hw
 refine cC ?_
 refine lE fR ?_
 refine aW ?_
 refine dX ?_
 refine aC ?_
 refine lE bG ?_
 refine lE omn ?_
 refine lE bV ?_
 refine aW ?_
 refine aY ?_
 refine dV (fun(x_:Nat×Bs×Option Addr×Nat) f L=>match x_ with|(r,ys,p,c)=>(f 0=sB p ys c∧f 1=Ux (n)∧f 7=Ix (((r:Nat):Int)-1))∧L=[rB p ys c]∧(r≤sz∧ys++be r n=bs++be sz n)) (fun(r,ys,p,c)=>r) (sz,bs,p0,c0) ?_ ?_
 ·exact⟨⟨rfl,rfl,rfl⟩,rfl,⟨by omega,rfl⟩⟩
 rintro⟨r,ys,p,c⟩ f0 L0 ⟨⟨hs0,hs1,hs7⟩,hL,⟨hr,he⟩⟩
 subst L0
 refine dG 0 hs0 ?_
 refine dG 1 hs1 ?_
 refine dG 7 hs7 ?_
 have hyl:=congrArg List.length he
 simp only[List.length_append,aL]at hyl
 refine dX ?_
 refine aC ?_
 refine lE bG ?_
 refine lE oge ?_
 refine aW ?_
 refine cK _ rfl (fun hc1=> ?_) (fun hc1=> ?_)
 ·refine eT ?_
  refine aO ?_
  refine aY ?_
  obtain⟨q,hq⟩:∃q,r=q+1:=⟨r-1,by omega⟩
  subst hq
  refine dG 7 (v:=Nx q) (congrArg (Value.int .i64) (by omega)) ?_
  refine aC ?_
  refine lE cX ?_
  iterate 2 refine lE bG ?_
  refine lv (v:=Nx (8*q)) (iC (a:=(8:Int)) (b:=((q:Nat):Int)) rfl rfl (bU (by omega) (by omega))) ?_
  refine lv (v:=Ux (n>>>UInt64.ofNat (8*q))) (sF (a:=((n).toNat:Int)) (b:=((8*q:Nat):Int)) rfl rfl (by omega) (oJ _ (8*q) (by omega))) ?_
  refine lv (v:=Bx ((n>>>UInt64.ofNat (8*q)).toUInt8)) (cZ (a:=((n>>>UInt64.ofNat (8*q)).toNat:Int)) rfl ⟨_,mN⟩ tM (wK _)) ?_
  refine cF rfl rfl rfl (cO bQ iG.ok (cells:= #[Bx ((n>>>UInt64.ofNat (8*q)).toUInt8)]) rfl rfl rfl rfl) ?_
  rintro _ _ ⟨b2,rfl,rfl⟩
  refine cF rfl rfl rfl (cG (enc:=fun c:UInt8=>Bx c) 1 dJ bQ fV (v:=sB p ys c) (xs:=ys) (ys:=[((n>>>UInt64.ofNat (8*q)).toUInt8)]) (ao:=some ⟨b2,0,none⟩) (c:=1) rfl rfl (by first|rfl|simp) rfl (by first|rfl|simp) (fO 0 (xs:=[((n>>>UInt64.ofNat (8*q)).toUInt8)]) rfl) (by first|omega|(simp only[List.length_append,List.length_nil,List.length_cons,aL]at*;omega)) (by first|omega|(simp only[List.length_append,List.length_nil,List.length_cons,aL]at*;omega))) ?_
  rintro _ _ ⟨rp3,rc4,rfl,rfl⟩
  refine lE fR ?_
  refine aG ?_
  refine bD ?_
  refine aQ ?_
  refine aC ?_
  refine lE bG ?_
  refine lE omn ?_
  refine lE bV ?_
  refine aG ?_
  refine dL [false,true] rfl ?_
  exact bT ⟨(q,(ys++[(n>>>UInt64.ofNat (8*q)).toUInt8]),rp3,rc4),⟨⟨rfl,rfl,(congrArg (Value.int .i64) (by omega))⟩,rfl,⟨by omega,by rw[←he];simp[be]⟩⟩,(show q<q+1 from Nat.lt_succ_self q)⟩
 refine dZ ?_
 refine aU ?_
 refine aU ?_
 refine eA ?_
 refine qF ?_
 refine lE cX ?_
 refine lE fR ?_
 refine aW ?_
 refine bB ?_
 refine dS Try.results57 rfl ?_
 intro w hw
 have hz:r=0:=by omega
 subst hz
 have he:ys=bs++be sz n:=by simpa[be]using he
 subst he
 exact⟨_,_,rfl,aF [true] rfl hw⟩
theorem mP(β:Base)(w:World)(hw:St β [] w)(n:UInt64)(sz:Nat)(hsz:sz≤8):Calls Try.prog 57 #[.slice none 0 0,Ux n,Nx sz] w fun r w'=>∃p c,r= .returned (sB p (be sz n) c)∧St β [rB p (be sz n) c] w':=by
 exact iO β w none 0 [] n sz hsz (by simp) (hw.emp (eS _ _ _))
theorem yF(β:Base)(w:World)(hw:St β [] w)(e n:Int)(xs:Bs)(v:Value)(hs:Sl bE β.heap v xs):kH Try.prog 75 #[Ix e,Ix n,v] β w (Ux (vF e n xs)):=by
 obtain⟨va,vc,rfl,vl,vm,ve⟩:=hs.get
 refine enter (n:=16) Try.func75 rfl Try.ntmps75 rfl ?_ hw
 refine cC ?_
 refine lE bV ?_
 refine eJ ?_
 refine lE cX ?_
 refine lv (v:= .string (mK xs)) (jO (a:=va) (bs:=xs) (m:=xs.length) (c:=vc) rfl (by first|rfl|simp) mM.ok tM tf7 (aX.of_base (bO.mono _ _ _) ve)) ?_
 refine gW gU (fun w β1 sb kn hw1=>aHw β1 w hw1 (mK xs) (show(xs.length:Nat)≤_ by omega)) ?_
 refine lE bG ?_
 refine lv (v:=Ux (U (n))) (cZ (a:=(n)) rfl ⟨_,oD⟩ mN (jM _)) ?_
 refine gW gU (fun w β1 sb kn hw1=>tR β1 w hw1 (sL xs) (U (n))) ?_
 refine lE bG ?_
 refine lv (v:=Ux (U (e))) (cZ (a:=(e)) rfl ⟨_,oD⟩ mN (jM _)) ?_
 refine gW gU (fun w β1 sb kn hw1=>tR β1 w hw1 (jN (sL xs) (U (n))) (U (e))) ?_
 refine lE bV ?_
 refine aW ?_
 refine bB ?_
 refine dS Try.results75 rfl ?_
 intro w hw
 exact⟨rfl,aF [] rfl hw⟩
theorem tE(β:Base)(w:World)(hw:St β [] w)(e n:Int)(xs:Bs)(v:Value)(hx:xs.length≤1048576)(hs:Sl bE β.heap v xs):Calls Try.prog 50 #[Ix e,Ix n,v] w fun r w'=>∃p c,r= .returned (sB p (aD e n xs) c)∧St β [rB p (aD e n xs) c] w':=by
 obtain⟨va,vc,rfl,vl,vm,ve⟩:=hs.get
 refine enter (n:=29) Try.func50 rfl Try.ntmps50 rfl ?_ hw
 refine cC ?_
 refine lE fR ?_
 refine eJ ?_
 refine lE cX ?_
 refine lE fC ?_
 refine lv (v:=Ux (U ((xs.length:Nat):Int))) (cZ (a:=((xs.length:Nat):Int)) rfl ⟨_,oD⟩ mN (jM _)) ?_
 refine lE bV ?_
 refine eJ ?_
 refine lE bG ?_
 refine jH (cY (vs:=[.slice none 0 0,Ux (U ((xs.length:Nat):Int)),.int .i64 (4)]) zM.ok rfl rfl) rfl fun w β1 sb kn hw1 back=>(mP β1 w hw1 (U ((xs.length:Nat):Int)) 4 (by decide)).mono ?_
 rintro e w' ⟨p1,c2,rfl,hw'⟩
 refine⟨_,rfl,_,back _ _ hw',?_⟩
 refine lE bG ?_
 refine lv (v:=Ux (~~~(U ((xs.length:Nat):Int)))) (aHb (a:=U ((xs.length:Nat):Int)) rfl) ?_
 refine bP rfl rfl rfl (cY (vs:=[sB p1 (be 4 (U ((xs.length:Nat):Int))) c2,Ux (~~~(U ((xs.length:Nat):Int))),.int .i64 (4)]) zM.ok rfl rfl) ?_
 intro w hw
 obtain⟨β1,sb,kn,hw1,back⟩:=St.frame (L:=[_]) (M:=[]) hw
 refine(iO β1 w _ _ (be 4 (U ((xs.length:Nat):Int))) (~~~(U ((xs.length:Nat):Int))) 4 (by decide) (by simp only[List.length_append,aL];omega) hw1).mono ?_
 rintro e w' ⟨p3,c4,rfl,hw'⟩
 refine⟨_,rfl,_,back _ _ hw',?_⟩
 refine lE fR ?_
 refine eJ ?_
 refine lE cX ?_
 refine lE bG ?_
 refine lv (v:=Ux (U (n))) (cZ (a:=(n)) rfl ⟨_,oD⟩ mN (jM _)) ?_
 refine bP rfl rfl rfl (cY (vs:=[sB p3 ((be 4 (U ((xs.length:Nat):Int)))++be 4 (~~~(U ((xs.length:Nat):Int)))) c4,Ux (U (n)),.int .i64 (8)]) zM.ok rfl rfl) ?_
 intro w hw
 obtain⟨β1,sb,kn,hw1,back⟩:=St.frame (L:=[_]) (M:=[]) hw
 refine(iO β1 w _ _ ((be 4 (U ((xs.length:Nat):Int)))++be 4 (~~~(U ((xs.length:Nat):Int)))) (U (n)) 8 (by decide) (by simp only[List.length_append,aL];omega) hw1).mono ?_
 rintro e w' ⟨p5,c6,rfl,hw'⟩
 refine⟨_,rfl,_,back _ _ hw',?_⟩
 refine lE cX ?_
 refine cF rfl rfl rfl (cG (enc:=fun c:UInt8=>Bx c) 0 dJ bQ fV (v:=sB p5 (((be 4 (U ((xs.length:Nat):Int)))++be 4 (~~~(U ((xs.length:Nat):Int))))++be 8 (U (n))) c6) (xs:=((be 4 (U ((xs.length:Nat):Int)))++be 4 (~~~(U ((xs.length:Nat):Int))))++be 8 (U (n))) (ys:=xs) (ao:=va) (c:=vc) rfl rfl (by first|rfl|simp) rfl (by first|rfl|simp) (aX.of_base (bO.mono _ _ _) ve) (by first|omega|(simp only[List.length_append,List.length_nil,List.length_cons,aL]at*;omega)) (by first|omega|(simp only[List.length_append,List.length_nil,List.length_cons,aL]at*;omega))) ?_
 rintro _ _ ⟨rp7,rc8,rfl,rfl⟩
 refine lE fR ?_
 refine eJ ?_
 refine lE cX ?_
 iterate 2 refine lE bG ?_
 refine lE cX ?_
 refine gW gU (fun w β1 sb kn hw1=>yF β1 w hw1 (e) (n) xs _ (Sl.mono _ _ _ _ _ sb (⟨⟨_,_,rfl,vl,vm,ve⟩⟩:Sl bE _ _ xs))) ?_
 refine bP rfl rfl rfl (cY (vs:=[sB rp7 ((((be 4 (U ((xs.length:Nat):Int)))++be 4 (~~~(U ((xs.length:Nat):Int))))++be 8 (U (n)))++xs) rc8,Ux (vF (e) (n) xs),.int .i64 (8)]) zM.ok rfl rfl) ?_
 intro w hw
 obtain⟨β1,sb,kn,hw1,back⟩:=St.frame (L:=[_]) (M:=[]) hw
 refine(iO β1 w _ _ ((((be 4 (U ((xs.length:Nat):Int)))++be 4 (~~~(U ((xs.length:Nat):Int))))++be 8 (U (n)))++xs) (vF (e) (n) xs) 8 (by decide) (by simp only[List.length_append,aL];omega) hw1).mono ?_
 rintro e w' ⟨p9,c10,rfl,hw'⟩
 refine⟨_,rfl,_,back _ _ hw',?_⟩
 refine lE fR ?_
 refine aW ?_
 refine bB ?_
 refine dS Try.results50 rfl ?_
 intro w hw
 exact⟨_,_,rfl,aF [true] rfl hw⟩
theorem lA(β:Base)(w:World)(hw:St β [] w)(xs:Bs)(v:Value)(hx:xs.length≤1048576)(hs:Sl bE β.heap v xs):Calls Try.prog 48 #[v] w fun r w'=>∃p c,r= .returned (sB p xs c)∧St β [rB p xs c] w':=by
 obtain⟨va,vc,rfl,vl,vm,ve⟩:=hs.get
 refine enter (n:=8) Try.func48 rfl Try.ntmps48 rfl ?_ hw
 refine cC ?_
 refine lE fR ?_
 refine aW ?_
 refine dX ?_
 cases va with
 |none=>
  have hxs:xs=[]:=by cases xs with|nil=>rfl|cons a l=>exact absurd (lC ve (by simp)) (by simp)
  subst hxs
  refine aC ?_
  refine lE cX ?_
  refine lv (v:= .bool true) (tV (a:=none) rfl rfl mM.ok) ?_
  refine aW ?_
  refine dU rfl ?_
  refine cC ?_
  refine lE fR ?_
  refine aW ?_
  refine bB ?_
  refine aK ?_
  refine dS Try.results48 rfl ?_
  intro w hw
  exact⟨none,0,rfl,hw.emp (eS _ _ _)⟩
 |some ad=>
  refine aC ?_
  refine lE cX ?_
  refine lv (v:= .bool false) (tV (a:=(some ad)) rfl rfl mM.ok) ?_
  refine aW ?_
  refine dI rfl ?_
  refine eT ?_
  refine cC ?_
  refine cF rfl rfl rfl (iZ bQ) ?_
  rintro _ _ ⟨b1,rfl,rfl⟩
  refine lE cX ?_
  refine iY 0 (r':=row (.slice (some ⟨b1,0,none⟩) 0 0) 5 1 0 (BX [])) rfl (fun a h=>jA (m:=0) (by decide) rfl a h) ?_
  refine cF rfl rfl rfl (cG (enc:=fun c:UInt8=>Bx c) 0 dJ bQ fV (v:= .slice (some ⟨b1,0,none⟩) 0 0) (xs:=[]) (ys:=xs) (ao:=(some ad)) (c:=vc) rfl rfl (by first|rfl|simp) rfl (by first|rfl|simp) (aX.of_base (bO.mono _ _ _) ve) (by first|omega|(simp only[List.length_append,List.length_nil,List.length_cons,aL]at*;omega)) (by first|omega|(simp only[List.length_append,List.length_nil,List.length_cons,aL]at*;omega))) ?_
  rintro _ _ ⟨rp2,rc3,rfl,rfl⟩
  refine lE fR ?_
  refine aW ?_
  refine bB ?_
  refine dS Try.results48 rfl ?_
  intro w hw
  exact⟨_,_,rfl,aF [true] rfl hw⟩
theorem rU(β:Base)(w:World)(hw:St β [] w)(e:Int)(xs:Bs)(a:Option Addr)(c:Nat)(hl:xs.length≤c)(hm:c≤9223372036854775807)(he:bO bE β.heap a xs):kH Try.prog 47 #[Ix e,sB a xs c] β w (.tuple #[Nx (eD xs),sB (nY a c xs) (aZ xs) (nD c xs),.bool (fK e xs)]):=by
 refine enter (n:=68) Try.func47 rfl Try.ntmps47 rfl ?_ hw
 refine cC ?_
 refine lE bV ?_
 refine lE fR ?_
 refine lE eE ?_
 refine aW ?_
 refine dX ?_
 refine aC ?_
 refine lE cX ?_
 refine lE fC ?_
 refine lE jI ?_
 refine aW ?_
 refine cK _ rfl (fun hc1=> ?_) (fun hc1=> ?_)
 ·refine cC ?_
  refine lE bV ?_
  refine lE fR ?_
  refine lE eE ?_
  refine aW ?_
  refine bB ?_
  refine aK ?_
  refine uH (v:= .int .i64 (0)) (v':= .slice none 0 0) (v'':= .bool false) Try.results47 rfl rfl rfl ?_
  intro w hw
  exact⟨qN (.inl hc1),aF [] rfl hw⟩
 refine eT ?_
 refine aO ?_
 refine eF (by kernel_rfl) (by kernel_rfl) ?_
 refine qE cX ?_
 obtain⟨zs2,hz3⟩:∃zs,zs=(xs.take 4):=⟨_,rfl⟩
 have zl4:zs2.length=min 4 (xs).length-0:=by rw[hz3];simp;try omega
 have ze5:=(bO.take 4 he)
 rw[←hz3]at ze5
 refine eV (v:= .slice a (zs2.length) (c)) rfl rfl rfl (fE (by rw[show zs2.length=4 by omega]) (dF (a:=a) (len:=xs.length) (cap:=c) (h:=4) bQ rfl rfl (by omega))) ?_
 refine iL (v:=Ux (aP zs2)) rfl rfl rfl (cY (vs:=[sB a zs2 (c)]) aGf.ok rfl rfl) (fun w hw=> ?_) ?_
 ·obtain⟨β1,sb,kn,hw1,back⟩:=St.frame_all hw
  exact(oX β1 w hw1 zs2 _ (Sl.mono _ _ _ _ _ sb (⟨⟨_,_,rfl,by omega,by omega,ze5⟩⟩:Sl bE _ _ zs2))).mono (fun e w' ⟨he,hw'⟩=>⟨he,aF [] rfl (back _ _ hw')⟩)
 refine qE cX ?_
 obtain⟨zs6,hz7⟩:∃zs,zs=((xs.take 8).drop 4):=⟨_,rfl⟩
 have zl8:zs6.length=min 8 (xs).length-4:=by rw[hz7];simp;try omega
 have ze9:=(bO.drop (cap:=c) 4 (by first|omega|(simp;omega)) (bO.take 8 he))
 rw[←hz7]at ze9
 refine eV (v:= .slice (gL a c 4 1) (zs6.length) ((c-4))) rfl rfl rfl (fE (by rw[show zs6.length=8-4 by omega]) (fT (a:=a) (len:=xs.length) (cap:=c) (l:=4) (h:=8) bQ rfl rfl rfl (by omega) (by omega))) ?_
 refine iL (v:=Ux (aP zs6)) rfl rfl rfl (cY (vs:=[sB (gL a c 4 1) zs6 ((c-4))]) aGf.ok rfl rfl) (fun w hw=> ?_) ?_
 ·obtain⟨β1,sb,kn,hw1,back⟩:=St.frame_all hw
  exact(oX β1 w hw1 zs6 _ (Sl.mono _ _ _ _ _ sb (⟨⟨_,_,rfl,by omega,by omega,ze9⟩⟩:Sl bE _ _ zs6))).mono (fun e w' ⟨he,hw'⟩=>⟨he,aF [] rfl (back _ _ hw')⟩)
 refine qE cX ?_
 obtain⟨zs10,hz11⟩:∃zs,zs=((xs.take 16).drop 8):=⟨_,rfl⟩
 have zl12:zs10.length=min 16 (xs).length-8:=by rw[hz11];simp;try omega
 have ze13:=(bO.drop (cap:=c) 8 (by first|omega|(simp;omega)) (bO.take 16 he))
 rw[←hz11]at ze13
 refine eV (v:= .slice (gL a c 8 1) (zs10.length) ((c-8))) rfl rfl rfl (fE (by rw[show zs10.length=16-8 by omega]) (fT (a:=a) (len:=xs.length) (cap:=c) (l:=8) (h:=16) bQ rfl rfl rfl (by omega) (by omega))) ?_
 refine iL (v:=Ux (aP zs10)) rfl rfl rfl (cY (vs:=[sB (gL a c 8 1) zs10 ((c-8))]) aGf.ok rfl rfl) (fun w hw=> ?_) ?_
 ·obtain⟨β1,sb,kn,hw1,back⟩:=St.frame_all hw
  exact(oX β1 w hw1 zs10 _ (Sl.mono _ _ _ _ _ sb (⟨⟨_,_,rfl,by omega,by omega,ze13⟩⟩:Sl bE _ _ zs10))).mono (fun e w' ⟨he,hw'⟩=>⟨he,aF [] rfl (back _ _ hw')⟩)
 iterate 3 refine qE bV ?_
 refine fW ?_
 refine zT ?_
 refine cC ?_
 iterate 2 refine lE bG ?_
 refine lv (v:=Ux ((aP zs2)^^^(aP zs6))) (sG (a:=((aP zs2).toNat:Int)) (b:=((aP zs6).toNat:Int)) rfl rfl (oK _ _)) ?_
 refine lE gO ?_
 refine lE dQ ?_
 refine cD (s:=28) rfl (fun hg14=> ?_) (fun hg14=> ?_)
 ·iterate 2 refine iU ?_
  refine lE dY ?_
  refine lE dQ ?_
  iterate 6 refine iU ?_
  refine lE dY ?_
  refine lE dQ ?_
  iterate 2 refine iU ?_
  refine lE dY ?_
  refine aW ?_
  refine dU rfl ?_
  refine cC ?_
  refine lE bV ?_
  refine lE fR ?_
  refine lE eE ?_
  refine aW ?_
  refine bB ?_
  refine aK ?_
  refine uH (v:= .int .i64 (0)) (v':= .slice none 0 0) (v'':= .bool false) Try.results47 rfl rfl rfl ?_
  intro w hw
  subst hz3
  subst hz7
  subst hz11
  exact⟨qN (.inr (.inl hg14)),aF [] rfl hw⟩
 refine gE bG ?_
 refine gE qZ ?_
 refine lE cR ?_
 refine lE dQ ?_
 refine cD (s:=32) rfl (fun hg15=> ?_) (fun hg15=> ?_)
 ·iterate 6 refine iU ?_
  refine lE dY ?_
  refine lE dQ ?_
  iterate 2 refine iU ?_
  refine lE dY ?_
  refine aW ?_
  refine dU rfl ?_
  refine cC ?_
  refine lE bV ?_
  refine lE fR ?_
  refine lE eE ?_
  refine aW ?_
  refine bB ?_
  refine aK ?_
  refine uH (v:= .int .i64 (0)) (v':= .slice none 0 0) (v'':= .bool false) Try.results47 rfl rfl rfl ?_
  intro w hw
  subst hz3
  subst hz7
  subst hz11
  exact⟨qN (.inr (.inr (.inl hg15))),aF [] rfl hw⟩
 refine gE bG ?_
 refine fN (v:=Nx ((aP zs2).toNat)) rfl rfl rfl rfl rfl (cZ (a:=((aP zs2).toNat:Int)) rfl ⟨_,mN⟩ oD (bU rfl (by omega))) ?_
 refine gE cX ?_
 refine gE fC ?_
 refine gE omn ?_
 refine gE qZ ?_
 refine lE cR ?_
 refine lE dQ ?_
 refine cD (s:=40) rfl (fun hg16=> ?_) (fun hg16=> ?_)
 ·iterate 2 refine iU ?_
  refine lE dY ?_
  refine aW ?_
  refine dU rfl ?_
  refine cC ?_
  refine lE bV ?_
  refine lE fR ?_
  refine lE eE ?_
  refine aW ?_
  refine bB ?_
  refine aK ?_
  refine uH (v:= .int .i64 (0)) (v':= .slice none 0 0) (v'':= .bool false) Try.results47 rfl rfl rfl ?_
  intro w hw
  subst hz3
  subst hz7
  subst hz11
  exact⟨qN (.inr (.inr (.inr (.inl hg16)))),aF [] rfl hw⟩
 refine gE bG ?_
 refine gE qZ ?_
 refine lE cR ?_
 refine aW ?_
 refine cK _ rfl (fun hc17=> ?_) (fun hc17=> ?_)
 ·refine cC ?_
  refine lE bV ?_
  refine lE fR ?_
  refine lE eE ?_
  refine aW ?_
  refine bB ?_
  refine aK ?_
  refine uH (v:= .int .i64 (0)) (v':= .slice none 0 0) (v'':= .bool false) Try.results47 rfl rfl rfl ?_
  intro w hw
  subst hz3
  subst hz7
  subst hz11
  exact⟨qN (.inr (.inr (.inr (.inr hc17)))),aF [] rfl hw⟩
 refine eT ?_
 refine cC ?_
 refine lE cX ?_
 refine lE bG ?_
 refine lv (v:=Nx ((aP zs2).toNat)) (cZ (a:=((aP zs2).toNat:Int)) rfl ⟨_,mN⟩ oD (bU rfl (by omega))) ?_
 refine lv (v:=Nx (16+((aP zs2).toNat))) (bJ rfl rfl (bU (by omega) (by omega))) ?_
 obtain⟨zs18,hz19⟩:∃zs,zs=((xs.take (16+((aP zs2).toNat))).drop 16):=⟨_,rfl⟩
 have zl20:zs18.length=min (16+((aP zs2).toNat)) (xs).length-16:=by rw[hz19];simp;try omega
 have ze21:=(bO.drop (cap:=c) 16 (by first|omega|(simp;omega)) (bO.take (16+((aP zs2).toNat)) he))
 rw[←hz19]at ze21
 refine lv (v:= .slice (gL a c 16 1) (zs18.length) ((c-16))) (fE (by rw[show zs18.length=(16+((aP zs2).toNat))-16 by omega]) (fT (a:=a) (len:=xs.length) (cap:=c) (l:=16) (h:=16+((aP zs2).toNat)) bQ rfl rfl rfl (by omega) (by omega))) ?_
 refine lE fR ?_
 refine eJ ?_
 refine lE cX ?_
 refine lE bG ?_
 refine lv (v:=Nx ((aP zs2).toNat)) (cZ (a:=((aP zs2).toNat:Int)) rfl ⟨_,mN⟩ oD (bU rfl (by omega))) ?_
 refine lv (v:=Nx (16+((aP zs2).toNat))) (bJ rfl rfl (bU (by omega) (by omega))) ?_
 refine lE bG ?_
 refine lv (v:=Nx ((aP zs2).toNat)) (cZ (a:=((aP zs2).toNat:Int)) rfl ⟨_,mN⟩ oD (bU rfl (by omega))) ?_
 refine lv (v:=Nx (24+((aP zs2).toNat))) (bJ rfl rfl (bU (by omega) (by omega))) ?_
 obtain⟨zs22,hz23⟩:∃zs,zs=((xs.take (24+((aP zs2).toNat))).drop (16+((aP zs2).toNat))):=⟨_,rfl⟩
 have zl24:zs22.length=min (24+((aP zs2).toNat)) (xs).length-(16+((aP zs2).toNat)):=by rw[hz23];simp;try omega
 have ze25:=(bO.drop (cap:=c) (16+((aP zs2).toNat)) (by first|omega|(simp;omega)) (bO.take (24+((aP zs2).toNat)) he))
 rw[←hz23]at ze25
 refine lv (v:= .slice (gL a c (16+((aP zs2).toNat)) 1) (zs22.length) ((c-(16+((aP zs2).toNat))))) (fE (by rw[show zs22.length=(24+((aP zs2).toNat))-(16+((aP zs2).toNat)) by omega]) (fT (a:=a) (len:=xs.length) (cap:=c) (l:=16+((aP zs2).toNat)) (h:=24+((aP zs2).toNat)) bQ rfl rfl rfl (by omega) (by omega))) ?_
 refine gW gU (fun w β1 sb kn hw1=>oX β1 w hw1 zs22 _ (Sl.mono _ _ _ _ _ sb (⟨⟨_,_,rfl,by omega,by omega,ze25⟩⟩:Sl bE _ _ zs22))) ?_
 refine lE bV ?_
 refine eJ ?_
 refine lE bG ?_
 refine lv (v:=Nx ((aP zs10).toNat)) (cZ (a:=((aP zs10).toNat:Int)) rfl ⟨_,mN⟩ oD (bU rfl (by omega))) ?_
 refine lE cX ?_
 iterate 3 refine lE bG ?_
 refine lv (v:=Nx ((aP zs10).toNat)) (cZ (a:=((aP zs10).toNat:Int)) rfl ⟨_,mN⟩ oD (bU rfl (by omega))) ?_
 refine lE cX ?_
 refine gW gU (fun w β1 sb kn hw1=>yF β1 w hw1 (e) (((aP zs10).toNat:Nat):Int) zs18 _ (Sl.mono _ _ _ _ _ sb (⟨⟨_,_,rfl,by omega,by omega,ze21⟩⟩:Sl bE _ _ zs18))) ?_
 refine lE dR ?_
 refine lE bV ?_
 refine lE fR ?_
 refine lE eE ?_
 refine aW ?_
 refine bB ?_
 refine uH (v:=Nx ((aP zs10).toNat)) (v':=sB (gL a c 16 1) zs18 ((c-16))) (v'':= .bool (decide (((aP zs22).toNat:Int)=((vF (e) (((aP zs10).toNat:Nat):Int) zs18).toNat:Int)))) Try.results47 rfl rfl rfl ?_
 intro w hw
 subst hz3
 subst hz7
 subst hz11
 subst hz19
 subst hz23
 have hok:¬jS xs:=by
  rintro(q|q|q|q|q)
  ·exact hc1 q
  ·exact hg14 q
  ·exact hg15 q
  ·exact hg16 q
  ·exact hc17 q
 exact⟨aFl hok,aF [] rfl hw⟩
theorem aGn(β:Base)(w:World)(hw:St β [] w)(k:KS)(vh va vb:Value)(hH:Sl bE β.heap vh k.head)(hA:Sl bE β.heap va k.a)(hB:Sl bE β.heap vb k.b):kH Try.prog 44 #[.agg #[vh,va,vb,Ix k.power]] β w (.bool (decide k.okP)):=by
 obtain⟨vha,vhc,rfl,vhl,vhm,vhe⟩:=hH.get
 obtain⟨vaa,vac,rfl,val,vam,vae⟩:=hA.get
 obtain⟨vba,vbc,rfl,vbl,vbm,vbe⟩:=hB.get
 refine enter (n:=30) Try.func44 rfl Try.ntmps44 rfl ?_ hw
 refine cC ?_
 refine pD fun b1=> ?_
 refine lE eE ?_
 refine eJ ?_
 refine lE bM ?_
 refine lE (fA 0) ?_
 refine lE fC ?_
 refine lE dR ?_
 refine lE dQ ?_
 refine cD (s:=7) rfl (fun hg2=> ?_) (fun hg2=> ?_)
 ·iterate 4 refine iU ?_
  refine lE dY ?_
  refine lE dQ ?_
  refine gE bM ?_
  refine gE (fA 0) ?_
  refine gE fC ?_
  refine gE ole ?_
  refine lE dY ?_
  refine lE dQ ?_
  refine cD (s:=19) rfl (fun hg3=> ?_) (fun hg3=> ?_)
  ·refine gE bM ?_
   refine gE (fA 0) ?_
   refine gE fC ?_
   refine gE ole ?_
   refine lE dY ?_
   refine lE dQ ?_
   refine cD (s:=25) rfl (fun hg4=> ?_) (fun hg4=> ?_)
   ·refine gE bM ?_
    refine gE (eU 0) ?_
    refine gE oge ?_
    refine lE dY ?_
    refine lE eE ?_
    refine aW ?_
    refine bB ?_
    refine dS Try.results44 rfl ?_
    intro w hw
    exact⟨wJ (by unfold KS.okP;omega),aF [false] rfl hw⟩
   iterate 3 refine iU ?_
   refine lE cR ?_
   refine lE eE ?_
   refine aW ?_
   refine bB ?_
   refine dS Try.results44 rfl ?_
   intro w hw
   exact⟨iD (by unfold KS.okP;omega),aF [false] rfl hw⟩
  iterate 4 refine iU ?_
  refine lE cR ?_
  refine lE dQ ?_
  iterate 3 refine iU ?_
  refine lE cR ?_
  refine lE eE ?_
  refine aW ?_
  refine bB ?_
  refine dS Try.results44 rfl ?_
  intro w hw
  exact⟨iD (by unfold KS.okP;omega),aF [false] rfl hw⟩
 refine gE bM ?_
 refine gE (fA 0) ?_
 refine gE fC ?_
 refine gE dR ?_
 refine lE cR ?_
 refine lE dQ ?_
 refine cD (s:=13) rfl (fun hg5=> ?_) (fun hg5=> ?_)
 ·refine gE bM ?_
  refine gE (fA 0) ?_
  refine gE fC ?_
  refine gE ole ?_
  refine lE dY ?_
  refine lE dQ ?_
  refine cD (s:=19) rfl (fun hg6=> ?_) (fun hg6=> ?_)
  ·refine gE bM ?_
   refine gE (fA 0) ?_
   refine gE fC ?_
   refine gE ole ?_
   refine lE dY ?_
   refine lE dQ ?_
   refine cD (s:=25) rfl (fun hg7=> ?_) (fun hg7=> ?_)
   ·refine gE bM ?_
    refine gE (eU 0) ?_
    refine gE oge ?_
    refine lE dY ?_
    refine lE eE ?_
    refine aW ?_
    refine bB ?_
    refine dS Try.results44 rfl ?_
    intro w hw
    exact⟨wJ (by unfold KS.okP;omega),aF [false] rfl hw⟩
   iterate 3 refine iU ?_
   refine lE cR ?_
   refine lE eE ?_
   refine aW ?_
   refine bB ?_
   refine dS Try.results44 rfl ?_
   intro w hw
   exact⟨iD (by unfold KS.okP;omega),aF [false] rfl hw⟩
  iterate 4 refine iU ?_
  refine lE cR ?_
  refine lE dQ ?_
  iterate 3 refine iU ?_
  refine lE cR ?_
  refine lE eE ?_
  refine aW ?_
  refine bB ?_
  refine dS Try.results44 rfl ?_
  intro w hw
  exact⟨iD (by unfold KS.okP;omega),aF [false] rfl hw⟩
 iterate 4 refine iU ?_
 refine lE cR ?_
 refine lE dQ ?_
 iterate 4 refine iU ?_
 refine lE cR ?_
 refine lE dQ ?_
 iterate 3 refine iU ?_
 refine lE cR ?_
 refine lE eE ?_
 refine aW ?_
 refine bB ?_
 refine dS Try.results44 rfl ?_
 intro w hw
 exact⟨iD (by unfold KS.okP;omega),aF [false] rfl hw⟩
theorem aEe(β:Base)(w:World)(hw:St β [] w)(xs:Bs)(v:Value)(hx:xs.length≤4294967296)(hs:Sl bE β.heap v xs):kH Try.prog 45 #[v] β w (Nx (aT xs)):=by
 obtain⟨va,vc,rfl,vl,vm,ve⟩:=hs.get
 refine enter (n:=52) Try.func45 rfl Try.ntmps45 rfl ?_ hw
 refine cC ?_
 refine lv eR ?_
 refine eJ ?_
 refine lv eR ?_
 refine aW ?_
 refine dX ?_
 refine aC ?_
 refine lv eR ?_
 refine aW ?_
 refine aY ?_
 refine dV (fun(j:Nat) f L=>(f 0=sB va xs (vc)∧f 3=Ux (bX xs j)∧f 4=Nx (j*16))∧L=[]∧(j*16≤xs.length)) (fun j=>xs.length-j*16) 0 ?_ ?_
 ·exact⟨⟨rfl,rfl,rfl⟩,rfl,(by omega)⟩
 rintro j f0 L0 ⟨⟨hs0,hs3,hs4⟩,hL,hj⟩
 subst L0
 refine dG 0 hs0 ?_
 refine dG 3 hs3 ?_
 refine dG 4 hs4 ?_
 have hlt:=kQ xs j
 refine dX ?_
 refine aC ?_
 refine lv cV ?_
 refine lv (v:=Nx ((j*16)+16)) (bJ rfl rfl (bU (by omega) (by omega))) ?_
 refine lv cV ?_
 refine lv (v:=Nx (xs.length)) (aIr rfl mM.ok) ?_
 refine lv (aIs rfl rfl) ?_
 refine aW ?_
 refine cK _ rfl (fun hc1=> ?_) (fun hc1=> ?_)
 ·refine eT ?_
  refine aO ?_
  refine aY ?_
  refine aO ?_
  refine eF (by kernel_rfl) (by kernel_rfl) ?_
  refine eV (v:=sB va xs (vc)) rfl rfl rfl cV ?_
  refine eV (v:=Nx (j*16)) rfl rfl rfl cV ?_
  refine eV (v:=Nx (j*16)) rfl rfl rfl cV ?_
  refine eV (v:=Nx ((j*16)+8)) rfl rfl rfl (bJ rfl rfl (bU (by omega) (by omega))) ?_
  obtain⟨zs2,hz3⟩:∃zs,zs=((xs.take ((j*16)+8)).drop (j*16)):=⟨_,rfl⟩
  have zl4:zs2.length=min ((j*16)+8) (xs).length-(j*16):=by rw[hz3];simp;try omega
  have ze5:=(bO.drop (cap:=vc) (j*16) (by first|omega|(simp;omega)) (bO.take ((j*16)+8) ve))
  rw[←hz3]at ze5
  refine eV (v:= .slice (gL va vc (j*16) 1) (zs2.length) ((vc-(j*16)))) rfl rfl rfl (fE (by rw[show zs2.length=((j*16)+8)-(j*16) by omega]) (fT (a:=va) (len:=xs.length) (cap:=vc) (l:=j*16) (h:=(j*16)+8) bQ rfl rfl rfl (by omega) (by omega))) ?_
  refine iL (v:=Ux (aP zs2)) rfl rfl rfl (cY (vs:=[sB (gL va vc (j*16) 1) zs2 ((vc-(j*16)))]) aGf.ok rfl rfl) (fun w hw=> ?_) ?_
  ·obtain⟨β1,sb,kn,hw1,back⟩:=St.frame_all hw
   exact(oX β1 w hw1 zs2 _ (Sl.mono _ _ _ _ _ sb (⟨⟨_,_,rfl,by omega,by omega,ze5⟩⟩:Sl bE _ _ zs2))).mono (fun e w' ⟨he,hw'⟩=>⟨he,aF [] rfl (back _ _ hw')⟩)
  refine eV (v:=sB va xs (vc)) rfl rfl rfl cV ?_
  refine eV (v:=Nx (j*16)) rfl rfl rfl cV ?_
  refine eV (v:=Nx ((j*16)+8)) rfl rfl rfl (bJ rfl rfl (bU (by omega) (by omega))) ?_
  refine eV (v:=Nx (j*16)) rfl rfl rfl cV ?_
  refine eV (v:=Nx ((j*16)+16)) rfl rfl rfl (bJ rfl rfl (bU (by omega) (by omega))) ?_
  obtain⟨zs6,hz7⟩:∃zs,zs=((xs.take ((j*16)+16)).drop ((j*16)+8)):=⟨_,rfl⟩
  have zl8:zs6.length=min ((j*16)+16) (xs).length-((j*16)+8):=by rw[hz7];simp;try omega
  have ze9:=(bO.drop (cap:=vc) ((j*16)+8) (by first|omega|(simp;omega)) (bO.take ((j*16)+16) ve))
  rw[←hz7]at ze9
  refine eV (v:= .slice (gL va vc ((j*16)+8) 1) (zs6.length) ((vc-((j*16)+8)))) rfl rfl rfl (fE (by rw[show zs6.length=((j*16)+16)-((j*16)+8) by omega]) (fT (a:=va) (len:=xs.length) (cap:=vc) (l:=(j*16)+8) (h:=(j*16)+16) bQ rfl rfl rfl (by omega) (by omega))) ?_
  refine iL (v:=Ux (aP zs6)) rfl rfl rfl (cY (vs:=[sB (gL va vc ((j*16)+8) 1) zs6 ((vc-((j*16)+8)))]) aGf.ok rfl rfl) (fun w hw=> ?_) ?_
  ·obtain⟨β1,sb,kn,hw1,back⟩:=St.frame_all hw
   exact(oX β1 w hw1 zs6 _ (Sl.mono _ _ _ _ _ sb (⟨⟨_,_,rfl,by omega,by omega,ze9⟩⟩:Sl bE _ _ zs6))).mono (fun e w' ⟨he,hw'⟩=>⟨he,aF [] rfl (back _ _ hw')⟩)
  refine eV (v:=Ux (aP zs2)) rfl rfl rfl eR ?_
  refine eV (v:=Ux (aP zs6)) rfl rfl rfl eR ?_
  refine fW ?_
  refine qF ?_
  refine lv cV ?_
  refine lv cV ?_
  refine lv (aIq rfl rfl) ?_
  refine lv cV ?_
  refine cD (s:=30) rfl (fun hg10=> ?_) (fun hg10=> ?_)
  ·refine fN (v:=Ux (aP zs2)) rfl rfl rfl rfl rfl cV ?_
   refine fN rfl rfl rfl rfl rfl (aAv rfl rfl) ?_
   refine lv (v:= .bool (decide (((aP zs2).toNat:Int)<(4611686018427387904:Int)))) (pY rfl) ?_
   refine lv cV ?_
   refine cD (s:=34) rfl (fun hg11=> ?_) (fun hg11=> ?_)
   ·refine fN (v:=Ux (aP zs2)) rfl rfl rfl rfl rfl cV ?_
    refine fN (v:=Ux ((aP zs2)%(2:UInt64))) rfl rfl rfl rfl rfl (gJ (a:=((aP zs2).toNat:Int)) (b:=((2:UInt64).toNat:Int)) rfl rfl (by decide) (uU _ _)) ?_
    refine fN (v:=Nx (j*16)) rfl rfl rfl rfl rfl cV ?_
    refine fN (v:=Nx ((j*16)/16)) rfl rfl rfl rfl rfl (aEb (a:=((j*16:Nat):Int)) (b:=(16:Int)) rfl rfl (by decide) (bU (yR _ 16) (by omega))) ?_
    refine fN (v:=Ux (U (((j*16)/16:Nat):Int))) rfl rfl rfl rfl rfl (cZ (a:=(((j*16)/16:Nat):Int)) rfl ⟨_,oD⟩ mN (jM _)) ?_
    refine fN rfl rfl rfl rfl rfl (sD rfl rfl) ?_
    refine lv (v:= .bool (decide ((((aP zs2)%(2:UInt64)).toNat:Int)=((U (((j*16)/16:Nat):Int)).toNat:Int)))) (pY rfl) ?_
    refine lv cV ?_
    refine cD (s:=42) rfl (fun hg12=> ?_) (fun hg12=> ?_)
    ·refine fN (v:=Ux (aP zs6)) rfl rfl rfl rfl rfl cV ?_
     refine fN (v:=Ux (aP zs2)) rfl rfl rfl rfl rfl cV ?_
     refine fN (v:=Nx ((aP zs2).toNat)) rfl rfl rfl rfl rfl (cZ (a:=((aP zs2).toNat:Int)) rfl ⟨_,mN⟩ oD (bU rfl (by omega))) ?_
     refine eQ rfl rfl rfl rfl rfl (cY (vs:=[Nx ((aP zs2).toNat)]) aMc.ok rfl rfl) ?_
     intro w hw
     obtain⟨β1,sb,kn,hw1,back⟩:=St.frame_all hw
     refine(xN β1 w hw1 (((aP zs2).toNat:Nat):Int)).mono ?_
     rintro e w' ⟨rfl,hw'⟩
     refine⟨_,rfl,_,back _ _ hw',?_⟩
     refine fN rfl rfl rfl rfl rfl (sD rfl rfl) ?_
     refine lv (v:= .bool (decide (((aP zs6).toNat:Int)=((bF (((aP zs2).toNat:Nat):Int)).toNat:Int)))) (pY rfl) ?_
     refine aW ?_
     refine cK _ rfl (fun hc13=> ?_) (fun hc13=> ?_)
     ·refine aC ?_
      refine lv cV ?_
      refine lv eR ?_
      refine aG ?_
      refine bD ?_
      refine aQ ?_
      refine aC ?_
      refine lv cV ?_
      refine lv (v:=Nx ((j*16)+16)) (bJ rfl rfl (bU (by omega) (by omega))) ?_
      refine lv eR ?_
      refine aG ?_
      exact bT ⟨j+1,⟨⟨rfl,(show Ux (aP zs2)=Ux (bX xs (j+1)) by subst hz3;subst hz7;exact congrArg (fun x:UInt64=>Ux x) (aEd (by omega) (by omega) hg12 hc13).symm),(congrArg (fun z:Nat=>Nx z) (by omega))⟩,rfl,(by omega)⟩,(show xs.length-(j+1)*16<xs.length-j*16 from by omega)⟩
     refine cM ?_
     refine bD ?_
     refine aQ ?_
     refine aC ?_
     refine lv cV ?_
     refine lv (v:=Nx ((j*16)+16)) (bJ rfl rfl (bU (by omega) (by omega))) ?_
     refine lv eR ?_
     refine aG ?_
     exact bT ⟨j+1,⟨⟨rfl,(show Ux (bX xs j)=Ux (bX xs (j+1)) by subst hz3;subst hz7;exact congrArg (fun x:UInt64=>Ux x) (aJx hc13).symm),(congrArg (fun z:Nat=>Nx z) (by omega))⟩,rfl,(by omega)⟩,(show xs.length-(j+1)*16<xs.length-j*16 from by omega)⟩
    refine eB rfl rfl rfl rfl rfl rfl ?_
    refine eB rfl rfl rfl rfl rfl rfl ?_
    refine eB rfl rfl rfl rfl rfl rfl ?_
    refine eB rfl rfl rfl rfl rfl rfl ?_
    refine eB rfl rfl rfl rfl rfl rfl ?_
    refine lv (v:= .bool false) (jZ rfl) ?_
    refine aW ?_
    refine dI rfl ?_
    refine cM ?_
    refine bD ?_
    refine aQ ?_
    refine aC ?_
    refine lv cV ?_
    refine lv (v:=Nx ((j*16)+16)) (bJ rfl rfl (bU (by omega) (by omega))) ?_
    refine lv eR ?_
    refine aG ?_
    exact bT ⟨j+1,⟨⟨rfl,(show Ux (bX xs j)=Ux (bX xs (j+1)) by subst hz3;subst hz7;exact congrArg (fun x:UInt64=>Ux x) (aJw hg12).symm),(congrArg (fun z:Nat=>Nx z) (by omega))⟩,rfl,(by omega)⟩,(show xs.length-(j+1)*16<xs.length-j*16 from by omega)⟩
   refine eB rfl rfl rfl rfl rfl rfl ?_
   refine eB rfl rfl rfl rfl rfl rfl ?_
   refine eB rfl rfl rfl rfl rfl rfl ?_
   refine eB rfl rfl rfl rfl rfl rfl ?_
   refine eB rfl rfl rfl rfl rfl rfl ?_
   refine eB rfl rfl rfl rfl rfl rfl ?_
   refine lv (v:= .bool false) (jZ rfl) ?_
   refine lv cV ?_
   refine eB rfl rfl rfl rfl rfl rfl ?_
   refine eB rfl rfl rfl rfl rfl rfl ?_
   refine eB rfl rfl rfl rfl rfl rfl ?_
   refine eB rfl rfl rfl rfl rfl rfl ?_
   refine eB rfl rfl rfl rfl rfl rfl ?_
   refine lv (v:= .bool false) (jZ rfl) ?_
   refine aW ?_
   refine dI rfl ?_
   refine cM ?_
   refine bD ?_
   refine aQ ?_
   refine aC ?_
   refine lv cV ?_
   refine lv (v:=Nx ((j*16)+16)) (bJ rfl rfl (bU (by omega) (by omega))) ?_
   refine lv eR ?_
   refine aG ?_
   exact bT ⟨j+1,⟨⟨rfl,(show Ux (bX xs j)=Ux (bX xs (j+1)) by subst hz3;subst hz7;exact congrArg (fun x:UInt64=>Ux x) (aJv hg11).symm),(congrArg (fun z:Nat=>Nx z) (by omega))⟩,rfl,(by omega)⟩,(show xs.length-(j+1)*16<xs.length-j*16 from by omega)⟩
  refine eB rfl rfl rfl rfl rfl rfl ?_
  refine eB rfl rfl rfl rfl rfl rfl ?_
  refine lv (v:= .bool false) (jZ rfl) ?_
  refine lv cV ?_
  refine eB rfl rfl rfl rfl rfl rfl ?_
  refine eB rfl rfl rfl rfl rfl rfl ?_
  refine eB rfl rfl rfl rfl rfl rfl ?_
  refine eB rfl rfl rfl rfl rfl rfl ?_
  refine eB rfl rfl rfl rfl rfl rfl ?_
  refine eB rfl rfl rfl rfl rfl rfl ?_
  refine lv (v:= .bool false) (jZ rfl) ?_
  refine lv cV ?_
  refine eB rfl rfl rfl rfl rfl rfl ?_
  refine eB rfl rfl rfl rfl rfl rfl ?_
  refine eB rfl rfl rfl rfl rfl rfl ?_
  refine eB rfl rfl rfl rfl rfl rfl ?_
  refine eB rfl rfl rfl rfl rfl rfl ?_
  refine lv (v:= .bool false) (jZ rfl) ?_
  refine aW ?_
  refine dI rfl ?_
  refine cM ?_
  refine bD ?_
  refine aQ ?_
  refine aC ?_
  refine lv cV ?_
  refine lv (v:=Nx ((j*16)+16)) (bJ rfl rfl (bU (by omega) (by omega))) ?_
  refine lv eR ?_
  refine aG ?_
  exact bT ⟨j+1,⟨⟨rfl,(show Ux (bX xs j)=Ux (bX xs (j+1)) by subst hz3;subst hz7;exact congrArg (fun x:UInt64=>Ux x) (aJu hg10).symm),(congrArg (fun z:Nat=>Nx z) (by omega))⟩,rfl,(by omega)⟩,(show xs.length-(j+1)*16<xs.length-j*16 from by omega)⟩
 refine dZ ?_
 refine aU ?_
 refine aU ?_
 refine eA ?_
 refine zT ?_
 have hlt:=kQ xs j
 refine aC ?_
 refine lv cV ?_
 refine lv (v:=Nx ((bX xs j).toNat)) (cZ (a:=((bX xs j).toNat:Int)) rfl ⟨_,mN⟩ oD (bU rfl (by omega))) ?_
 refine lv eR ?_
 refine aW ?_
 refine bB ?_
 refine dS Try.results45 rfl ?_
 intro w hw
 rw[show j=xs.length/16 by omega]
 exact⟨rfl,aF [] rfl hw⟩
theorem jY(β:Base)(w:World)(hw:St β [] w)(S:Nat):kH Try.prog 46 #[pp S 0] β w (.agg #[pp S 1,pp S 2]):=by
 refine enter (n:=10) Try.func46 rfl Try.ntmps46 rfl ?_ hw
 refine cC ?_
 refine fZ fun b1=> ?_
 refine aW ?_
 refine aO ?_
 refine rF [sv 3 (pp S 0) [] [] [0],sv 4 (pp S 0) [0] [0] [],sv 5 (pp S 1) [0,1] [1] [],sv 6 (pp S 0) [] [] [0],sv 7 (pp S 0) [3] [3] [],sv 8 (pp S 2) [3,4] [4] [],sv 9 (.agg #[pp S 1,pp S 2]) (List.range 6) [2,5] [],⟨(List.range 7),[6],[1],[],fun _=>True⟩] [(some 7,[7])] [⟨(some 7),none,[],[],fun _=>pt b1 (.cells #[pp S 1,pp S 2] 90)⟩] [(0,pp S 0),(2,pp b1 0)] [1] ⟨rfl,rfl,trivial⟩ ⟨?_,?_,?_,?_,?_,?_,?_,?_,trivial⟩ ?_
 ·rintro f M-⟨i0,-⟩
  exact bK eP
 ·rintro f M ⟨k0,-⟩-
  exact bK eY
 ·rintro f M ⟨k0,-⟩-
  exact bK bM
 ·rintro f M-⟨i0,-⟩
  exact bK eP
 ·rintro f M ⟨k0,-⟩-
  exact bK eY
 ·rintro f M ⟨k0,-⟩-
  exact bK bM
 ·rintro f M ⟨k0,k1,-⟩-
  exact nA (aA (d:=8) (aA (d:=5) rfl k0) k1) rfl (aCd aMd.ok xM.ok (vs:=[(0,pp S 1),(1,pp S 2)]) (cells:= #[pp S 1,pp S 2]) rfl rfl) (.refl _)
 ·rintro f M ⟨k0,-⟩ ⟨i0,-⟩
  refine fF (aA (d:=9) (aA (d:=2) rfl i0) k0) ?_
  refine lu (mS 0 (#[pp S 1,pp S 2])) ?_
  refine aG ?_
  exact cT (aA (d:=9) (aA (d:=2) rfl i0) k0) trivial (aB 0 rfl)
 rintro fa2 ⟨-,-,-,-,-,-,-,-,-⟩ ⟨j0,-⟩
 refine rL ?_
 refine aJ (d:=2) j0 ?_
 refine ftr ?_
 refine fH (m:=[.agg #[pp S 1,pp S 2]]) Try.results46 ⟨bY aMe.ok rfl (dM 0 rfl rfl) rfl,trivial⟩ rfl ?_
 intro w hw
 exact⟨rfl,aF [false] rfl hw⟩
end Go.Proofs
