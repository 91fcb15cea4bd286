/-
 The journal's small functions,walked. Printed by a program of my own.
-/
import Derived.Test.YtjejfkajcbdgjaaGreatJnDef
import Derived.Test.YtjejfkajcbdgjaaGreatProg
set_option linter.all false
set_option maxHeartbeats 4000000
namespace Go.Proofs
open Go Go.Sl Go.Jn
theorem vF{e:Int}{xs:Bs}{a:Option Addr}{c:Nat}(h:mK xs):Ending.returned (.tuple #[.int .i64 0,.slice none 0 0,.bool false])= .returned (.tuple #[Nx (iE xs),sB (rR a c xs) (bP xs) (rE c xs),.bool (kD e xs)]):=by
 unfold iE rR bP rE kD
 simp[h]
theorem aTd{e:Int}{xs:Bs}{a:Option Addr}{c:Nat}(h:¬mK xs):
  Ending.returned (.tuple #[Nx (rno xs).toNat,sB (sD a c 16 1) (rpl xs) (c-16),.bool (decide (((aYa xs).toNat:Int)=((aDf e ((rno xs).toNat:Int) (rpl xs)).toNat:Int)))])=
  .returned (.tuple #[Nx (iE xs),sB (rR a c xs) (bP xs) (rE c xs),.bool (kD e xs)]):=by
 unfold iE rR bP rE kD
 simp only[sB,rB,if_neg h]
 rw[bHs]
theorem aPq{p q:Prop}[Decidable p][Decidable q](h:p↔q):Ending.returned (.bool (decide p))= .returned (.bool (decide q)):=by rw[decide_eq_decide.2 h]
instance tf0:CfC Tryz.prog 138:={}
theorem tf1:Tryz.prog.underlying 3=some (.int .i64):=by kernel_rfl
theorem tf2:Tryz.prog.underlying 172=some (.int .u64):=by kernel_rfl
instance tf3:CfC Tryz.prog 119:={}
instance tf4:ZerC Tryz.prog 172 (.int .u64 (0)):={}
instance tf5:TyC Tryz.prog 172 false 1:={}
instance tf6:TyC Tryz.prog 9 false 1:={}
theorem tf7:Tryz.prog.underlying 9=some .string:=by kernel_rfl
theorem tf8:Tryz.prog.underlying 5=some (.int .u8):=by kernel_rfl
instance tf9:CfC Tryz.prog 142:={}
instance bIl:CfC Tryz.prog 141:={}
instance aYh:UndC Tryz.prog 27 5:={}
theorem kE:lY Tryz.prog 27 5 1=true:=by kernel_rfl
instance aJf:TyC Tryz.prog 5 false 1:={}
instance aOm:ZerC Tryz.prog 5 (.int .u8 (0)):={}
theorem aHc:vR Tryz.prog 5 1 1=true:=by kernel_rfl
instance tf16:CfC Tryz.prog 125:={}
instance aHd:CfC Tryz.prog 92:={}
instance tf18:CfC Tryz.prog 104:={}
instance aUb:CfC Tryz.prog 114:={}
instance tf20:FldC Tryz.prog 29 0 0 1 false:={}
instance tf21:TyC Tryz.prog 27 false 1:={}
instance tf22:FldC Tryz.prog 29 1 1 1 false:={}
instance tf23:FldC Tryz.prog 29 2 2 1 false:={}
instance tf24:FldC Tryz.prog 29 3 3 1 false:={}
instance tf25:TyC Tryz.prog 3 false 1:={}
instance bIm:CfC Tryz.prog 93:={}
instance bIn:ZerC Tryz.prog 148 (.agg #[.pointer none,.pointer none]):={}
instance aEm:ArrC Tryz.prog 148 2 147 1:={}
instance bIo:TyC Tryz.prog 148 true 2:={}
theorem aSa(β:Base)(w:World)(hw:St β [] w)(x:UInt64):oP Tryz.prog 138 #[Ux x] β w (Ux (aXb x)):=by
 refine enter (n:=17) Tryz.func138 rfl Tryz.ntmps138 rfl ?_ hw
 refine bD (lE bN (eY (lE aU (lE aU ?_))))
 refine lv (v:=Ux (x>>>(30:UInt64))) (wV (a:=((x).toNat:Int)) (b:=((30:Nat):Int)) rfl rfl (by decide) (tY _ 30 (by decide))) ?_
 refine lv (v:=Ux (x^^^(x>>>(30:UInt64)))) (aKe (a:=((x).toNat:Int)) (b:=((x>>>(30:UInt64)).toNat:Int)) rfl rfl (aAi _ _)) ?_
 refine lv (v:=Ux ((x^^^(x>>>(30:UInt64)))*(13787848793156543929:UInt64))) (tC (a:=((x^^^(x>>>(30:UInt64))).toNat:Int)) (b:=((13787848793156543929:UInt64).toNat:Int)) rfl rfl (aEs _ _)) ?_
 refine lE bN (eY (lE aU (lE aU ?_)))
 refine lv (v:=Ux (((x^^^(x>>>(30:UInt64)))*(13787848793156543929:UInt64))>>>(27:UInt64))) (wV (a:=(((x^^^(x>>>(30:UInt64)))*(13787848793156543929:UInt64)).toNat:Int)) (b:=((27:Nat):Int)) rfl rfl (by decide) (tY _ 27 (by decide))) ?_
 refine lv (v:=Ux (((x^^^(x>>>(30:UInt64)))*(13787848793156543929:UInt64))^^^(((x^^^(x>>>(30:UInt64)))*(13787848793156543929:UInt64))>>>(27:UInt64)))) (aKe (a:=(((x^^^(x>>>(30:UInt64)))*(13787848793156543929:UInt64)).toNat:Int)) (b:=((((x^^^(x>>>(30:UInt64)))*(13787848793156543929:UInt64))>>>(27:UInt64)).toNat:Int)) rfl rfl (aAi _ _)) ?_
 refine lv (v:=Ux ((((x^^^(x>>>(30:UInt64)))*(13787848793156543929:UInt64))^^^(((x^^^(x>>>(30:UInt64)))*(13787848793156543929:UInt64))>>>(27:UInt64)))*(10723151780598845931:UInt64))) (tC (a:=((((x^^^(x>>>(30:UInt64)))*(13787848793156543929:UInt64))^^^(((x^^^(x>>>(30:UInt64)))*(13787848793156543929:UInt64))>>>(27:UInt64))).toNat:Int)) (b:=((10723151780598845931:UInt64).toNat:Int)) rfl rfl (aEs _ _)) ?_
 refine lE bN (eY (lE aU (lE aU ?_)))
 refine lv (v:=Ux (((((x^^^(x>>>(30:UInt64)))*(13787848793156543929:UInt64))^^^(((x^^^(x>>>(30:UInt64)))*(13787848793156543929:UInt64))>>>(27:UInt64)))*(10723151780598845931:UInt64))>>>(31:UInt64))) (wV (a:=(((((x^^^(x>>>(30:UInt64)))*(13787848793156543929:UInt64))^^^(((x^^^(x>>>(30:UInt64)))*(13787848793156543929:UInt64))>>>(27:UInt64)))*(10723151780598845931:UInt64)).toNat:Int)) (b:=((31:Nat):Int)) rfl rfl (by decide) (tY _ 31 (by decide))) ?_
 refine lv (v:=Ux (((((x^^^(x>>>(30:UInt64)))*(13787848793156543929:UInt64))^^^(((x^^^(x>>>(30:UInt64)))*(13787848793156543929:UInt64))>>>(27:UInt64)))*(10723151780598845931:UInt64))^^^(((((x^^^(x>>>(30:UInt64)))*(13787848793156543929:UInt64))^^^(((x^^^(x>>>(30:UInt64)))*(13787848793156543929:UInt64))>>>(27:UInt64)))*(10723151780598845931:UInt64))>>>(31:UInt64)))) (aKe (a:=(((((x^^^(x>>>(30:UInt64)))*(13787848793156543929:UInt64))^^^(((x^^^(x>>>(30:UInt64)))*(13787848793156543929:UInt64))>>>(27:UInt64)))*(10723151780598845931:UInt64)).toNat:Int)) (b:=((((((x^^^(x>>>(30:UInt64)))*(13787848793156543929:UInt64))^^^(((x^^^(x>>>(30:UInt64)))*(13787848793156543929:UInt64))>>>(27:UInt64)))*(10723151780598845931:UInt64))>>>(31:UInt64)).toNat:Int)) rfl rfl (aAi _ _)) ?_
 refine lE bN (aN (aV (dJ Tryz.results138 rfl ?_)))
 intro w hw
 exact⟨rfl,aG [] rfl hw⟩
theorem yM(β:Base)(w:World)(hw:St β [] w)(x y:UInt64):oP Tryz.prog 119 #[Ux x,Ux y] β w (Ux (yL x y)):=by
 refine enter (n:=11) Tryz.func119 rfl Tryz.ntmps119 rfl ?_ hw
 refine bD (lE bN (eY (lE aU ?_)))
 refine lv (v:=Ux (x*(11400714819323198485:UInt64))) (tC (a:=((x).toNat:Int)) (b:=((11400714819323198485:UInt64).toNat:Int)) rfl rfl (aEs _ _)) ?_
 refine lE aU (lv (v:=Ux ((x*(11400714819323198485:UInt64))+y)) (bO rfl rfl (aEr _ _)) ?_)
 refine lv (v:=Ux (((x*(11400714819323198485:UInt64))+y)+(1:UInt64))) (bO rfl rfl (aEr _ _)) ?_
 refine gI gH (fun w β1 sb kn hw1=>aSa β1 w hw1 (((x*(11400714819323198485:UInt64))+y)+(1:UInt64))) (lE bN (aN (aV ?_)))
 refine dJ Tryz.results119 rfl ?_
 intro w hw
 exact⟨rfl,aG [] rfl hw⟩
theorem aEn(β:Base)(w:World)(hw:St β [] w)(t:Int):oP Tryz.prog 93 #[Ix t] β w (Ux (eV t)):=by
 refine enter (n:=6) Tryz.func93 rfl Tryz.ntmps93 rfl ?_ hw
 refine bD (lE bN (eY (lE aU (lv (v:=Ux (U (t))) (gC (a:=(t)) rfl ⟨_,tf1⟩ tf2 (tG _)) ?_))))
 refine gI gH (fun w β1 sb kn hw1=>yM β1 w hw1 (0:UInt64) (U (t))) (lE bN (aN (aV (dJ Tryz.results93 rfl ?_))))
 intro w hw
 exact⟨rfl,aG [] rfl hw⟩
theorem aHa(β:Base)(w:World)(hw:St β [] w)(v:Value)(xs:List UInt64)(hs:wT Tryz.prog β v (fun x=>[Ux x]) (· =xs)):oP Tryz.prog 141 #[v] β w (Ux (bCr xs)):=by
 refine aQp (n:=14) Tryz.func141 rfl Tryz.ntmps141 rfl ?_ hw
 refine bD (lE bN (eY (gB fun b1=>lu (mS 0 (#[.int .u64 (0)])) (aN (eR (aC (lv cI (aN (aJ ?_)))))))))
 refine aVm (α:=UInt64) (enc:=fun x=>[Ux x]) (S:=(· =xs)) (ps:=[6]) (I:=fun(pre:List (UInt64)) (L:List bU)=>L=[pt b1 (.cells #[Ux (xL 0 pre)] 172)]∧(True)) (X:=fun _ _ _=>False) rfl (hs) (fun _=>rfl) rfl ⟨rfl,trivial⟩ ?_ ?_ ?_
 ·rintro l β1 pre x M ext hpre ⟨rfl,-⟩
  refine aC (lE bN (aH (bG (fun β2 ext2=> ?_))))
  refine aJ (aC (lE (cY 0) ?_))
  refine lv (v:=Ux ((xL 0 pre)*(11400714819323198485:UInt64))) (tC (a:=((xL 0 pre).toNat:Int)) (b:=((11400714819323198485:UInt64).toNat:Int)) rfl rfl (aEs _ _)) ?_
  refine lE aU (lv (v:=Ux (((xL 0 pre)*(11400714819323198485:UInt64))+x)) (bO rfl rfl (aEr _ _)) ?_)
  refine lv (v:=Ux ((((xL 0 pre)*(11400714819323198485:UInt64))+x)+(1:UInt64))) (bO rfl rfl (aEr _ _)) ?_
  refine lu (mS 0 (#[Ux ((((xL 0 pre)*(11400714819323198485:UInt64))+x)+(1:UInt64))])) (aH (aP ?_))
  exact fun a w ha hw=>⟨_,⟨(by rw[aOb];rfl),trivial⟩,hw⟩
 ·rintro D ys M hS ⟨rfl,-⟩
  subst hS
  refine aP (kM (lE (cY 0) (gI gH (fun w β1 sb kn hw1=>aSa β1 w hw1 (xL 0 ys)) (lE bN (aN (aV ?_))))))
  refine bFg 1 rfl Tryz.results141 (v:=Ux (aXb (xL 0 ys))) rfl ?_
  intro w hw
  exact⟨rfl,aG [false,false] rfl hw⟩
 intro D c pre M h;exact h.elim
theorem aPs(β:Base)(w:World)(hw:St β [] w)(s:ByteArray):Calls Tryz.prog 142 #[.string s] w fun e w'=>∃b,e= .returned (.func (.func 151) #[] #[pp b 0])∧St β [pt b (.cells #[.string s] 9)] w':=by
 refine enter (n:=4) Tryz.func142 rfl Tryz.ntmps142 rfl ?_ hw
 refine bD (dA rfl rfl rfl (zE (v:= .string (s)) rfl) ?_)
 rintro _ _ ⟨b1,rfl,rfl⟩
 refine lv eC (eY (lv (v:= .func (.func 151) #[] #[pp b1 0]) (mW (u:=[]) (v:=[pp b1 0]) rfl rfl) (lE oaf (aN (aV ?_)))))
 refine dJ Tryz.results142 rfl ?_
 intro w hw
 exact⟨_,rfl,hw⟩
theorem aMk(β:Base)(b:Nat)(s:ByteArray)(hb:Cs β.heap ⟨b,0,none⟩ [.string s])(hs:s.size≤9223372036854775807):wT Tryz.prog β (.func (.func 151) #[] #[pp b 0]) (fun x:UInt64=>[Ux x]) (· =qT s):=by
 refine⟨151,[],[pp b 0],rfl,by kernel_rfl,fun β₁ ext l J X hY M w hJ hw=> ?_⟩
 have hb1:=Cs.mono _ _ _ _ ext.sub hb
 refine enter (n:=17) Tryz.func151 rfl Tryz.ntmps151 rfl ?_ hw
 refine bD (lv (v:= .string (s)) (bI tf6.ok rfl (kB hb1)) (lv (v:=Nx ((s).size)) (aVy (s:=s) rfl tf7) (lE aU (aN (aJ ?_)))))
 refine cZ (fun(x_:Nat×List bU) f L=>match x_ with|(k,M)=>(f 0=yfn l∧f 1= .pointer (some (⟨b,0,none⟩))∧f 5=Nx ((s).size)∧f 6=Nx (k))∧L=(M)∧(k≤s.size∧J ((qT s).take (k)) M)) (fun(k,M)=>s.size-k) (0,M) ?_ ?_
 ·exact⟨⟨rfl,rfl,rfl,rfl⟩,rfl,⟨by omega,by simpa using hJ⟩⟩
 rintro⟨k,M⟩ f0 L0 ⟨⟨hs0,hs1,hs5,hs6⟩,hL,⟨hk,hJ⟩⟩
 subst L0
 refine bJ 0 hs0 (bJ 1 hs1 (bJ 5 hs5 (bJ 6 hs6 (bD (lE gN (aN (aL (cN _ rfl (fun hc1=> ?_) (fun hc1=> ?_)))))))))
 ·refine eB (aL (aJ (bD (lE aU (lE bN (eY (lv cI (lv (v:= .string (s)) (bI tf6.ok rfl (kB hb1)) (lE aU ?_)))))))))
  obtain⟨c2,hc3⟩:∃c,(s).data.toList[k]? =some c:=⟨_,List.getElem?_eq_getElem (by simp;omega)⟩
  refine lv (v:=Bx (c2)) (aMy (s:=s) (k:=k) (c:=c2) rfl rfl tf7 hc3) ?_
  refine lv (v:=Ux (c2.toUInt64)) (gC (a:=((c2).toNat:Int)) rfl ⟨_,tf8⟩ tf2 (aJj _)) ?_
  refine xW (own:=[]) (M:=M) (d:=14) (enc:=fun x=>[Ux x]) (pre:=(qT s).take k) (x:=c2.toUInt64) rfl rfl rfl rfl hY (⟨_,rfl,take_prefix (by simp[qT,hc3])⟩) hJ (fun M1 hJ1=> ?_) (fun M1 hX1=> ?_)
  ·refine lE mB (aN (cR rfl (cG (aP (bA (aC (lv (v:=Nx (k+1)) (bO rfl rfl (cW (by omega) (by omega))) (lE aU (aH ?_)))))))))
   exact bG ⟨(k+1,M1),⟨⟨rfl,rfl,rfl,rfl⟩,rfl,⟨by omega,by rw[iY (a:=c2.toUInt64) (by simp[qT,hc3])];exact hJ1⟩⟩,(show s.size-(k+1)<s.size-k from by omega)⟩
  refine lE mB (aN (dN rfl (aV (aR (aI (aI (aR (aXv Tryz.results151 ?_))))))))
  intro w hw
  exact⟨⟨_,rfl⟩,.inr ⟨_,M1,hX1,aG [] rfl hw⟩⟩
 refine cK (aF (aF (cL (mZ Tryz.results151 ?_))))
 intro w hw
 exact⟨⟨_,rfl⟩,.inl ⟨_,M,rfl,(by rw[List.take_of_length_le (by simp[qT];omega)]at hJ;exact hJ),aG [] rfl hw⟩⟩
theorem aXf(β:Base)(w:World)(hw:St β [] w)(s:ByteArray)(hs:s.size≤9223372036854775807):oP Tryz.prog 125 #[.string s] β w (Ux (bCr (qT s))):=by
 refine enter (n:=6) Tryz.func125 rfl Tryz.ntmps125 rfl ?_ hw
 refine bD (lE bN (eY (lv cI (pV (cT (vs:=[.string (s)]) tf9.ok rfl rfl) rfl fun w β1 sb kn hw1 back=>(aPs β1 w hw1 s).mono ?_))))
 rintro e w' ⟨b1,rfl,hw'⟩
 refine⟨_,rfl,_,back _ _ hw',?_⟩
 refine aX rfl rfl rfl (cT (vs:=[.func (.func 151) #[] #[pp b1 0]]) bIl.ok rfl rfl) ?_
 intro w hw
 obtain⟨β1,sb,kn,hw1,back⟩:=St.frame_all hw
 have hsq:=aMk β1 b1 s (kn _ (cD 0 (cs:= #[.string (s)]) (vs:=[.string (s)]) rfl rfl)) (by omega)
 refine(aHa β1 w hw1 _ (qT s) hsq).mono ?_
 rintro e w' ⟨rfl,hw'⟩
 refine⟨_,rfl,_,back _ _ hw',?_⟩
 refine lE bN (aN (aV (dJ Tryz.results125 rfl ?_)))
 intro w hw
 exact⟨rfl,aG [false] rfl hw⟩
theorem sQ(β:Base)(w:World)(hw:St β [] w)(xs:Bs)(v:Value)(hs:Sl iT β.heap v xs):oP Tryz.prog 114 #[v] β w (Ux (bW xs)):=by
 obtain⟨va,vc,rfl,vl,vm,ve⟩:=hs.get
 refine enter (n:=19) Tryz.func114 rfl Tryz.ntmps114 rfl ?_ hw
 refine bD (lE bN (eY (lE bN (aN (eR (aC (lE fL (lE gY (lE aU (aN (aJ ?_)))))))))))
 refine cZ (fun(k:Nat) f L=>(f 3=Ux (oG 0 (xs.take k))∧f 6=sB va xs (vc)∧f 7=Nx (xs.length)∧f 8=Nx (k))∧L=[]∧(k≤xs.length)) (fun k=>xs.length-k) 0 ?_ ?_
 ·exact⟨⟨rfl,rfl,rfl,rfl⟩,rfl,(by omega)⟩
 rintro k f0 L0 ⟨⟨hs3,hs6,hs7,hs8⟩,hL,hk⟩
 subst L0
 refine bJ 3 hs3 (bJ 6 hs6 (bJ 7 hs7 (bJ 8 hs8 (bD (lE gN (aN (aL (cN _ rfl (fun hc1=> ?_) (fun hc1=> ?_)))))))))
 ·refine eB (aL (aJ (bD ?_)))
  obtain⟨x2,hx3⟩:=kX xs k (by omega)
  obtain⟨ha4,cs5,hc6,rfl⟩:=ve _ _ hx3
  refine lE (sW kE ha4) (lv (v:=Bx (x2)) (bI aJf.ok rfl (kB hc6)) (lE bN (xJ (lE aU ?_))))
  refine lv (v:=Ux ((oG 0 (xs.take k))<<<(8:UInt64))) (aKd (a:=((oG 0 (xs.take k)).toNat:Int)) (b:=((8:Nat):Int)) rfl rfl (by decide) (aUq _ 8 (by decide))) ?_
  refine lE aU (lv (v:=Ux (x2.toUInt64)) (gC (a:=((x2).toNat:Int)) rfl ⟨_,tf8⟩ tf2 (aJj _)) ?_)
  refine lv (v:=Ux (((oG 0 (xs.take k))<<<(8:UInt64))|||x2.toUInt64)) (aWb (a:=(((oG 0 (xs.take k))<<<(8:UInt64)).toNat:Int)) (b:=((x2.toUInt64).toNat:Int)) rfl rfl (bAz _ _)) ?_
  refine lE bN (aH (aP (bA (aC (lv (v:=Nx (k+1)) (bO rfl rfl (cW (by omega) (by omega))) (lE aU (aH ?_)))))))
  exact bG ⟨k+1,⟨⟨(show Ux (((oG 0 (xs.take k))<<<(8:UInt64))|||x2.toUInt64)=Ux (oG 0 (xs.take (k+1))) by rw[iY hx3,aJl]),rfl,rfl,rfl⟩,rfl,(by omega)⟩,(show xs.length-(k+1)<xs.length-k from by omega)⟩
 refine cK (aF (aF (cL (kM (lE aU (lE bN (aN (aV (dJ Tryz.results114 rfl ?_)))))))))
 intro w hw
 rw[List.take_of_length_le (show xs.length≤k by omega)]
 exact⟨rfl,aG [] rfl hw⟩
theorem kG(β:Base)(w:World)(p0:Option Addr)(c0:Nat)(bs:Bs)(n:UInt64)(sz:Nat)(hsz:sz≤8)(hbs:bs.length≤1099511627776)(hw:St β [rB p0 bs c0] w):Calls Tryz.prog 92 #[sB p0 bs c0,Ux n,Nx sz] w fun r w'=>∃p c,r= .returned (sB p (bs++be sz n) c)∧St β [rB p (bs++be sz n) c] w':=by
 refine enter (n:=23) Tryz.func92 rfl Tryz.ntmps92 rfl ?_ hw
 refine bD (lE iO (aN (eR (aC (lE aU (lE omn (lE bN (aN (aJ ?_)))))))))
 refine cZ (fun(x_:Nat×Bs×Option Addr×Nat) f L=>match x_ with|(r,ys,p,c)=>(f 0=sB p ys c∧f 1=Ux (n)∧f 7=Ix (((r:Nat):Int)-1))∧L=[rB p ys c]∧(r≤sz∧ys++be r n=bs++be sz n)) (fun(r,ys,p,c)=>r) (sz,bs,p0,c0) ?_ ?_
 ·exact⟨⟨rfl,rfl,rfl⟩,rfl,⟨by omega,rfl⟩⟩
 rintro⟨r,ys,p,c⟩ f0 L0 ⟨⟨hs0,hs1,hs7⟩,hL,⟨hr,he⟩⟩
 subst L0
 refine bJ 0 hs0 (bJ 1 hs1 (bJ 7 hs7 ?_))
 have hyl:=congrArg List.length he
 simp only[List.length_append,bX]at hyl
 refine eR (aC (lE aU (lE oge (aN (cN _ rfl (fun hc1=> ?_) (fun hc1=> ?_))))))
 ·refine eB (aL (aJ ?_))
  obtain⟨q,hq⟩:∃q,r=q+1:=⟨r-1,by omega⟩
  subst hq
  refine bJ 7 (v:=Nx q) (congrArg (Value.int .i64) (by omega)) (aC (lE fL (lE aU (lE aU ?_))))
  refine lv (v:=Nx (8*q)) (tC (a:=(8:Int)) (b:=((q:Nat):Int)) rfl rfl (cW (by omega) (by omega))) ?_
  refine lv (v:=Ux (n>>>UInt64.ofNat (8*q))) (wV (a:=((n).toNat:Int)) (b:=((8*q:Nat):Int)) rfl rfl (by omega) (tY _ (8*q) (by omega))) ?_
  refine lv (v:=Bx ((n>>>UInt64.ofNat (8*q)).toUInt8)) (gC (a:=((n>>>UInt64.ofNat (8*q)).toNat:Int)) rfl ⟨_,tf2⟩ tf8 (aDb _)) ?_
  refine dA rfl rfl rfl (bZ kE aOm.ok (cells:= #[Bx ((n>>>UInt64.ofNat (8*q)).toUInt8)]) rfl rfl rfl rfl) ?_
  rintro _ _ ⟨b2,rfl,rfl⟩
  refine dA rfl rfl rfl (mO (enc:=fun c:UInt8=>Bx c) 1 sF kE aHc (v:=sB p ys c) (xs:=ys) (ys:=[((n>>>UInt64.ofNat (8*q)).toUInt8)]) (ao:=some ⟨b2,0,none⟩) (c:=1) rfl rfl (by first|rfl|simp) rfl (by first|rfl|simp) (aKq 0 (xs:=[((n>>>UInt64.ofNat (8*q)).toUInt8)]) rfl) (by first|omega|(simp only[List.length_append,List.length_nil,List.length_cons,bX]at*;omega)) (by first|omega|(simp only[List.length_append,List.length_nil,List.length_cons,bX]at*;omega))) ?_
  rintro _ _ ⟨rp3,rc4,rfl,rfl⟩
  refine lE iO (aH (aP (bA (aC (lE aU (lE omn (lE bN (aH (dD [false,true] rfl ?_)))))))))
  exact bG ⟨(q,(ys++[(n>>>UInt64.ofNat (8*q)).toUInt8]),rp3,rc4),⟨⟨rfl,rfl,(congrArg (Value.int .i64) (by omega))⟩,rfl,⟨by omega,by rw[←he];simp[be]⟩⟩,(show q<q+1 from Nat.lt_succ_self q)⟩
 refine cK (aF (aF (cL (kM (lE fL (lE iO (aN (aV (dJ Tryz.results92 rfl ?_)))))))))
 intro w hw
 have hz:r=0:=by omega
 subst hz
 have he:ys=bs++be sz n:=by simpa[be]using he
 subst he
 exact⟨_,_,rfl,aG [true] rfl hw⟩
theorem pY(β:Base)(w:World)(hw:St β [] w)(n:UInt64)(sz:Nat)(hsz:sz≤8):Calls Tryz.prog 92 #[.slice none 0 0,Ux n,Nx sz] w fun r w'=>∃p c,r= .returned (sB p (be sz n) c)∧St β [rB p (be sz n) c] w':=by
 exact kG β w none 0 [] n sz hsz (by simp) (hw.emp (eA _ _ _))
theorem aFj(β:Base)(w:World)(hw:St β [] w)(e n:Int)(xs:Bs)(v:Value)(hs:Sl iT β.heap v xs):oP Tryz.prog 104 #[Ix e,Ix n,v] β w (Ux (aDf e n xs)):=by
 obtain⟨va,vc,rfl,vl,vm,ve⟩:=hs.get
 refine enter (n:=16) Tryz.func104 rfl Tryz.ntmps104 rfl ?_ hw
 refine bD (lE bN (eY (lE fL ?_)))
 refine lv (v:= .string (str xs)) (aHz (a:=va) (bs:=xs) (m:=xs.length) (c:=vc) rfl (by first|rfl|simp) aYh.ok tf8 tf7 (bH.of_base (dH.mono _ _ _) ve)) ?_
 refine gI gH (fun w β1 sb kn hw1=>aXf β1 w hw1 (str xs) (show(xs.length:Nat)≤_ by omega)) (lE aU ?_)
 refine lv (v:=Ux (U (n))) (gC (a:=(n)) rfl ⟨_,tf1⟩ tf2 (tG _)) (gI gH (fun w β1 sb kn hw1=>yM β1 w hw1 (aSh xs) (U (n))) ?_)
 refine lE aU (lv (v:=Ux (U (e))) (gC (a:=(e)) rfl ⟨_,tf1⟩ tf2 (tG _)) ?_)
 refine gI gH (fun w β1 sb kn hw1=>yM β1 w hw1 (yL (aSh xs) (U (n))) (U (e))) (lE bN (aN (aV (dJ Tryz.results104 rfl ?_))))
 intro w hw
 exact⟨rfl,aG [] rfl hw⟩
theorem xT(β:Base)(w:World)(hw:St β [] w)(e n:Int)(xs:Bs)(v:Value)(hx:xs.length≤1048576)(hs:Sl iT β.heap v xs):Calls Tryz.prog 61 #[Ix e,Ix n,v] w fun r w'=>∃p c,r= .returned (sB p (bR e n xs) c)∧St β [rB p (bR e n xs) c] w':=by
 obtain⟨va,vc,rfl,vl,vm,ve⟩:=hs.get
 refine enter (n:=29) Tryz.func61 rfl Tryz.ntmps61 rfl ?_ hw
 refine bD (lE iO (eY (lE fL (lE gY ?_))))
 refine lv (v:=Ux (U ((xs.length:Nat):Int))) (gC (a:=((xs.length:Nat):Int)) rfl ⟨_,tf1⟩ tf2 (tG _)) (lE bN (eY (lE aU ?_)))
 refine pV (cT (vs:=[.slice none 0 0,Ux (U ((xs.length:Nat):Int)),.int .i64 (4)]) aHd.ok rfl rfl) rfl fun w β1 sb kn hw1 back=>(pY β1 w hw1 (U ((xs.length:Nat):Int)) 4 (by decide)).mono ?_
 rintro e w' ⟨p1,c2,rfl,hw'⟩
 refine⟨_,rfl,_,back _ _ hw',?_⟩
 refine lE aU (lv (v:=Ux (~~~(U ((xs.length:Nat):Int)))) (aVz (a:=U ((xs.length:Nat):Int)) rfl) ?_)
 refine aX rfl rfl rfl (cT (vs:=[sB p1 (be 4 (U ((xs.length:Nat):Int))) c2,Ux (~~~(U ((xs.length:Nat):Int))),.int .i64 (4)]) aHd.ok rfl rfl) ?_
 intro w hw
 obtain⟨β1,sb,kn,hw1,back⟩:=St.frame (L:=[_]) (M:=[]) hw
 refine(kG β1 w _ _ (be 4 (U ((xs.length:Nat):Int))) (~~~(U ((xs.length:Nat):Int))) 4 (by decide) (by simp only[List.length_append,bX];omega) hw1).mono ?_
 rintro e w' ⟨p3,c4,rfl,hw'⟩
 refine⟨_,rfl,_,back _ _ hw',?_⟩
 refine lE iO (eY (lE fL (lE aU (lv (v:=Ux (U (n))) (gC (a:=(n)) rfl ⟨_,tf1⟩ tf2 (tG _)) ?_))))
 refine aX rfl rfl rfl (cT (vs:=[sB p3 ((be 4 (U ((xs.length:Nat):Int)))++be 4 (~~~(U ((xs.length:Nat):Int)))) c4,Ux (U (n)),.int .i64 (8)]) aHd.ok rfl rfl) ?_
 intro w hw
 obtain⟨β1,sb,kn,hw1,back⟩:=St.frame (L:=[_]) (M:=[]) hw
 refine(kG β1 w _ _ ((be 4 (U ((xs.length:Nat):Int)))++be 4 (~~~(U ((xs.length:Nat):Int)))) (U (n)) 8 (by decide) (by simp only[List.length_append,bX];omega) hw1).mono ?_
 rintro e w' ⟨p5,c6,rfl,hw'⟩
 refine⟨_,rfl,_,back _ _ hw',?_⟩
 refine lE fL ?_
 refine dA rfl rfl rfl (mO (enc:=fun c:UInt8=>Bx c) 0 sF kE aHc (v:=sB p5 (((be 4 (U ((xs.length:Nat):Int)))++be 4 (~~~(U ((xs.length:Nat):Int))))++be 8 (U (n))) c6) (xs:=((be 4 (U ((xs.length:Nat):Int)))++be 4 (~~~(U ((xs.length:Nat):Int))))++be 8 (U (n))) (ys:=xs) (ao:=va) (c:=vc) rfl rfl (by first|rfl|simp) rfl (by first|rfl|simp) (bH.of_base (dH.mono _ _ _) ve) (by first|omega|(simp only[List.length_append,List.length_nil,List.length_cons,bX]at*;omega)) (by first|omega|(simp only[List.length_append,List.length_nil,List.length_cons,bX]at*;omega))) ?_
 rintro _ _ ⟨rp7,rc8,rfl,rfl⟩
 refine lE iO (eY (lE fL (lE aU (lE aU (lE fL ?_)))))
 refine gI gH (fun w β1 sb kn hw1=>aFj β1 w hw1 (e) (n) xs _ (Sl.mono _ _ _ _ _ sb (⟨⟨_,_,rfl,vl,vm,ve⟩⟩:Sl iT _ _ xs))) ?_
 refine aX rfl rfl rfl (cT (vs:=[sB rp7 ((((be 4 (U ((xs.length:Nat):Int)))++be 4 (~~~(U ((xs.length:Nat):Int))))++be 8 (U (n)))++xs) rc8,Ux (aDf (e) (n) xs),.int .i64 (8)]) aHd.ok rfl rfl) ?_
 intro w hw
 obtain⟨β1,sb,kn,hw1,back⟩:=St.frame (L:=[_]) (M:=[]) hw
 refine(kG β1 w _ _ ((((be 4 (U ((xs.length:Nat):Int)))++be 4 (~~~(U ((xs.length:Nat):Int))))++be 8 (U (n)))++xs) (aDf (e) (n) xs) 8 (by decide) (by simp only[List.length_append,bX];omega) hw1).mono ?_
 rintro e w' ⟨p9,c10,rfl,hw'⟩
 refine⟨_,rfl,_,back _ _ hw',?_⟩
 refine lE iO (aN (aV (dJ Tryz.results61 rfl ?_)))
 intro w hw
 exact⟨_,_,rfl,aG [true] rfl hw⟩
theorem lQ(β:Base)(w:World)(hw:St β [] w)(xs:Bs)(v:Value)(hx:xs.length≤1048576)(hs:Sl iT β.heap v xs):Calls Tryz.prog 66 #[v] w fun r w'=>∃p c,r= .returned (sB p xs c)∧St β [rB p xs c] w':=by
 obtain⟨va,vc,rfl,vl,vm,ve⟩:=hs.get
 refine enter (n:=8) Tryz.func66 rfl Tryz.ntmps66 rfl ?_ hw
 refine bD (lE iO (aN (eR ?_)))
 cases va with
 |none=>
  have hxs:xs=[]:=by cases xs with|nil=>rfl|cons a l=>exact absurd (tL ve (by simp)) (by simp)
  subst hxs
  refine aC (lE fL (lv (v:= .bool true) (qD (a:=none) rfl rfl aYh.ok) (aN (dN rfl (bD (lE iO (aN (aV (aI ?_)))))))))
  refine dJ Tryz.results66 rfl ?_
  intro w hw
  exact⟨none,0,rfl,hw.emp (eA _ _ _)⟩
 |some ad=>
  refine aC (lE fL (lv (v:= .bool false) (qD (a:=(some ad)) rfl rfl aYh.ok) (aN (cR rfl (eB (bD ?_))))))
  refine dA rfl rfl rfl (pG kE) ?_
  rintro _ _ ⟨b1,rfl,rfl⟩
  refine lE fL (pE 0 (r':=row (.slice (some ⟨b1,0,none⟩) 0 0) 5 1 0 (BX [])) rfl (fun a h=>aDz (m:=0) (by decide) rfl a h) ?_)
  refine dA rfl rfl rfl (mO (enc:=fun c:UInt8=>Bx c) 0 sF kE aHc (v:= .slice (some ⟨b1,0,none⟩) 0 0) (xs:=[]) (ys:=xs) (ao:=(some ad)) (c:=vc) rfl rfl (by first|rfl|simp) rfl (by first|rfl|simp) (bH.of_base (dH.mono _ _ _) ve) (by first|omega|(simp only[List.length_append,List.length_nil,List.length_cons,bX]at*;omega)) (by first|omega|(simp only[List.length_append,List.length_nil,List.length_cons,bX]at*;omega))) ?_
  rintro _ _ ⟨rp2,rc3,rfl,rfl⟩
  refine lE iO (aN (aV (dJ Tryz.results66 rfl ?_)))
  intro w hw
  exact⟨_,_,rfl,aG [true] rfl hw⟩
theorem wO(β:Base)(w:World)(hw:St β [] w)(e:Int)(xs:Bs)(a:Option Addr)(c:Nat)(hl:xs.length≤c)(hm:c≤9223372036854775807)(he:dH iT β.heap a xs):oP Tryz.prog 83 #[Ix e,sB a xs c] β w (.tuple #[Nx (iE xs),sB (rR a c xs) (bP xs) (rE c xs),.bool (kD e xs)]):=by
 refine enter (n:=68) Tryz.func83 rfl Tryz.ntmps83 rfl ?_ hw
 refine bD (lE bN (lE iO (lE dP (aN (eR (aC (lE fL (lE gY (lE gN (aN (cN _ rfl (fun hc1=> ?_) (fun hc1=> ?_))))))))))))
 ·refine bD (lE bN (lE iO (lE dP (aN (aV (aI ?_))))))
  refine aNy (v:= .int .i64 (0)) (v':= .slice none 0 0) (v'':= .bool false) Tryz.results83 rfl rfl rfl ?_
  intro w hw
  exact⟨vF (.inl hc1),aG [] rfl hw⟩
 refine eB (aL (gS (by kernel_rfl) (by kernel_rfl) (qE fL ?_)))
 obtain⟨zs2,hz3⟩:∃zs,zs=(xs.take 4):=⟨_,rfl⟩
 have zl4:zs2.length=min 4 (xs).length-0:=by rw[hz3];simp;try omega
 have ze5:=(dH.take 4 he)
 rw[←hz3]at ze5
 refine dU (v:= .slice a (zs2.length) (c)) rfl rfl rfl (eZ (by rw[show zs2.length=4 by omega]) (kA (a:=a) (len:=xs.length) (cap:=c) (h:=4) kE rfl rfl (by omega))) ?_
 refine lH (v:=Ux (bW zs2)) rfl rfl rfl (cT (vs:=[sB a zs2 (c)]) aUb.ok rfl rfl) (fun w hw=> ?_) ?_
 ·obtain⟨β1,sb,kn,hw1,back⟩:=St.frame_all hw
  exact(sQ β1 w hw1 zs2 _ (Sl.mono _ _ _ _ _ sb (⟨⟨_,_,rfl,by omega,by omega,ze5⟩⟩:Sl iT _ _ zs2))).mono (fun e w' ⟨he,hw'⟩=>⟨he,aG [] rfl (back _ _ hw')⟩)
 refine qE fL ?_
 obtain⟨zs6,hz7⟩:∃zs,zs=((xs.take 8).drop 4):=⟨_,rfl⟩
 have zl8:zs6.length=min 8 (xs).length-4:=by rw[hz7];simp;try omega
 have ze9:=(dH.drop (cap:=c) 4 (by first|omega|(simp;omega)) (dH.take 8 he))
 rw[←hz7]at ze9
 refine dU (v:= .slice (sD a c 4 1) (zs6.length) ((c-4))) rfl rfl rfl (eZ (by rw[show zs6.length=8-4 by omega]) (lC (a:=a) (len:=xs.length) (cap:=c) (l:=4) (h:=8) kE rfl rfl rfl (by omega) (by omega))) ?_
 refine lH (v:=Ux (bW zs6)) rfl rfl rfl (cT (vs:=[sB (sD a c 4 1) zs6 ((c-4))]) aUb.ok rfl rfl) (fun w hw=> ?_) ?_
 ·obtain⟨β1,sb,kn,hw1,back⟩:=St.frame_all hw
  exact(sQ β1 w hw1 zs6 _ (Sl.mono _ _ _ _ _ sb (⟨⟨_,_,rfl,by omega,by omega,ze9⟩⟩:Sl iT _ _ zs6))).mono (fun e w' ⟨he,hw'⟩=>⟨he,aG [] rfl (back _ _ hw')⟩)
 refine qE fL ?_
 obtain⟨zs10,hz11⟩:∃zs,zs=((xs.take 16).drop 8):=⟨_,rfl⟩
 have zl12:zs10.length=min 16 (xs).length-8:=by rw[hz11];simp;try omega
 have ze13:=(dH.drop (cap:=c) 8 (by first|omega|(simp;omega)) (dH.take 16 he))
 rw[←hz11]at ze13
 refine dU (v:= .slice (sD a c 8 1) (zs10.length) ((c-8))) rfl rfl rfl (eZ (by rw[show zs10.length=16-8 by omega]) (lC (a:=a) (len:=xs.length) (cap:=c) (l:=8) (h:=16) kE rfl rfl rfl (by omega) (by omega))) ?_
 refine lH (v:=Ux (bW zs10)) rfl rfl rfl (cT (vs:=[sB (sD a c 8 1) zs10 ((c-8))]) aUb.ok rfl rfl) (fun w hw=> ?_) ?_
 ·obtain⟨β1,sb,kn,hw1,back⟩:=St.frame_all hw
  exact(sQ β1 w hw1 zs10 _ (Sl.mono _ _ _ _ _ sb (⟨⟨_,_,rfl,by omega,by omega,ze13⟩⟩:Sl iT _ _ zs10))).mono (fun e w' ⟨he,hw'⟩=>⟨he,aG [] rfl (back _ _ hw')⟩)
 refine qE bN (qE bN (qE bN (lB (qV (bD (lE aU (lE aU ?_)))))))
 refine lv (v:=Ux ((bW zs2)^^^(bW zs6))) (aKe (a:=((bW zs2).toNat:Int)) (b:=((bW zs6).toNat:Int)) rfl rfl (aAi _ _)) ?_
 refine lE lO (lE fM (eO (s:=28) rfl (fun hg14=> ?_) (fun hg14=> ?_)))
 ·refine iP (iP (lE eF (lE fM ?_)))
  iterate 6 refine iP ?_
  refine lE eF (lE fM (iP (iP (lE eF (aN (dN rfl (bD (lE bN (lE iO (lE dP (aN (aV (aI ?_)))))))))))))
  refine aNy (v:= .int .i64 (0)) (v':= .slice none 0 0) (v'':= .bool false) Tryz.results83 rfl rfl rfl ?_
  intro w hw
  subst hz3
  subst hz7
  subst hz11
  exact⟨vF (.inr (.inl hg14)),aG [] rfl hw⟩
 refine gE aU (gE oQ (lE dT (lE fM (eO (s:=32) rfl (fun hg15=> ?_) (fun hg15=> ?_)))))
 ·iterate 6 refine iP ?_
  refine lE eF (lE fM (iP (iP (lE eF (aN (dN rfl (bD (lE bN (lE iO (lE dP (aN (aV (aI ?_)))))))))))))
  refine aNy (v:= .int .i64 (0)) (v':= .slice none 0 0) (v'':= .bool false) Tryz.results83 rfl rfl rfl ?_
  intro w hw
  subst hz3
  subst hz7
  subst hz11
  exact⟨vF (.inr (.inr (.inl hg15))),aG [] rfl hw⟩
 refine gE aU ?_
 refine cU (v:=Nx ((bW zs2).toNat)) rfl rfl rfl rfl rfl (gC (a:=((bW zs2).toNat:Int)) rfl ⟨_,tf2⟩ tf1 (cW rfl (by omega))) ?_
 refine gE fL (gE gY (gE omn (gE oQ (lE dT (lE fM (eO (s:=40) rfl (fun hg16=> ?_) (fun hg16=> ?_)))))))
 ·refine iP (iP (lE eF (aN (dN rfl (bD (lE bN (lE iO (lE dP (aN (aV (aI ?_)))))))))))
  refine aNy (v:= .int .i64 (0)) (v':= .slice none 0 0) (v'':= .bool false) Tryz.results83 rfl rfl rfl ?_
  intro w hw
  subst hz3
  subst hz7
  subst hz11
  exact⟨vF (.inr (.inr (.inr (.inl hg16)))),aG [] rfl hw⟩
 refine gE aU (gE oQ (lE dT (aN (cN _ rfl (fun hc17=> ?_) (fun hc17=> ?_)))))
 ·refine bD (lE bN (lE iO (lE dP (aN (aV (aI ?_))))))
  refine aNy (v:= .int .i64 (0)) (v':= .slice none 0 0) (v'':= .bool false) Tryz.results83 rfl rfl rfl ?_
  intro w hw
  subst hz3
  subst hz7
  subst hz11
  exact⟨vF (.inr (.inr (.inr (.inr hc17)))),aG [] rfl hw⟩
 refine eB (bD (lE fL (lE aU (lv (v:=Nx ((bW zs2).toNat)) (gC (a:=((bW zs2).toNat:Int)) rfl ⟨_,tf2⟩ tf1 (cW rfl (by omega))) ?_))))
 refine lv (v:=Nx (16+((bW zs2).toNat))) (bO rfl rfl (cW (by omega) (by omega))) ?_
 obtain⟨zs18,hz19⟩:∃zs,zs=((xs.take (16+((bW zs2).toNat))).drop 16):=⟨_,rfl⟩
 have zl20:zs18.length=min (16+((bW zs2).toNat)) (xs).length-16:=by rw[hz19];simp;try omega
 have ze21:=(dH.drop (cap:=c) 16 (by first|omega|(simp;omega)) (dH.take (16+((bW zs2).toNat)) he))
 rw[←hz19]at ze21
 refine lv (v:= .slice (sD a c 16 1) (zs18.length) ((c-16))) (eZ (by rw[show zs18.length=(16+((bW zs2).toNat))-16 by omega]) (lC (a:=a) (len:=xs.length) (cap:=c) (l:=16) (h:=16+((bW zs2).toNat)) kE rfl rfl rfl (by omega) (by omega))) ?_
 refine lE iO (eY (lE fL (lE aU ?_)))
 refine lv (v:=Nx ((bW zs2).toNat)) (gC (a:=((bW zs2).toNat:Int)) rfl ⟨_,tf2⟩ tf1 (cW rfl (by omega))) ?_
 refine lv (v:=Nx (16+((bW zs2).toNat))) (bO rfl rfl (cW (by omega) (by omega))) (lE aU ?_)
 refine lv (v:=Nx ((bW zs2).toNat)) (gC (a:=((bW zs2).toNat:Int)) rfl ⟨_,tf2⟩ tf1 (cW rfl (by omega))) ?_
 refine lv (v:=Nx (24+((bW zs2).toNat))) (bO rfl rfl (cW (by omega) (by omega))) ?_
 obtain⟨zs22,hz23⟩:∃zs,zs=((xs.take (24+((bW zs2).toNat))).drop (16+((bW zs2).toNat))):=⟨_,rfl⟩
 have zl24:zs22.length=min (24+((bW zs2).toNat)) (xs).length-(16+((bW zs2).toNat)):=by rw[hz23];simp;try omega
 have ze25:=(dH.drop (cap:=c) (16+((bW zs2).toNat)) (by first|omega|(simp;omega)) (dH.take (24+((bW zs2).toNat)) he))
 rw[←hz23]at ze25
 refine lv (v:= .slice (sD a c (16+((bW zs2).toNat)) 1) (zs22.length) ((c-(16+((bW zs2).toNat))))) (eZ (by rw[show zs22.length=(24+((bW zs2).toNat))-(16+((bW zs2).toNat)) by omega]) (lC (a:=a) (len:=xs.length) (cap:=c) (l:=16+((bW zs2).toNat)) (h:=24+((bW zs2).toNat)) kE rfl rfl rfl (by omega) (by omega))) ?_
 refine gI gH (fun w β1 sb kn hw1=>sQ β1 w hw1 zs22 _ (Sl.mono _ _ _ _ _ sb (⟨⟨_,_,rfl,by omega,by omega,ze25⟩⟩:Sl iT _ _ zs22))) ?_
 refine lE bN (eY (lE aU (lv (v:=Nx ((bW zs10).toNat)) (gC (a:=((bW zs10).toNat:Int)) rfl ⟨_,tf2⟩ tf1 (cW rfl (by omega))) ?_)))
 refine lE fL (lE aU (lE aU (lE aU ?_)))
 refine lv (v:=Nx ((bW zs10).toNat)) (gC (a:=((bW zs10).toNat:Int)) rfl ⟨_,tf2⟩ tf1 (cW rfl (by omega))) (lE fL ?_)
 refine gI gH (fun w β1 sb kn hw1=>aFj β1 w hw1 (e) (((bW zs10).toNat:Nat):Int) zs18 _ (Sl.mono _ _ _ _ _ sb (⟨⟨_,_,rfl,by omega,by omega,ze21⟩⟩:Sl iT _ _ zs18))) ?_
 refine lE fD (lE bN (lE iO (lE dP (aN (aV ?_)))))
 refine aNy (v:=Nx ((bW zs10).toNat)) (v':=sB (sD a c 16 1) zs18 ((c-16))) (v'':= .bool (decide (((bW zs22).toNat:Int)=((aDf (e) (((bW zs10).toNat:Nat):Int) zs18).toNat:Int)))) Tryz.results83 rfl rfl rfl ?_
 intro w hw
 subst hz3
 subst hz7
 subst hz11
 subst hz19
 subst hz23
 have hok:¬mK xs:=by
  rintro(q|q|q|q|q)
  ·exact hc1 q
  ·exact hg14 q
  ·exact hg15 q
  ·exact hg16 q
  ·exact hc17 q
 exact⟨aTd hok,aG [] rfl hw⟩
theorem aUr(β:Base)(w:World)(hw:St β [] w)(k:KS)(vh va vb:Value)(hH:Sl iT β.heap vh k.head)(hA:Sl iT β.heap va k.a)(hB:Sl iT β.heap vb k.b):oP Tryz.prog 81 #[.agg #[vh,va,vb,Ix k.power]] β w (.bool (decide k.okP)):=by
 obtain⟨vha,vhc,rfl,vhl,vhm,vhe⟩:=hH.get
 obtain⟨vaa,vac,rfl,val,vam,vae⟩:=hA.get
 obtain⟨vba,vbc,rfl,vbl,vbm,vbe⟩:=hB.get
 refine enter (n:=30) Tryz.func81 rfl Tryz.ntmps81 rfl ?_ hw
 refine bD (mL fun b1=> ?_)
 refine lE dP (eY (lE aY (lE (fQ 0) (lE gY (lE fD (lE fM (eO (s:=7) rfl (fun hg2=> ?_) (fun hg2=> ?_))))))))
 ·refine iP (iP (iP (iP (lE eF (lE fM (gE aY (gE (fQ 0) (gE gY (gE ole (lE eF (lE fM ?_)))))))))))
  refine eO (s:=19) rfl (fun hg3=> ?_) (fun hg3=> ?_)
  ·refine gE aY (gE (fQ 0) (gE gY (gE ole (lE eF (lE fM (eO (s:=25) rfl (fun hg4=> ?_) (fun hg4=> ?_)))))))
   ·refine gE aY (gE (cY 0) (gE oge (lE eF (lE dP (aN (aV (dJ Tryz.results81 rfl ?_)))))))
    intro w hw
    exact⟨aPq (by unfold KS.okP;omega),aG [false] rfl hw⟩
   refine iP (iP (iP (lE dT (lE dP (aN (aV (dJ Tryz.results81 rfl ?_)))))))
   intro w hw
   exact⟨yJ (by unfold KS.okP;omega),aG [false] rfl hw⟩
  refine iP (iP (iP (iP (lE dT (lE fM (iP (iP (iP (lE dT (lE dP (aN (aV (dJ Tryz.results81 rfl ?_)))))))))))))
  intro w hw
  exact⟨yJ (by unfold KS.okP;omega),aG [false] rfl hw⟩
 refine gE aY (gE (fQ 0) (gE gY (gE fD (lE dT (lE fM (eO (s:=13) rfl (fun hg5=> ?_) (fun hg5=> ?_)))))))
 ·refine gE aY (gE (fQ 0) (gE gY (gE ole (lE eF (lE fM (eO (s:=19) rfl (fun hg6=> ?_) (fun hg6=> ?_)))))))
  ·refine gE aY (gE (fQ 0) (gE gY (gE ole (lE eF (lE fM (eO (s:=25) rfl (fun hg7=> ?_) (fun hg7=> ?_)))))))
   ·refine gE aY (gE (cY 0) (gE oge (lE eF (lE dP (aN (aV (dJ Tryz.results81 rfl ?_)))))))
    intro w hw
    exact⟨aPq (by unfold KS.okP;omega),aG [false] rfl hw⟩
   refine iP (iP (iP (lE dT (lE dP (aN (aV (dJ Tryz.results81 rfl ?_)))))))
   intro w hw
   exact⟨yJ (by unfold KS.okP;omega),aG [false] rfl hw⟩
  refine iP (iP (iP (iP (lE dT (lE fM (iP (iP (iP (lE dT (lE dP (aN (aV (dJ Tryz.results81 rfl ?_)))))))))))))
  intro w hw
  exact⟨yJ (by unfold KS.okP;omega),aG [false] rfl hw⟩
 refine iP (iP (iP (iP (lE dT (lE fM (iP (iP (iP (iP (lE dT (lE fM (iP (iP (iP (lE dT (lE dP (aN (aV ?_))))))))))))))))))
 refine dJ Tryz.results81 rfl ?_
 intro w hw
 exact⟨yJ (by unfold KS.okP;omega),aG [false] rfl hw⟩
theorem aQq(β:Base)(w:World)(hw:St β [] w)(xs:Bs)(v:Value)(hx:xs.length≤4294967296)(hs:Sl iT β.heap v xs):oP Tryz.prog 82 #[v] β w (Nx (bM xs)):=by
 obtain⟨va,vc,rfl,vl,vm,ve⟩:=hs.get
 refine enter (n:=52) Tryz.func82 rfl Tryz.ntmps82 rfl ?_ hw
 refine bD (lv eC (eY (lv eC (aN (eR (aC (lv eC (aN (aJ ?_)))))))))
 refine cZ (fun(j:Nat) f L=>(f 0=sB va xs (vc)∧f 3=Ux (eT xs j)∧f 4=Nx (j*16))∧L=[]∧(j*16≤xs.length)) (fun j=>xs.length-j*16) 0 ?_ ?_
 ·exact⟨⟨rfl,rfl,rfl⟩,rfl,(by omega)⟩
 rintro j f0 L0 ⟨⟨hs0,hs3,hs4⟩,hL,hj⟩
 subst L0
 refine bJ 0 hs0 (bJ 3 hs3 (bJ 4 hs4 ?_))
 have hlt:=wD xs j
 refine eR (aC (lv cI (lv (v:=Nx ((j*16)+16)) (bO rfl rfl (cW (by omega) (by omega))) (lv cI ?_))))
 refine lv (v:=Nx (xs.length)) (aZx rfl aYh.ok) (lv (aZy rfl rfl) (aN (cN _ rfl (fun hc1=> ?_) (fun hc1=> ?_))))
 ·refine eB (aL (aJ (aL (gS (by kernel_rfl) (by kernel_rfl) (dU (v:=sB va xs (vc)) rfl rfl rfl cI ?_)))))
  refine dU (v:=Nx (j*16)) rfl rfl rfl cI (dU (v:=Nx (j*16)) rfl rfl rfl cI ?_)
  refine dU (v:=Nx ((j*16)+8)) rfl rfl rfl (bO rfl rfl (cW (by omega) (by omega))) ?_
  obtain⟨zs2,hz3⟩:∃zs,zs=((xs.take ((j*16)+8)).drop (j*16)):=⟨_,rfl⟩
  have zl4:zs2.length=min ((j*16)+8) (xs).length-(j*16):=by rw[hz3];simp;try omega
  have ze5:=(dH.drop (cap:=vc) (j*16) (by first|omega|(simp;omega)) (dH.take ((j*16)+8) ve))
  rw[←hz3]at ze5
  refine dU (v:= .slice (sD va vc (j*16) 1) (zs2.length) ((vc-(j*16)))) rfl rfl rfl (eZ (by rw[show zs2.length=((j*16)+8)-(j*16) by omega]) (lC (a:=va) (len:=xs.length) (cap:=vc) (l:=j*16) (h:=(j*16)+8) kE rfl rfl rfl (by omega) (by omega))) ?_
  refine lH (v:=Ux (bW zs2)) rfl rfl rfl (cT (vs:=[sB (sD va vc (j*16) 1) zs2 ((vc-(j*16)))]) aUb.ok rfl rfl) (fun w hw=> ?_) ?_
  ·obtain⟨β1,sb,kn,hw1,back⟩:=St.frame_all hw
   exact(sQ β1 w hw1 zs2 _ (Sl.mono _ _ _ _ _ sb (⟨⟨_,_,rfl,by omega,by omega,ze5⟩⟩:Sl iT _ _ zs2))).mono (fun e w' ⟨he,hw'⟩=>⟨he,aG [] rfl (back _ _ hw')⟩)
  refine dU (v:=sB va xs (vc)) rfl rfl rfl cI (dU (v:=Nx (j*16)) rfl rfl rfl cI ?_)
  refine dU (v:=Nx ((j*16)+8)) rfl rfl rfl (bO rfl rfl (cW (by omega) (by omega))) (dU (v:=Nx (j*16)) rfl rfl rfl cI ?_)
  refine dU (v:=Nx ((j*16)+16)) rfl rfl rfl (bO rfl rfl (cW (by omega) (by omega))) ?_
  obtain⟨zs6,hz7⟩:∃zs,zs=((xs.take ((j*16)+16)).drop ((j*16)+8)):=⟨_,rfl⟩
  have zl8:zs6.length=min ((j*16)+16) (xs).length-((j*16)+8):=by rw[hz7];simp;try omega
  have ze9:=(dH.drop (cap:=vc) ((j*16)+8) (by first|omega|(simp;omega)) (dH.take ((j*16)+16) ve))
  rw[←hz7]at ze9
  refine dU (v:= .slice (sD va vc ((j*16)+8) 1) (zs6.length) ((vc-((j*16)+8)))) rfl rfl rfl (eZ (by rw[show zs6.length=((j*16)+16)-((j*16)+8) by omega]) (lC (a:=va) (len:=xs.length) (cap:=vc) (l:=(j*16)+8) (h:=(j*16)+16) kE rfl rfl rfl (by omega) (by omega))) ?_
  refine lH (v:=Ux (bW zs6)) rfl rfl rfl (cT (vs:=[sB (sD va vc ((j*16)+8) 1) zs6 ((vc-((j*16)+8)))]) aUb.ok rfl rfl) (fun w hw=> ?_) ?_
  ·obtain⟨β1,sb,kn,hw1,back⟩:=St.frame_all hw
   exact(sQ β1 w hw1 zs6 _ (Sl.mono _ _ _ _ _ sb (⟨⟨_,_,rfl,by omega,by omega,ze9⟩⟩:Sl iT _ _ zs6))).mono (fun e w' ⟨he,hw'⟩=>⟨he,aG [] rfl (back _ _ hw')⟩)
  refine dU (v:=Ux (bW zs2)) rfl rfl rfl eC (dU (v:=Ux (bW zs6)) rfl rfl rfl eC (lB (kM (lv cI (lv cI ?_)))))
  refine lv (aZw rfl rfl) (lv cI (eO (s:=30) rfl (fun hg10=> ?_) (fun hg10=> ?_)))
  ·refine cU (v:=Ux (bW zs2)) rfl rfl rfl rfl rfl cI (cU rfl rfl rfl rfl rfl (aJz rfl rfl) ?_)
   refine lv (v:= .bool (decide (((bW zs2).toNat:Int)<(4611686018427387904:Int)))) (mY rfl) (lv cI ?_)
   refine eO (s:=34) rfl (fun hg11=> ?_) (fun hg11=> ?_)
   ·refine cU (v:=Ux (bW zs2)) rfl rfl rfl rfl rfl cI ?_
    refine cU (v:=Ux ((bW zs2)%(2:UInt64))) rfl rfl rfl rfl rfl (lR (a:=((bW zs2).toNat:Int)) (b:=((2:UInt64).toNat:Int)) rfl rfl (by decide) (bDk _ _)) ?_
    refine cU (v:=Nx (j*16)) rfl rfl rfl rfl rfl cI ?_
    refine cU (v:=Nx ((j*16)/16)) rfl rfl rfl rfl rfl (aKc (a:=((j*16:Nat):Int)) (b:=(16:Int)) rfl rfl (by decide) (cW (uX _ 16) (by omega))) ?_
    refine cU (v:=Ux (U (((j*16)/16:Nat):Int))) rfl rfl rfl rfl rfl (gC (a:=(((j*16)/16:Nat):Int)) rfl ⟨_,tf1⟩ tf2 (tG _)) ?_
    refine cU rfl rfl rfl rfl rfl (dX rfl rfl) ?_
    refine lv (v:= .bool (decide ((((bW zs2)%(2:UInt64)).toNat:Int)=((U (((j*16)/16:Nat):Int)).toNat:Int)))) (mY rfl) ?_
    refine lv cI (eO (s:=42) rfl (fun hg12=> ?_) (fun hg12=> ?_))
    ·refine cU (v:=Ux (bW zs6)) rfl rfl rfl rfl rfl cI (cU (v:=Ux (bW zs2)) rfl rfl rfl rfl rfl cI ?_)
     refine cU (v:=Nx ((bW zs2).toNat)) rfl rfl rfl rfl rfl (gC (a:=((bW zs2).toNat:Int)) rfl ⟨_,tf2⟩ tf1 (cW rfl (by omega))) ?_
     refine eM rfl rfl rfl rfl rfl (cT (vs:=[Nx ((bW zs2).toNat)]) bIm.ok rfl rfl) ?_
     intro w hw
     obtain⟨β1,sb,kn,hw1,back⟩:=St.frame_all hw
     refine(aEn β1 w hw1 (((bW zs2).toNat:Nat):Int)).mono ?_
     rintro e w' ⟨rfl,hw'⟩
     refine⟨_,rfl,_,back _ _ hw',?_⟩
     refine cU rfl rfl rfl rfl rfl (dX rfl rfl) ?_
     refine lv (v:= .bool (decide (((bW zs6).toNat:Int)=((eV (((bW zs2).toNat:Nat):Int)).toNat:Int)))) (mY rfl) (aN ?_)
     refine cN _ rfl (fun hc13=> ?_) (fun hc13=> ?_)
     ·refine aC (lv cI (lv eC (aH (aP (bA (aC (lv cI ?_)))))))
      refine lv (v:=Nx ((j*16)+16)) (bO rfl rfl (cW (by omega) (by omega))) (lv eC (aH ?_))
      exact bG ⟨j+1,⟨⟨rfl,(show Ux (bW zs2)=Ux (eT xs (j+1)) by subst hz3;subst hz7;exact congrArg (fun x:UInt64=>Ux x) (bBs (by omega) (by omega) hg12 hc13).symm),(congrArg (fun z:Nat=>Nx z) (by omega))⟩,rfl,(by omega)⟩,(show xs.length-(j+1)*16<xs.length-j*16 from by omega)⟩
     refine cG (aP (bA (aC (lv cI (lv (v:=Nx ((j*16)+16)) (bO rfl rfl (cW (by omega) (by omega))) (lv eC (aH ?_)))))))
     exact bG ⟨j+1,⟨⟨rfl,(show Ux (eT xs j)=Ux (eT xs (j+1)) by subst hz3;subst hz7;exact congrArg (fun x:UInt64=>Ux x) (bBr hc13).symm),(congrArg (fun z:Nat=>Nx z) (by omega))⟩,rfl,(by omega)⟩,(show xs.length-(j+1)*16<xs.length-j*16 from by omega)⟩
    refine cP rfl rfl rfl rfl rfl rfl (cP rfl rfl rfl rfl rfl rfl (cP rfl rfl rfl rfl rfl rfl (cP rfl rfl rfl rfl rfl rfl ?_)))
    refine cP rfl rfl rfl rfl rfl rfl (lv (v:= .bool false) (iL rfl) (aN (cR rfl (cG (aP (bA (aC (lv cI ?_))))))))
    refine lv (v:=Nx ((j*16)+16)) (bO rfl rfl (cW (by omega) (by omega))) (lv eC (aH ?_))
    exact bG ⟨j+1,⟨⟨rfl,(show Ux (eT xs j)=Ux (eT xs (j+1)) by subst hz3;subst hz7;exact congrArg (fun x:UInt64=>Ux x) (bBq hg12).symm),(congrArg (fun z:Nat=>Nx z) (by omega))⟩,rfl,(by omega)⟩,(show xs.length-(j+1)*16<xs.length-j*16 from by omega)⟩
   refine cP rfl rfl rfl rfl rfl rfl (cP rfl rfl rfl rfl rfl rfl (cP rfl rfl rfl rfl rfl rfl (cP rfl rfl rfl rfl rfl rfl ?_)))
   refine cP rfl rfl rfl rfl rfl rfl (cP rfl rfl rfl rfl rfl rfl (lv (v:= .bool false) (iL rfl) (lv cI ?_)))
   refine cP rfl rfl rfl rfl rfl rfl (cP rfl rfl rfl rfl rfl rfl (cP rfl rfl rfl rfl rfl rfl (cP rfl rfl rfl rfl rfl rfl ?_)))
   refine cP rfl rfl rfl rfl rfl rfl (lv (v:= .bool false) (iL rfl) (aN (cR rfl (cG (aP (bA (aC (lv cI ?_))))))))
   refine lv (v:=Nx ((j*16)+16)) (bO rfl rfl (cW (by omega) (by omega))) (lv eC (aH ?_))
   exact bG ⟨j+1,⟨⟨rfl,(show Ux (eT xs j)=Ux (eT xs (j+1)) by subst hz3;subst hz7;exact congrArg (fun x:UInt64=>Ux x) (bBp hg11).symm),(congrArg (fun z:Nat=>Nx z) (by omega))⟩,rfl,(by omega)⟩,(show xs.length-(j+1)*16<xs.length-j*16 from by omega)⟩
  refine cP rfl rfl rfl rfl rfl rfl (cP rfl rfl rfl rfl rfl rfl (lv (v:= .bool false) (iL rfl) (lv cI ?_)))
  refine cP rfl rfl rfl rfl rfl rfl (cP rfl rfl rfl rfl rfl rfl (cP rfl rfl rfl rfl rfl rfl (cP rfl rfl rfl rfl rfl rfl ?_)))
  refine cP rfl rfl rfl rfl rfl rfl (cP rfl rfl rfl rfl rfl rfl (lv (v:= .bool false) (iL rfl) (lv cI ?_)))
  refine cP rfl rfl rfl rfl rfl rfl (cP rfl rfl rfl rfl rfl rfl (cP rfl rfl rfl rfl rfl rfl (cP rfl rfl rfl rfl rfl rfl ?_)))
  refine cP rfl rfl rfl rfl rfl rfl (lv (v:= .bool false) (iL rfl) (aN (cR rfl (cG (aP (bA (aC (lv cI ?_))))))))
  refine lv (v:=Nx ((j*16)+16)) (bO rfl rfl (cW (by omega) (by omega))) (lv eC (aH ?_))
  exact bG ⟨j+1,⟨⟨rfl,(show Ux (eT xs j)=Ux (eT xs (j+1)) by subst hz3;subst hz7;exact congrArg (fun x:UInt64=>Ux x) (bBo hg10).symm),(congrArg (fun z:Nat=>Nx z) (by omega))⟩,rfl,(by omega)⟩,(show xs.length-(j+1)*16<xs.length-j*16 from by omega)⟩
 refine cK (aF (aF (cL (qV ?_))))
 have hlt:=wD xs j
 refine aC (lv cI (lv (v:=Nx ((eT xs j).toNat)) (gC (a:=((eT xs j).toNat:Int)) rfl ⟨_,tf2⟩ tf1 (cW rfl (by omega))) ?_))
 refine lv eC (aN (aV (dJ Tryz.results82 rfl ?_)))
 intro w hw
 rw[show j=xs.length/16 by omega]
 exact⟨rfl,aG [] rfl hw⟩
theorem lP(β:Base)(w:World)(hw:St β [] w)(S:Nat):oP Tryz.prog 65 #[pp S 0] β w (.agg #[pp S 1,pp S 2]):=by
 refine enter (n:=10) Tryz.func65 rfl Tryz.ntmps65 rfl ?_ hw
 refine bD (gB fun b1=>aN (aL ?_))
 refine jS [sv 3 (pp S 0) [] [] [0],sv 4 (pp S 0) [0] [0] [],sv 5 (pp S 1) [0,1] [1] [],sv 6 (pp S 0) [] [] [0],sv 7 (pp S 0) [3] [3] [],sv 8 (pp S 2) [3,4] [4] [],sv 9 (.agg #[pp S 1,pp S 2]) (List.range 6) [2,5] [],⟨(List.range 7),[6],[1],[],fun _=>True⟩] [(some 7,[7])] [⟨(some 7),none,[],[],fun _=>pt b1 (.cells #[pp S 1,pp S 2] 148)⟩] [(0,pp S 0),(2,pp b1 0)] [1] ⟨rfl,rfl,trivial⟩ ⟨?_,?_,?_,?_,?_,?_,?_,?_,trivial⟩ ?_
 ·rintro f M-⟨i0,-⟩
  exact aT dS
 ·rintro f M ⟨k0,-⟩-
  exact aT eS
 ·rintro f M ⟨k0,-⟩-
  exact aT aY
 ·rintro f M-⟨i0,-⟩
  exact aT dS
 ·rintro f M ⟨k0,-⟩-
  exact aT eS
 ·rintro f M ⟨k0,-⟩-
  exact aT aY
 ·rintro f M ⟨k0,k1,-⟩-
  exact gO (aA (d:=8) (aA (d:=5) rfl k0) k1) rfl (eQ bIn.ok aEm.ok (vs:=[(0,pp S 1),(1,pp S 2)]) (cells:= #[pp S 1,pp S 2]) rfl rfl) (.refl _)
 ·rintro f M ⟨k0,-⟩ ⟨i0,-⟩
  refine dL (aA (d:=9) (aA (d:=2) rfl i0) k0) ?_
  refine lu (mS 0 (#[pp S 1,pp S 2])) (aH ?_)
  exact bC (aA (d:=9) (aA (d:=2) rfl i0) k0) trivial (aB 0 rfl)
 rintro fa2 ⟨-,-,-,-,-,-,-,-,-⟩ ⟨j0,-⟩
 refine jD ?_
 refine aD (d:=2) j0 (ftr (gK (m:=[.agg #[pp S 1,pp S 2]]) Tryz.results65 ⟨bS bIo.ok rfl (cD 0 rfl rfl) rfl,trivial⟩ rfl ?_))
 intro w hw
 exact⟨rfl,aG [false] rfl hw⟩
end Go.Proofs
