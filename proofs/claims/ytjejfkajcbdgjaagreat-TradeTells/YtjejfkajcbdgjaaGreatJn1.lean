/-
 The journal's small functions,walked. Printed by a program of my own.
-/
import Derived.Test.YtjejfkajcbdgjaaGreatJnOp
import Derived.Test.YtjejfkajcbdgjaaGreatProg
set_option linter.all false
set_option maxHeartbeats 4000000
namespace Go.Proofs
open Go Go.Sl Go.Jn
theorem uP{e:Int}{xs:Bs}{a:Option Addr}{c:Nat}(h:lZ xs):Ending.returned (.tuple #[.int .i64 0,.slice none 0 0,.bool false])= .returned (.tuple #[Nx (gW xs),sB (rE a c xs) (bO xs) (qQ c xs),.bool (jU e xs)]):=by
 unfold gW rE bO qQ jU
 simp[h]
theorem aSo{e:Int}{xs:Bs}{a:Option Addr}{c:Nat}(h:¬lZ xs):
  Ending.returned (.tuple #[Nx (rno xs).toNat,sB (rO a c 16 1) (rpl xs) (c-16),.bool (decide (((aXk xs).toNat:Int)=((aCu e ((rno xs).toNat:Int) (rpl xs)).toNat:Int)))])=
  .returned (.tuple #[Nx (gW xs),sB (rE a c xs) (bO xs) (qQ c xs),.bool (jU e xs)]):=by
 unfold gW rE bO qQ jU
 simp only[sB,rB,if_neg h]
 rw[bGt]
theorem aPd{p q:Prop}[Decidable p][Decidable q](h:p↔q):Ending.returned (.bool (decide p))= .returned (.bool (decide q)):=by rw[decide_eq_decide.2 h]
instance tf0:CfC Tryz.prog 138:={}
theorem tf1:Tryz.prog.underlying 3=some (.int .i64):=by kernel_rfl
theorem tf2:Tryz.prog.underlying 172=some (.int .u64):=by kernel_rfl
instance tf3:CfC Tryz.prog 119:={}
instance tf4:ZerC Tryz.prog 172 (.int .u64 (0)):={}
instance tf5:TyC Tryz.prog 172 false 1:={}
instance tf6:TyC Tryz.prog 9 false 1:={}
theorem tf7:Tryz.prog.underlying 9=some .string:=by kernel_rfl
theorem tf8:Tryz.prog.underlying 5=some (.int .u8):=by kernel_rfl
instance tf9:CfC Tryz.prog 142:={}
instance bHk:CfC Tryz.prog 141:={}
instance aXr:UndC Tryz.prog 27 5:={}
theorem jV:mF Tryz.prog 27 5 1=true:=by kernel_rfl
instance aIr:TyC Tryz.prog 5 false 1:={}
instance aNy:ZerC Tryz.prog 5 (.int .u8 (0)):={}
theorem aGp:wS Tryz.prog 5 1 1=true:=by kernel_rfl
instance tf16:CfC Tryz.prog 125:={}
instance aGq:CfC Tryz.prog 92:={}
instance tf18:CfC Tryz.prog 104:={}
instance aTl:CfC Tryz.prog 114:={}
instance tf20:FldC Tryz.prog 29 0 0 1 false:={}
instance tf21:TyC Tryz.prog 27 false 1:={}
instance tf22:FldC Tryz.prog 29 1 1 1 false:={}
instance tf23:FldC Tryz.prog 29 2 2 1 false:={}
instance tf24:FldC Tryz.prog 29 3 3 1 false:={}
instance tf25:TyC Tryz.prog 3 false 1:={}
instance bHl:CfC Tryz.prog 93:={}
instance bHm:ZerC Tryz.prog 148 (.agg #[.pointer none,.pointer none]):={}
instance aEa:ArrC Tryz.prog 148 2 147 1:={}
instance bHn:TyC Tryz.prog 148 true 2:={}
theorem aRm(β:Base)(w:World)(hw:St β [] w)(x:UInt64):oJ Tryz.prog 138 #[Ux x] β w (Ux (aWn x)):=by
 refine enter (n:=17) Tryz.func138 rfl Tryz.ntmps138 rfl ?_ hw
 refine bE (lE bN (eY (lE aX (lE aX ?_))))
 refine lv (v:=Ux (x>>>(30:UInt64))) (wF (a:=((x).toNat:Int)) (b:=((30:Nat):Int)) rfl rfl (by decide) (tK _ 30 (by decide))) ?_
 refine lv (v:=Ux (x^^^(x>>>(30:UInt64)))) (aJo (a:=((x).toNat:Int)) (b:=((x>>>(30:UInt64)).toNat:Int)) rfl rfl (zU _ _)) ?_
 refine lv (v:=Ux ((x^^^(x>>>(30:UInt64)))*(13787848793156543929:UInt64))) (tW (a:=((x^^^(x>>>(30:UInt64))).toNat:Int)) (b:=((13787848793156543929:UInt64).toNat:Int)) rfl rfl (aEg _ _)) ?_
 refine lE bN (eY (lE aX (lE aX ?_)))
 refine lv (v:=Ux (((x^^^(x>>>(30:UInt64)))*(13787848793156543929:UInt64))>>>(27:UInt64))) (wF (a:=(((x^^^(x>>>(30:UInt64)))*(13787848793156543929:UInt64)).toNat:Int)) (b:=((27:Nat):Int)) rfl rfl (by decide) (tK _ 27 (by decide))) ?_
 refine lv (v:=Ux (((x^^^(x>>>(30:UInt64)))*(13787848793156543929:UInt64))^^^(((x^^^(x>>>(30:UInt64)))*(13787848793156543929:UInt64))>>>(27:UInt64)))) (aJo (a:=(((x^^^(x>>>(30:UInt64)))*(13787848793156543929:UInt64)).toNat:Int)) (b:=((((x^^^(x>>>(30:UInt64)))*(13787848793156543929:UInt64))>>>(27:UInt64)).toNat:Int)) rfl rfl (zU _ _)) ?_
 refine lv (v:=Ux ((((x^^^(x>>>(30:UInt64)))*(13787848793156543929:UInt64))^^^(((x^^^(x>>>(30:UInt64)))*(13787848793156543929:UInt64))>>>(27:UInt64)))*(10723151780598845931:UInt64))) (tW (a:=((((x^^^(x>>>(30:UInt64)))*(13787848793156543929:UInt64))^^^(((x^^^(x>>>(30:UInt64)))*(13787848793156543929:UInt64))>>>(27:UInt64))).toNat:Int)) (b:=((10723151780598845931:UInt64).toNat:Int)) rfl rfl (aEg _ _)) ?_
 refine lE bN (eY (lE aX (lE aX ?_)))
 refine lv (v:=Ux (((((x^^^(x>>>(30:UInt64)))*(13787848793156543929:UInt64))^^^(((x^^^(x>>>(30:UInt64)))*(13787848793156543929:UInt64))>>>(27:UInt64)))*(10723151780598845931:UInt64))>>>(31:UInt64))) (wF (a:=(((((x^^^(x>>>(30:UInt64)))*(13787848793156543929:UInt64))^^^(((x^^^(x>>>(30:UInt64)))*(13787848793156543929:UInt64))>>>(27:UInt64)))*(10723151780598845931:UInt64)).toNat:Int)) (b:=((31:Nat):Int)) rfl rfl (by decide) (tK _ 31 (by decide))) ?_
 refine lv (v:=Ux (((((x^^^(x>>>(30:UInt64)))*(13787848793156543929:UInt64))^^^(((x^^^(x>>>(30:UInt64)))*(13787848793156543929:UInt64))>>>(27:UInt64)))*(10723151780598845931:UInt64))^^^(((((x^^^(x>>>(30:UInt64)))*(13787848793156543929:UInt64))^^^(((x^^^(x>>>(30:UInt64)))*(13787848793156543929:UInt64))>>>(27:UInt64)))*(10723151780598845931:UInt64))>>>(31:UInt64)))) (aJo (a:=(((((x^^^(x>>>(30:UInt64)))*(13787848793156543929:UInt64))^^^(((x^^^(x>>>(30:UInt64)))*(13787848793156543929:UInt64))>>>(27:UInt64)))*(10723151780598845931:UInt64)).toNat:Int)) (b:=((((((x^^^(x>>>(30:UInt64)))*(13787848793156543929:UInt64))^^^(((x^^^(x>>>(30:UInt64)))*(13787848793156543929:UInt64))>>>(27:UInt64)))*(10723151780598845931:UInt64))>>>(31:UInt64)).toNat:Int)) rfl rfl (zU _ _)) ?_
 refine lE bN (aN (aT (cZ Tryz.results138 rfl ?_)))
 intro w hw
 exact⟨rfl,aF [] rfl hw⟩
theorem xX(β:Base)(w:World)(hw:St β [] w)(x y:UInt64):oJ Tryz.prog 119 #[Ux x,Ux y] β w (Ux (xW x y)):=by
 refine enter (n:=11) Tryz.func119 rfl Tryz.ntmps119 rfl ?_ hw
 refine bE (lE bN (eY (lE aX ?_)))
 refine lv (v:=Ux (x*(11400714819323198485:UInt64))) (tW (a:=((x).toNat:Int)) (b:=((11400714819323198485:UInt64).toNat:Int)) rfl rfl (aEg _ _)) ?_
 refine lE aX (lv (v:=Ux ((x*(11400714819323198485:UInt64))+y)) (bX rfl rfl (aEf _ _)) ?_)
 refine lv (v:=Ux (((x*(11400714819323198485:UInt64))+y)+(1:UInt64))) (bX rfl rfl (aEf _ _)) ?_
 refine iF iE (fun w β1 sb kn hw1=>aRm β1 w hw1 (((x*(11400714819323198485:UInt64))+y)+(1:UInt64))) (lE bN (aN (aT ?_)))
 refine cZ Tryz.results119 rfl ?_
 intro w hw
 exact⟨rfl,aF [] rfl hw⟩
theorem aEb(β:Base)(w:World)(hw:St β [] w)(t:Int):oJ Tryz.prog 93 #[Ix t] β w (Ux (eR t)):=by
 refine enter (n:=6) Tryz.func93 rfl Tryz.ntmps93 rfl ?_ hw
 refine bE (lE bN (eY (lE aX (lv (v:=Ux (U (t))) (fW (a:=(t)) rfl ⟨_,tf1⟩ tf2 (sT _)) ?_))))
 refine iF iE (fun w β1 sb kn hw1=>xX β1 w hw1 (0:UInt64) (U (t))) (lE bN (aN (aT (cZ Tryz.results93 rfl ?_))))
 intro w hw
 exact⟨rfl,aF [] rfl hw⟩
theorem aGn(β:Base)(w:World)(hw:St β [] w)(v:Value)(xs:List UInt64)(hs:wC Tryz.prog β v (fun x=>[Ux x]) (· =xs)):oJ Tryz.prog 141 #[v] β w (Ux (bBz xs)):=by
 refine aQd (n:=14) Tryz.func141 rfl Tryz.ntmps141 rfl ?_ hw
 refine bE (lE bN (eY (gB fun b1=>lu (mS 0 (#[.int .u64 (0)])) (aN (eS (aC (lv cC (aN (aK ?_)))))))))
 refine aUx (α:=UInt64) (enc:=fun x=>[Ux x]) (S:=(· =xs)) (ps:=[6]) (I:=fun(pre:List (UInt64)) (L:List bU)=>L=[pt b1 (.cells #[Ux (wW 0 pre)] 172)]∧(True)) (X:=fun _ _ _=>False) rfl (hs) (fun _=>rfl) rfl ⟨rfl,trivial⟩ ?_ ?_ ?_
 ·rintro l β1 pre x M ext hpre ⟨rfl,-⟩
  refine aC (lE bN (aH (bI (fun β2 ext2=> ?_))))
  refine aK (aC (lE (cQ 0) ?_))
  refine lv (v:=Ux ((wW 0 pre)*(11400714819323198485:UInt64))) (tW (a:=((wW 0 pre).toNat:Int)) (b:=((11400714819323198485:UInt64).toNat:Int)) rfl rfl (aEg _ _)) ?_
  refine lE aX (lv (v:=Ux (((wW 0 pre)*(11400714819323198485:UInt64))+x)) (bX rfl rfl (aEf _ _)) ?_)
  refine lv (v:=Ux ((((wW 0 pre)*(11400714819323198485:UInt64))+x)+(1:UInt64))) (bX rfl rfl (aEf _ _)) ?_
  refine lu (mS 0 (#[Ux ((((wW 0 pre)*(11400714819323198485:UInt64))+x)+(1:UInt64))])) (aH (aR ?_))
  exact fun a w ha hw=>⟨_,⟨(by rw[aNn];rfl),trivial⟩,hw⟩
 ·rintro D ys M hS ⟨rfl,-⟩
  subst hS
  refine aR (kM (lE (cQ 0) (iF iE (fun w β1 sb kn hw1=>aRm β1 w hw1 (wW 0 ys)) (lE bN (aN (aT ?_))))))
  refine bEj 1 rfl Tryz.results141 (v:=Ux (aWn (wW 0 ys))) rfl ?_
  intro w hw
  exact⟨rfl,aF [false,false] rfl hw⟩
 intro D c pre M h;exact h.elim
theorem aPf(β:Base)(w:World)(hw:St β [] w)(s:ByteArray):Calls Tryz.prog 142 #[.string s] w fun e w'=>∃b,e= .returned (.func (.func 151) #[] #[pp b 0])∧St β [pt b (.cells #[.string s] 9)] w':=by
 refine enter (n:=4) Tryz.func142 rfl Tryz.ntmps142 rfl ?_ hw
 refine bE (dX rfl rfl rfl (yQ (v:= .string (s)) rfl) ?_)
 rintro _ _ ⟨b1,rfl,rfl⟩
 refine lv dY (eY (lv (v:= .func (.func 151) #[] #[pp b1 0]) (mM (u:=[]) (v:=[pp b1 0]) rfl rfl) (lE oaf (aN (aT ?_)))))
 refine cZ Tryz.results142 rfl ?_
 intro w hw
 exact⟨_,rfl,hw⟩
theorem aLu(β:Base)(b:Nat)(s:ByteArray)(hb:Cs β.heap ⟨b,0,none⟩ [.string s])(hs:s.size≤9223372036854775807):wC Tryz.prog β (.func (.func 151) #[] #[pp b 0]) (fun x:UInt64=>[Ux x]) (· =qJ s):=by
 refine⟨151,[],[pp b 0],rfl,by kernel_rfl,fun β₁ ext l J X hY M w hJ hw=> ?_⟩
 have hb1:=Cs.mono _ _ _ _ ext.sub hb
 refine enter (n:=17) Tryz.func151 rfl Tryz.ntmps151 rfl ?_ hw
 refine bE (lv (v:= .string (s)) (bH tf6.ok rfl (kB hb1)) (lv (v:=Nx ((s).size)) (aVj (s:=s) rfl tf7) (lE aX (aN (aK ?_)))))
 refine dB (fun(x_:Nat×List bU) f L=>match x_ with|(k,M)=>(f 0=yfn l∧f 1= .pointer (some (⟨b,0,none⟩))∧f 5=Nx ((s).size)∧f 6=Nx (k))∧L=(M)∧(k≤s.size∧J ((qJ s).take (k)) M)) (fun(k,M)=>s.size-k) (0,M) ?_ ?_
 ·exact⟨⟨rfl,rfl,rfl,rfl⟩,rfl,⟨by omega,by simpa using hJ⟩⟩
 rintro⟨k,M⟩ f0 L0 ⟨⟨hs0,hs1,hs5,hs6⟩,hL,⟨hk,hJ⟩⟩
 subst L0
 refine bM 0 hs0 (bM 1 hs1 (bM 5 hs5 (bM 6 hs6 (bE (lE gH (aN (aL (cG _ rfl (fun hc1=> ?_) (fun hc1=> ?_)))))))))
 ·refine eF (aL (aK (bE (lE aX (lE bN (eY (lv cC (lv (v:= .string (s)) (bH tf6.ok rfl (kB hb1)) (lE aX ?_)))))))))
  obtain⟨c2,hc3⟩:∃c,(s).data.toList[k]? =some c:=⟨_,List.getElem?_eq_getElem (by simp;omega)⟩
  refine lv (v:=Bx (c2)) (aMi (s:=s) (k:=k) (c:=c2) rfl rfl tf7 hc3) ?_
  refine lv (v:=Ux (c2.toUInt64)) (fW (a:=((c2).toNat:Int)) rfl ⟨_,tf8⟩ tf2 (aIv _)) ?_
  refine xG (own:=[]) (M:=M) (d:=14) (enc:=fun x=>[Ux x]) (pre:=(qJ s).take k) (x:=c2.toUInt64) rfl rfl rfl rfl hY (⟨_,rfl,take_prefix (by simp[qJ,hc3])⟩) hJ (fun M1 hJ1=> ?_) (fun M1 hX1=> ?_)
  ·refine lE lX (aN (cY rfl (cD (aR (bD (aC (lv (v:=Nx (k+1)) (bX rfl rfl (dA (by omega) (by omega))) (lE aX (aH ?_)))))))))
   exact bI ⟨(k+1,M1),⟨⟨rfl,rfl,rfl,rfl⟩,rfl,⟨by omega,by rw[iP (a:=c2.toUInt64) (by simp[qJ,hc3])];exact hJ1⟩⟩,(show s.size-(k+1)<s.size-k from by omega)⟩
  refine lE lX (aN (dL rfl (aT (aQ (aI (aI (aQ (aXf Tryz.results151 ?_))))))))
  intro w hw
  exact⟨⟨_,rfl⟩,.inr ⟨_,M1,hX1,aF [] rfl hw⟩⟩
 refine cM (aG (aG (cN (mQ Tryz.results151 ?_))))
 intro w hw
 exact⟨⟨_,rfl⟩,.inl ⟨_,M,rfl,(by rw[List.take_of_length_le (by simp[qJ];omega)]at hJ;exact hJ),aF [] rfl hw⟩⟩
theorem aWr(β:Base)(w:World)(hw:St β [] w)(s:ByteArray)(hs:s.size≤9223372036854775807):oJ Tryz.prog 125 #[.string s] β w (Ux (bBz (qJ s))):=by
 refine enter (n:=6) Tryz.func125 rfl Tryz.ntmps125 rfl ?_ hw
 refine bE (lE bN (eY (lv cC (pN (cK (vs:=[.string (s)]) tf9.ok rfl rfl) rfl fun w β1 sb kn hw1 back=>(aPf β1 w hw1 s).mono ?_))))
 rintro e w' ⟨b1,rfl,hw'⟩
 refine⟨_,rfl,_,back _ _ hw',?_⟩
 refine aW rfl rfl rfl (cK (vs:=[.func (.func 151) #[] #[pp b1 0]]) bHk.ok rfl rfl) ?_
 intro w hw
 obtain⟨β1,sb,kn,hw1,back⟩:=St.frame_all hw
 have hsq:=aLu β1 b1 s (kn _ (bY 0 (cs:= #[.string (s)]) (vs:=[.string (s)]) rfl rfl)) (by omega)
 refine(aGn β1 w hw1 _ (qJ s) hsq).mono ?_
 rintro e w' ⟨rfl,hw'⟩
 refine⟨_,rfl,_,back _ _ hw',?_⟩
 refine lE bN (aN (aT (cZ Tryz.results125 rfl ?_)))
 intro w hw
 exact⟨rfl,aF [false] rfl hw⟩
theorem sD(β:Base)(w:World)(hw:St β [] w)(xs:Bs)(v:Value)(hs:Sl iK β.heap v xs):oJ Tryz.prog 114 #[v] β w (Ux (bS xs)):=by
 obtain⟨va,vc,rfl,vl,vm,ve⟩:=hs.get
 refine enter (n:=19) Tryz.func114 rfl Tryz.ntmps114 rfl ?_ hw
 refine bE (lE bN (eY (lE bN (aN (eS (aC (lE fN (lE gO (lE aX (aN (aK ?_)))))))))))
 refine dB (fun(k:Nat) f L=>(f 3=Ux (nW 0 (xs.take k))∧f 6=sB va xs (vc)∧f 7=Nx (xs.length)∧f 8=Nx (k))∧L=[]∧(k≤xs.length)) (fun k=>xs.length-k) 0 ?_ ?_
 ·exact⟨⟨rfl,rfl,rfl,rfl⟩,rfl,(by omega)⟩
 rintro k f0 L0 ⟨⟨hs3,hs6,hs7,hs8⟩,hL,hk⟩
 subst L0
 refine bM 3 hs3 (bM 6 hs6 (bM 7 hs7 (bM 8 hs8 (bE (lE gH (aN (aL (cG _ rfl (fun hc1=> ?_) (fun hc1=> ?_)))))))))
 ·refine eF (aL (aK (bE ?_)))
  obtain⟨x2,hx3⟩:=kO xs k (by omega)
  obtain⟨ha4,cs5,hc6,rfl⟩:=ve _ _ hx3
  refine lE (sJ jV ha4) (lv (v:=Bx (x2)) (bH aIr.ok rfl (kB hc6)) (lE bN (wU (lE aX ?_))))
  refine lv (v:=Ux ((nW 0 (xs.take k))<<<(8:UInt64))) (aJn (a:=((nW 0 (xs.take k)).toNat:Int)) (b:=((8:Nat):Int)) rfl rfl (by decide) (aUb _ 8 (by decide))) ?_
  refine lE aX (lv (v:=Ux (x2.toUInt64)) (fW (a:=((x2).toNat:Int)) rfl ⟨_,tf8⟩ tf2 (aIv _)) ?_)
  refine lv (v:=Ux (((nW 0 (xs.take k))<<<(8:UInt64))|||x2.toUInt64)) (aVm (a:=(((nW 0 (xs.take k))<<<(8:UInt64)).toNat:Int)) (b:=((x2.toUInt64).toNat:Int)) rfl rfl (bAg _ _)) ?_
  refine lE bN (aH (aR (bD (aC (lv (v:=Nx (k+1)) (bX rfl rfl (dA (by omega) (by omega))) (lE aX (aH ?_)))))))
  exact bI ⟨k+1,⟨⟨(show Ux (((nW 0 (xs.take k))<<<(8:UInt64))|||x2.toUInt64)=Ux (nW 0 (xs.take (k+1))) by rw[iP hx3,aIx]),rfl,rfl,rfl⟩,rfl,(by omega)⟩,(show xs.length-(k+1)<xs.length-k from by omega)⟩
 refine cM (aG (aG (cN (kM (lE aX (lE bN (aN (aT (cZ Tryz.results114 rfl ?_)))))))))
 intro w hw
 rw[List.take_of_length_le (show xs.length≤k by omega)]
 exact⟨rfl,aF [] rfl hw⟩
theorem jX(β:Base)(w:World)(p0:Option Addr)(c0:Nat)(bs:Bs)(n:UInt64)(sz:Nat)(hsz:sz≤8)(hbs:bs.length≤1099511627776)(hw:St β [rB p0 bs c0] w):Calls Tryz.prog 92 #[sB p0 bs c0,Ux n,Nx sz] w fun r w'=>∃p c,r= .returned (sB p (bs++be sz n) c)∧St β [rB p (bs++be sz n) c] w':=by
 refine enter (n:=23) Tryz.func92 rfl Tryz.ntmps92 rfl ?_ hw
 refine bE (lE iT (aN (eS (aC (lE aX (lE omn (lE bN (aN (aK ?_)))))))))
 refine dB (fun(x_:Nat×Bs×Option Addr×Nat) f L=>match x_ with|(r,ys,p,c)=>(f 0=sB p ys c∧f 1=Ux (n)∧f 7=Ix (((r:Nat):Int)-1))∧L=[rB p ys c]∧(r≤sz∧ys++be r n=bs++be sz n)) (fun(r,ys,p,c)=>r) (sz,bs,p0,c0) ?_ ?_
 ·exact⟨⟨rfl,rfl,rfl⟩,rfl,⟨by omega,rfl⟩⟩
 rintro⟨r,ys,p,c⟩ f0 L0 ⟨⟨hs0,hs1,hs7⟩,hL,⟨hr,he⟩⟩
 subst L0
 refine bM 0 hs0 (bM 1 hs1 (bM 7 hs7 ?_))
 have hyl:=congrArg List.length he
 simp only[List.length_append,bT]at hyl
 refine eS (aC (lE aX (lE oge (aN (cG _ rfl (fun hc1=> ?_) (fun hc1=> ?_))))))
 ·refine eF (aL (aK ?_))
  obtain⟨q,hq⟩:∃q,r=q+1:=⟨r-1,by omega⟩
  subst hq
  refine bM 7 (v:=Nx q) (congrArg (Value.int .i64) (by omega)) (aC (lE fN (lE aX (lE aX ?_))))
  refine lv (v:=Nx (8*q)) (tW (a:=(8:Int)) (b:=((q:Nat):Int)) rfl rfl (dA (by omega) (by omega))) ?_
  refine lv (v:=Ux (n>>>UInt64.ofNat (8*q))) (wF (a:=((n).toNat:Int)) (b:=((8*q:Nat):Int)) rfl rfl (by omega) (tK _ (8*q) (by omega))) ?_
  refine lv (v:=Bx ((n>>>UInt64.ofNat (8*q)).toUInt8)) (fW (a:=((n>>>UInt64.ofNat (8*q)).toNat:Int)) rfl ⟨_,tf2⟩ tf8 (aCp _)) ?_
  refine dX rfl rfl rfl (dO jV aNy.ok (cells:= #[Bx ((n>>>UInt64.ofNat (8*q)).toUInt8)]) rfl rfl rfl rfl) ?_
  rintro _ _ ⟨b2,rfl,rfl⟩
  refine dX rfl rfl rfl (mD (enc:=fun c:UInt8=>Bx c) 1 rQ jV aGp (v:=sB p ys c) (xs:=ys) (ys:=[((n>>>UInt64.ofNat (8*q)).toUInt8)]) (ao:=some ⟨b2,0,none⟩) (c:=1) rfl rfl (by first|rfl|simp) rfl (by first|rfl|simp) (aKa 0 (xs:=[((n>>>UInt64.ofNat (8*q)).toUInt8)]) rfl) (by first|omega|(simp only[List.length_append,List.length_nil,List.length_cons,bT]at*;omega)) (by first|omega|(simp only[List.length_append,List.length_nil,List.length_cons,bT]at*;omega))) ?_
  rintro _ _ ⟨rp3,rc4,rfl,rfl⟩
  refine lE iT (aH (aR (bD (aC (lE aX (lE omn (lE bN (aH (dM [false,true] rfl ?_)))))))))
  exact bI ⟨(q,(ys++[(n>>>UInt64.ofNat (8*q)).toUInt8]),rp3,rc4),⟨⟨rfl,rfl,(congrArg (Value.int .i64) (by omega))⟩,rfl,⟨by omega,by rw[←he];simp[be]⟩⟩,(show q<q+1 from Nat.lt_succ_self q)⟩
 refine cM (aG (aG (cN (kM (lE fN (lE iT (aN (aT (cZ Tryz.results92 rfl ?_)))))))))
 intro w hw
 have hz:r=0:=by omega
 subst hz
 have he:ys=bs++be sz n:=by simpa[be]using he
 subst he
 exact⟨_,_,rfl,aF [true] rfl hw⟩
theorem pP(β:Base)(w:World)(hw:St β [] w)(n:UInt64)(sz:Nat)(hsz:sz≤8):Calls Tryz.prog 92 #[.slice none 0 0,Ux n,Nx sz] w fun r w'=>∃p c,r= .returned (sB p (be sz n) c)∧St β [rB p (be sz n) c] w':=by
 exact jX β w none 0 [] n sz hsz (by simp) (hw.emp (eG _ _ _))
theorem aEw(β:Base)(w:World)(hw:St β [] w)(e n:Int)(xs:Bs)(v:Value)(hs:Sl iK β.heap v xs):oJ Tryz.prog 104 #[Ix e,Ix n,v] β w (Ux (aCu e n xs)):=by
 obtain⟨va,vc,rfl,vl,vm,ve⟩:=hs.get
 refine enter (n:=16) Tryz.func104 rfl Tryz.ntmps104 rfl ?_ hw
 refine bE (lE bN (eY (lE fN ?_)))
 refine lv (v:= .string (str xs)) (aHm (a:=va) (bs:=xs) (m:=xs.length) (c:=vc) rfl (by first|rfl|simp) aXr.ok tf8 tf7 (bF.of_base (cX.mono _ _ _) ve)) ?_
 refine iF iE (fun w β1 sb kn hw1=>aWr β1 w hw1 (str xs) (show(xs.length:Nat)≤_ by omega)) (lE aX ?_)
 refine lv (v:=Ux (U (n))) (fW (a:=(n)) rfl ⟨_,tf1⟩ tf2 (sT _)) (iF iE (fun w β1 sb kn hw1=>xX β1 w hw1 (aRs xs) (U (n))) ?_)
 refine lE aX (lv (v:=Ux (U (e))) (fW (a:=(e)) rfl ⟨_,tf1⟩ tf2 (sT _)) ?_)
 refine iF iE (fun w β1 sb kn hw1=>xX β1 w hw1 (xW (aRs xs) (U (n))) (U (e))) (lE bN (aN (aT (cZ Tryz.results104 rfl ?_))))
 intro w hw
 exact⟨rfl,aF [] rfl hw⟩
theorem xE(β:Base)(w:World)(hw:St β [] w)(e n:Int)(xs:Bs)(v:Value)(hx:xs.length≤1048576)(hs:Sl iK β.heap v xs):Calls Tryz.prog 61 #[Ix e,Ix n,v] w fun r w'=>∃p c,r= .returned (sB p (bP e n xs) c)∧St β [rB p (bP e n xs) c] w':=by
 obtain⟨va,vc,rfl,vl,vm,ve⟩:=hs.get
 refine enter (n:=29) Tryz.func61 rfl Tryz.ntmps61 rfl ?_ hw
 refine bE (lE iT (eY (lE fN (lE gO ?_))))
 refine lv (v:=Ux (U ((xs.length:Nat):Int))) (fW (a:=((xs.length:Nat):Int)) rfl ⟨_,tf1⟩ tf2 (sT _)) (lE bN (eY (lE aX ?_)))
 refine pN (cK (vs:=[.slice none 0 0,Ux (U ((xs.length:Nat):Int)),.int .i64 (4)]) aGq.ok rfl rfl) rfl fun w β1 sb kn hw1 back=>(pP β1 w hw1 (U ((xs.length:Nat):Int)) 4 (by decide)).mono ?_
 rintro e w' ⟨p1,c2,rfl,hw'⟩
 refine⟨_,rfl,_,back _ _ hw',?_⟩
 refine lE aX (lv (v:=Ux (~~~(U ((xs.length:Nat):Int)))) (aVk (a:=U ((xs.length:Nat):Int)) rfl) ?_)
 refine aW rfl rfl rfl (cK (vs:=[sB p1 (be 4 (U ((xs.length:Nat):Int))) c2,Ux (~~~(U ((xs.length:Nat):Int))),.int .i64 (4)]) aGq.ok rfl rfl) ?_
 intro w hw
 obtain⟨β1,sb,kn,hw1,back⟩:=St.frame (L:=[_]) (M:=[]) hw
 refine(jX β1 w _ _ (be 4 (U ((xs.length:Nat):Int))) (~~~(U ((xs.length:Nat):Int))) 4 (by decide) (by simp only[List.length_append,bT];omega) hw1).mono ?_
 rintro e w' ⟨p3,c4,rfl,hw'⟩
 refine⟨_,rfl,_,back _ _ hw',?_⟩
 refine lE iT (eY (lE fN (lE aX (lv (v:=Ux (U (n))) (fW (a:=(n)) rfl ⟨_,tf1⟩ tf2 (sT _)) ?_))))
 refine aW rfl rfl rfl (cK (vs:=[sB p3 ((be 4 (U ((xs.length:Nat):Int)))++be 4 (~~~(U ((xs.length:Nat):Int)))) c4,Ux (U (n)),.int .i64 (8)]) aGq.ok rfl rfl) ?_
 intro w hw
 obtain⟨β1,sb,kn,hw1,back⟩:=St.frame (L:=[_]) (M:=[]) hw
 refine(jX β1 w _ _ ((be 4 (U ((xs.length:Nat):Int)))++be 4 (~~~(U ((xs.length:Nat):Int)))) (U (n)) 8 (by decide) (by simp only[List.length_append,bT];omega) hw1).mono ?_
 rintro e w' ⟨p5,c6,rfl,hw'⟩
 refine⟨_,rfl,_,back _ _ hw',?_⟩
 refine lE fN ?_
 refine dX rfl rfl rfl (mD (enc:=fun c:UInt8=>Bx c) 0 rQ jV aGp (v:=sB p5 (((be 4 (U ((xs.length:Nat):Int)))++be 4 (~~~(U ((xs.length:Nat):Int))))++be 8 (U (n))) c6) (xs:=((be 4 (U ((xs.length:Nat):Int)))++be 4 (~~~(U ((xs.length:Nat):Int))))++be 8 (U (n))) (ys:=xs) (ao:=va) (c:=vc) rfl rfl (by first|rfl|simp) rfl (by first|rfl|simp) (bF.of_base (cX.mono _ _ _) ve) (by first|omega|(simp only[List.length_append,List.length_nil,List.length_cons,bT]at*;omega)) (by first|omega|(simp only[List.length_append,List.length_nil,List.length_cons,bT]at*;omega))) ?_
 rintro _ _ ⟨rp7,rc8,rfl,rfl⟩
 refine lE iT (eY (lE fN (lE aX (lE aX (lE fN ?_)))))
 refine iF iE (fun w β1 sb kn hw1=>aEw β1 w hw1 (e) (n) xs _ (Sl.mono _ _ _ _ _ sb (⟨⟨_,_,rfl,vl,vm,ve⟩⟩:Sl iK _ _ xs))) ?_
 refine aW rfl rfl rfl (cK (vs:=[sB rp7 ((((be 4 (U ((xs.length:Nat):Int)))++be 4 (~~~(U ((xs.length:Nat):Int))))++be 8 (U (n)))++xs) rc8,Ux (aCu (e) (n) xs),.int .i64 (8)]) aGq.ok rfl rfl) ?_
 intro w hw
 obtain⟨β1,sb,kn,hw1,back⟩:=St.frame (L:=[_]) (M:=[]) hw
 refine(jX β1 w _ _ ((((be 4 (U ((xs.length:Nat):Int)))++be 4 (~~~(U ((xs.length:Nat):Int))))++be 8 (U (n)))++xs) (aCu (e) (n) xs) 8 (by decide) (by simp only[List.length_append,bT];omega) hw1).mono ?_
 rintro e w' ⟨p9,c10,rfl,hw'⟩
 refine⟨_,rfl,_,back _ _ hw',?_⟩
 refine lE iT (aN (aT (cZ Tryz.results61 rfl ?_)))
 intro w hw
 exact⟨_,_,rfl,aF [true] rfl hw⟩
theorem lF(β:Base)(w:World)(hw:St β [] w)(xs:Bs)(v:Value)(hx:xs.length≤1048576)(hs:Sl iK β.heap v xs):Calls Tryz.prog 66 #[v] w fun r w'=>∃p c,r= .returned (sB p xs c)∧St β [rB p xs c] w':=by
 obtain⟨va,vc,rfl,vl,vm,ve⟩:=hs.get
 refine enter (n:=8) Tryz.func66 rfl Tryz.ntmps66 rfl ?_ hw
 refine bE (lE iT (aN (eS ?_)))
 cases va with
 |none=>
  have hxs:xs=[]:=by cases xs with|nil=>rfl|cons a l=>exact absurd (sY ve (by simp)) (by simp)
  subst hxs
  refine aC (lE fN (lv (v:= .bool true) (pT (a:=none) rfl rfl aXr.ok) (aN (dL rfl (bE (lE iT (aN (aT (aI ?_)))))))))
  refine cZ Tryz.results66 rfl ?_
  intro w hw
  exact⟨none,0,rfl,hw.emp (eG _ _ _)⟩
 |some ad=>
  refine aC (lE fN (lv (v:= .bool false) (pT (a:=(some ad)) rfl rfl aXr.ok) (aN (cY rfl (eF (bE ?_))))))
  refine dX rfl rfl rfl (oW jV) ?_
  rintro _ _ ⟨b1,rfl,rfl⟩
  refine lE fN (oT 0 (r':=row (.slice (some ⟨b1,0,none⟩) 0 0) 5 1 0 (BX [])) rfl (fun a h=>aDn (m:=0) (by decide) rfl a h) ?_)
  refine dX rfl rfl rfl (mD (enc:=fun c:UInt8=>Bx c) 0 rQ jV aGp (v:= .slice (some ⟨b1,0,none⟩) 0 0) (xs:=[]) (ys:=xs) (ao:=(some ad)) (c:=vc) rfl rfl (by first|rfl|simp) rfl (by first|rfl|simp) (bF.of_base (cX.mono _ _ _) ve) (by first|omega|(simp only[List.length_append,List.length_nil,List.length_cons,bT]at*;omega)) (by first|omega|(simp only[List.length_append,List.length_nil,List.length_cons,bT]at*;omega))) ?_
  rintro _ _ ⟨rp2,rc3,rfl,rfl⟩
  refine lE iT (aN (aT (cZ Tryz.results66 rfl ?_)))
  intro w hw
  exact⟨_,_,rfl,aF [true] rfl hw⟩
theorem vX(β:Base)(w:World)(hw:St β [] w)(e:Int)(xs:Bs)(a:Option Addr)(c:Nat)(hl:xs.length≤c)(hm:c≤9223372036854775807)(he:cX iK β.heap a xs):oJ Tryz.prog 83 #[Ix e,sB a xs c] β w (.tuple #[Nx (gW xs),sB (rE a c xs) (bO xs) (qQ c xs),.bool (jU e xs)]):=by
 refine enter (n:=68) Tryz.func83 rfl Tryz.ntmps83 rfl ?_ hw
 refine bE (lE bN (lE iT (lE dW (aN (eS (aC (lE fN (lE gO (lE gH (aN (cG _ rfl (fun hc1=> ?_) (fun hc1=> ?_))))))))))))
 ·refine bE (lE bN (lE iT (lE dW (aN (aT (aI ?_))))))
  refine aNk (v:= .int .i64 (0)) (v':= .slice none 0 0) (v'':= .bool false) Tryz.results83 rfl rfl rfl ?_
  intro w hw
  exact⟨uP (.inl hc1),aF [] rfl hw⟩
 refine eF (aL (gK (by kernel_rfl) (by kernel_rfl) (qE fN ?_)))
 obtain⟨zs2,hz3⟩:∃zs,zs=(xs.take 4):=⟨_,rfl⟩
 have zl4:zs2.length=min 4 (xs).length-0:=by rw[hz3];simp;try omega
 have ze5:=(cX.take 4 he)
 rw[←hz3]at ze5
 refine dQ (v:= .slice a (zs2.length) (c)) rfl rfl rfl (fI (by rw[show zs2.length=4 by omega]) (mP (a:=a) (len:=xs.length) (cap:=c) (h:=4) jV rfl rfl (by omega))) ?_
 refine kX (v:=Ux (bS zs2)) rfl rfl rfl (cK (vs:=[sB a zs2 (c)]) aTl.ok rfl rfl) (fun w hw=> ?_) ?_
 ·obtain⟨β1,sb,kn,hw1,back⟩:=St.frame_all hw
  exact(sD β1 w hw1 zs2 _ (Sl.mono _ _ _ _ _ sb (⟨⟨_,_,rfl,by omega,by omega,ze5⟩⟩:Sl iK _ _ zs2))).mono (fun e w' ⟨he,hw'⟩=>⟨he,aF [] rfl (back _ _ hw')⟩)
 refine qE fN ?_
 obtain⟨zs6,hz7⟩:∃zs,zs=((xs.take 8).drop 4):=⟨_,rfl⟩
 have zl8:zs6.length=min 8 (xs).length-4:=by rw[hz7];simp;try omega
 have ze9:=(cX.drop (cap:=c) 4 (by first|omega|(simp;omega)) (cX.take 8 he))
 rw[←hz7]at ze9
 refine dQ (v:= .slice (rO a c 4 1) (zs6.length) ((c-4))) rfl rfl rfl (fI (by rw[show zs6.length=8-4 by omega]) (kT (a:=a) (len:=xs.length) (cap:=c) (l:=4) (h:=8) jV rfl rfl rfl (by omega) (by omega))) ?_
 refine kX (v:=Ux (bS zs6)) rfl rfl rfl (cK (vs:=[sB (rO a c 4 1) zs6 ((c-4))]) aTl.ok rfl rfl) (fun w hw=> ?_) ?_
 ·obtain⟨β1,sb,kn,hw1,back⟩:=St.frame_all hw
  exact(sD β1 w hw1 zs6 _ (Sl.mono _ _ _ _ _ sb (⟨⟨_,_,rfl,by omega,by omega,ze9⟩⟩:Sl iK _ _ zs6))).mono (fun e w' ⟨he,hw'⟩=>⟨he,aF [] rfl (back _ _ hw')⟩)
 refine qE fN ?_
 obtain⟨zs10,hz11⟩:∃zs,zs=((xs.take 16).drop 8):=⟨_,rfl⟩
 have zl12:zs10.length=min 16 (xs).length-8:=by rw[hz11];simp;try omega
 have ze13:=(cX.drop (cap:=c) 8 (by first|omega|(simp;omega)) (cX.take 16 he))
 rw[←hz11]at ze13
 refine dQ (v:= .slice (rO a c 8 1) (zs10.length) ((c-8))) rfl rfl rfl (fI (by rw[show zs10.length=16-8 by omega]) (kT (a:=a) (len:=xs.length) (cap:=c) (l:=8) (h:=16) jV rfl rfl rfl (by omega) (by omega))) ?_
 refine kX (v:=Ux (bS zs10)) rfl rfl rfl (cK (vs:=[sB (rO a c 8 1) zs10 ((c-8))]) aTl.ok rfl rfl) (fun w hw=> ?_) ?_
 ·obtain⟨β1,sb,kn,hw1,back⟩:=St.frame_all hw
  exact(sD β1 w hw1 zs10 _ (Sl.mono _ _ _ _ _ sb (⟨⟨_,_,rfl,by omega,by omega,ze13⟩⟩:Sl iK _ _ zs10))).mono (fun e w' ⟨he,hw'⟩=>⟨he,aF [] rfl (back _ _ hw')⟩)
 refine qE bN (qE bN (qE bN (kS (rT (bE (lE aX (lE aX ?_)))))))
 refine lv (v:=Ux ((bS zs2)^^^(bS zs6))) (aJo (a:=((bS zs2).toNat:Int)) (b:=((bS zs6).toNat:Int)) rfl rfl (zU _ _)) ?_
 refine lE lC (lE fJ (eJ (s:=28) rfl (fun hg14=> ?_) (fun hg14=> ?_)))
 ·refine iG (iG (lE eC (lE fJ ?_)))
  iterate 6 refine iG ?_
  refine lE eC (lE fJ (iG (iG (lE eC (aN (dL rfl (bE (lE bN (lE iT (lE dW (aN (aT (aI ?_)))))))))))))
  refine aNk (v:= .int .i64 (0)) (v':= .slice none 0 0) (v'':= .bool false) Tryz.results83 rfl rfl rfl ?_
  intro w hw
  subst hz3
  subst hz7
  subst hz11
  exact⟨uP (.inr (.inl hg14)),aF [] rfl hw⟩
 refine gE aX (gE oG (lE dP (lE fJ (eJ (s:=32) rfl (fun hg15=> ?_) (fun hg15=> ?_)))))
 ·iterate 6 refine iG ?_
  refine lE eC (lE fJ (iG (iG (lE eC (aN (dL rfl (bE (lE bN (lE iT (lE dW (aN (aT (aI ?_)))))))))))))
  refine aNk (v:= .int .i64 (0)) (v':= .slice none 0 0) (v'':= .bool false) Tryz.results83 rfl rfl rfl ?_
  intro w hw
  subst hz3
  subst hz7
  subst hz11
  exact⟨uP (.inr (.inr (.inl hg15))),aF [] rfl hw⟩
 refine gE aX ?_
 refine cL (v:=Nx ((bS zs2).toNat)) rfl rfl rfl rfl rfl (fW (a:=((bS zs2).toNat:Int)) rfl ⟨_,tf2⟩ tf1 (dA rfl (by omega))) ?_
 refine gE fN (gE gO (gE omn (gE oG (lE dP (lE fJ (eJ (s:=40) rfl (fun hg16=> ?_) (fun hg16=> ?_)))))))
 ·refine iG (iG (lE eC (aN (dL rfl (bE (lE bN (lE iT (lE dW (aN (aT (aI ?_)))))))))))
  refine aNk (v:= .int .i64 (0)) (v':= .slice none 0 0) (v'':= .bool false) Tryz.results83 rfl rfl rfl ?_
  intro w hw
  subst hz3
  subst hz7
  subst hz11
  exact⟨uP (.inr (.inr (.inr (.inl hg16)))),aF [] rfl hw⟩
 refine gE aX (gE oG (lE dP (aN (cG _ rfl (fun hc17=> ?_) (fun hc17=> ?_)))))
 ·refine bE (lE bN (lE iT (lE dW (aN (aT (aI ?_))))))
  refine aNk (v:= .int .i64 (0)) (v':= .slice none 0 0) (v'':= .bool false) Tryz.results83 rfl rfl rfl ?_
  intro w hw
  subst hz3
  subst hz7
  subst hz11
  exact⟨uP (.inr (.inr (.inr (.inr hc17)))),aF [] rfl hw⟩
 refine eF (bE (lE fN (lE aX (lv (v:=Nx ((bS zs2).toNat)) (fW (a:=((bS zs2).toNat:Int)) rfl ⟨_,tf2⟩ tf1 (dA rfl (by omega))) ?_))))
 refine lv (v:=Nx (16+((bS zs2).toNat))) (bX rfl rfl (dA (by omega) (by omega))) ?_
 obtain⟨zs18,hz19⟩:∃zs,zs=((xs.take (16+((bS zs2).toNat))).drop 16):=⟨_,rfl⟩
 have zl20:zs18.length=min (16+((bS zs2).toNat)) (xs).length-16:=by rw[hz19];simp;try omega
 have ze21:=(cX.drop (cap:=c) 16 (by first|omega|(simp;omega)) (cX.take (16+((bS zs2).toNat)) he))
 rw[←hz19]at ze21
 refine lv (v:= .slice (rO a c 16 1) (zs18.length) ((c-16))) (fI (by rw[show zs18.length=(16+((bS zs2).toNat))-16 by omega]) (kT (a:=a) (len:=xs.length) (cap:=c) (l:=16) (h:=16+((bS zs2).toNat)) jV rfl rfl rfl (by omega) (by omega))) ?_
 refine lE iT (eY (lE fN (lE aX ?_)))
 refine lv (v:=Nx ((bS zs2).toNat)) (fW (a:=((bS zs2).toNat:Int)) rfl ⟨_,tf2⟩ tf1 (dA rfl (by omega))) ?_
 refine lv (v:=Nx (16+((bS zs2).toNat))) (bX rfl rfl (dA (by omega) (by omega))) (lE aX ?_)
 refine lv (v:=Nx ((bS zs2).toNat)) (fW (a:=((bS zs2).toNat:Int)) rfl ⟨_,tf2⟩ tf1 (dA rfl (by omega))) ?_
 refine lv (v:=Nx (24+((bS zs2).toNat))) (bX rfl rfl (dA (by omega) (by omega))) ?_
 obtain⟨zs22,hz23⟩:∃zs,zs=((xs.take (24+((bS zs2).toNat))).drop (16+((bS zs2).toNat))):=⟨_,rfl⟩
 have zl24:zs22.length=min (24+((bS zs2).toNat)) (xs).length-(16+((bS zs2).toNat)):=by rw[hz23];simp;try omega
 have ze25:=(cX.drop (cap:=c) (16+((bS zs2).toNat)) (by first|omega|(simp;omega)) (cX.take (24+((bS zs2).toNat)) he))
 rw[←hz23]at ze25
 refine lv (v:= .slice (rO a c (16+((bS zs2).toNat)) 1) (zs22.length) ((c-(16+((bS zs2).toNat))))) (fI (by rw[show zs22.length=(24+((bS zs2).toNat))-(16+((bS zs2).toNat)) by omega]) (kT (a:=a) (len:=xs.length) (cap:=c) (l:=16+((bS zs2).toNat)) (h:=24+((bS zs2).toNat)) jV rfl rfl rfl (by omega) (by omega))) ?_
 refine iF iE (fun w β1 sb kn hw1=>sD β1 w hw1 zs22 _ (Sl.mono _ _ _ _ _ sb (⟨⟨_,_,rfl,by omega,by omega,ze25⟩⟩:Sl iK _ _ zs22))) ?_
 refine lE bN (eY (lE aX (lv (v:=Nx ((bS zs10).toNat)) (fW (a:=((bS zs10).toNat:Int)) rfl ⟨_,tf2⟩ tf1 (dA rfl (by omega))) ?_)))
 refine lE fN (lE aX (lE aX (lE aX ?_)))
 refine lv (v:=Nx ((bS zs10).toNat)) (fW (a:=((bS zs10).toNat:Int)) rfl ⟨_,tf2⟩ tf1 (dA rfl (by omega))) (lE fN ?_)
 refine iF iE (fun w β1 sb kn hw1=>aEw β1 w hw1 (e) (((bS zs10).toNat:Nat):Int) zs18 _ (Sl.mono _ _ _ _ _ sb (⟨⟨_,_,rfl,by omega,by omega,ze21⟩⟩:Sl iK _ _ zs18))) ?_
 refine lE eZ (lE bN (lE iT (lE dW (aN (aT ?_)))))
 refine aNk (v:=Nx ((bS zs10).toNat)) (v':=sB (rO a c 16 1) zs18 ((c-16))) (v'':= .bool (decide (((bS zs22).toNat:Int)=((aCu (e) (((bS zs10).toNat:Nat):Int) zs18).toNat:Int)))) Tryz.results83 rfl rfl rfl ?_
 intro w hw
 subst hz3
 subst hz7
 subst hz11
 subst hz19
 subst hz23
 have hok:¬lZ xs:=by
  rintro(q|q|q|q|q)
  ·exact hc1 q
  ·exact hg14 q
  ·exact hg15 q
  ·exact hg16 q
  ·exact hc17 q
 exact⟨aSo hok,aF [] rfl hw⟩
theorem aUc(β:Base)(w:World)(hw:St β [] w)(k:KS)(vh va vb:Value)(hH:Sl iK β.heap vh k.head)(hA:Sl iK β.heap va k.a)(hB:Sl iK β.heap vb k.b):oJ Tryz.prog 81 #[.agg #[vh,va,vb,Ix k.power]] β w (.bool (decide k.okP)):=by
 obtain⟨vha,vhc,rfl,vhl,vhm,vhe⟩:=hH.get
 obtain⟨vaa,vac,rfl,val,vam,vae⟩:=hA.get
 obtain⟨vba,vbc,rfl,vbl,vbm,vbe⟩:=hB.get
 refine enter (n:=30) Tryz.func81 rfl Tryz.ntmps81 rfl ?_ hw
 refine bE (mA fun b1=> ?_)
 refine lE dW (eY (lE aY (lE (fR 0) (lE gO (lE eZ (lE fJ (eJ (s:=7) rfl (fun hg2=> ?_) (fun hg2=> ?_))))))))
 ·refine iG (iG (iG (iG (lE eC (lE fJ (gE aY (gE (fR 0) (gE gO (gE ole (lE eC (lE fJ ?_)))))))))))
  refine eJ (s:=19) rfl (fun hg3=> ?_) (fun hg3=> ?_)
  ·refine gE aY (gE (fR 0) (gE gO (gE ole (lE eC (lE fJ (eJ (s:=25) rfl (fun hg4=> ?_) (fun hg4=> ?_)))))))
   ·refine gE aY (gE (cQ 0) (gE oge (lE eC (lE dW (aN (aT (cZ Tryz.results81 rfl ?_)))))))
    intro w hw
    exact⟨aPd (by unfold KS.okP;omega),aF [false] rfl hw⟩
   refine iG (iG (iG (lE dP (lE dW (aN (aT (cZ Tryz.results81 rfl ?_)))))))
   intro w hw
   exact⟨xU (by unfold KS.okP;omega),aF [false] rfl hw⟩
  refine iG (iG (iG (iG (lE dP (lE fJ (iG (iG (iG (lE dP (lE dW (aN (aT (cZ Tryz.results81 rfl ?_)))))))))))))
  intro w hw
  exact⟨xU (by unfold KS.okP;omega),aF [false] rfl hw⟩
 refine gE aY (gE (fR 0) (gE gO (gE eZ (lE dP (lE fJ (eJ (s:=13) rfl (fun hg5=> ?_) (fun hg5=> ?_)))))))
 ·refine gE aY (gE (fR 0) (gE gO (gE ole (lE eC (lE fJ (eJ (s:=19) rfl (fun hg6=> ?_) (fun hg6=> ?_)))))))
  ·refine gE aY (gE (fR 0) (gE gO (gE ole (lE eC (lE fJ (eJ (s:=25) rfl (fun hg7=> ?_) (fun hg7=> ?_)))))))
   ·refine gE aY (gE (cQ 0) (gE oge (lE eC (lE dW (aN (aT (cZ Tryz.results81 rfl ?_)))))))
    intro w hw
    exact⟨aPd (by unfold KS.okP;omega),aF [false] rfl hw⟩
   refine iG (iG (iG (lE dP (lE dW (aN (aT (cZ Tryz.results81 rfl ?_)))))))
   intro w hw
   exact⟨xU (by unfold KS.okP;omega),aF [false] rfl hw⟩
  refine iG (iG (iG (iG (lE dP (lE fJ (iG (iG (iG (lE dP (lE dW (aN (aT (cZ Tryz.results81 rfl ?_)))))))))))))
  intro w hw
  exact⟨xU (by unfold KS.okP;omega),aF [false] rfl hw⟩
 refine iG (iG (iG (iG (lE dP (lE fJ (iG (iG (iG (iG (lE dP (lE fJ (iG (iG (iG (lE dP (lE dW (aN (aT ?_))))))))))))))))))
 refine cZ Tryz.results81 rfl ?_
 intro w hw
 exact⟨xU (by unfold KS.okP;omega),aF [false] rfl hw⟩
theorem aQe(β:Base)(w:World)(hw:St β [] w)(xs:Bs)(v:Value)(hx:xs.length≤4294967296)(hs:Sl iK β.heap v xs):oJ Tryz.prog 82 #[v] β w (Nx (bL xs)):=by
 obtain⟨va,vc,rfl,vl,vm,ve⟩:=hs.get
 refine enter (n:=52) Tryz.func82 rfl Tryz.ntmps82 rfl ?_ hw
 refine bE (lv dY (eY (lv dY (aN (eS (aC (lv dY (aN (aK ?_)))))))))
 refine dB (fun(j:Nat) f L=>(f 0=sB va xs (vc)∧f 3=Ux (eO xs j)∧f 4=Nx (j*16))∧L=[]∧(j*16≤xs.length)) (fun j=>xs.length-j*16) 0 ?_ ?_
 ·exact⟨⟨rfl,rfl,rfl⟩,rfl,(by omega)⟩
 rintro j f0 L0 ⟨⟨hs0,hs3,hs4⟩,hL,hj⟩
 subst L0
 refine bM 0 hs0 (bM 3 hs3 (bM 4 hs4 ?_))
 have hlt:=vN xs j
 refine eS (aC (lv cC (lv (v:=Nx ((j*16)+16)) (bX rfl rfl (dA (by omega) (by omega))) (lv cC ?_))))
 refine lv (v:=Nx (xs.length)) (aZf rfl aXr.ok) (lv (aZg rfl rfl) (aN (cG _ rfl (fun hc1=> ?_) (fun hc1=> ?_))))
 ·refine eF (aL (aK (aL (gK (by kernel_rfl) (by kernel_rfl) (dQ (v:=sB va xs (vc)) rfl rfl rfl cC ?_)))))
  refine dQ (v:=Nx (j*16)) rfl rfl rfl cC (dQ (v:=Nx (j*16)) rfl rfl rfl cC ?_)
  refine dQ (v:=Nx ((j*16)+8)) rfl rfl rfl (bX rfl rfl (dA (by omega) (by omega))) ?_
  obtain⟨zs2,hz3⟩:∃zs,zs=((xs.take ((j*16)+8)).drop (j*16)):=⟨_,rfl⟩
  have zl4:zs2.length=min ((j*16)+8) (xs).length-(j*16):=by rw[hz3];simp;try omega
  have ze5:=(cX.drop (cap:=vc) (j*16) (by first|omega|(simp;omega)) (cX.take ((j*16)+8) ve))
  rw[←hz3]at ze5
  refine dQ (v:= .slice (rO va vc (j*16) 1) (zs2.length) ((vc-(j*16)))) rfl rfl rfl (fI (by rw[show zs2.length=((j*16)+8)-(j*16) by omega]) (kT (a:=va) (len:=xs.length) (cap:=vc) (l:=j*16) (h:=(j*16)+8) jV rfl rfl rfl (by omega) (by omega))) ?_
  refine kX (v:=Ux (bS zs2)) rfl rfl rfl (cK (vs:=[sB (rO va vc (j*16) 1) zs2 ((vc-(j*16)))]) aTl.ok rfl rfl) (fun w hw=> ?_) ?_
  ·obtain⟨β1,sb,kn,hw1,back⟩:=St.frame_all hw
   exact(sD β1 w hw1 zs2 _ (Sl.mono _ _ _ _ _ sb (⟨⟨_,_,rfl,by omega,by omega,ze5⟩⟩:Sl iK _ _ zs2))).mono (fun e w' ⟨he,hw'⟩=>⟨he,aF [] rfl (back _ _ hw')⟩)
  refine dQ (v:=sB va xs (vc)) rfl rfl rfl cC (dQ (v:=Nx (j*16)) rfl rfl rfl cC ?_)
  refine dQ (v:=Nx ((j*16)+8)) rfl rfl rfl (bX rfl rfl (dA (by omega) (by omega))) (dQ (v:=Nx (j*16)) rfl rfl rfl cC ?_)
  refine dQ (v:=Nx ((j*16)+16)) rfl rfl rfl (bX rfl rfl (dA (by omega) (by omega))) ?_
  obtain⟨zs6,hz7⟩:∃zs,zs=((xs.take ((j*16)+16)).drop ((j*16)+8)):=⟨_,rfl⟩
  have zl8:zs6.length=min ((j*16)+16) (xs).length-((j*16)+8):=by rw[hz7];simp;try omega
  have ze9:=(cX.drop (cap:=vc) ((j*16)+8) (by first|omega|(simp;omega)) (cX.take ((j*16)+16) ve))
  rw[←hz7]at ze9
  refine dQ (v:= .slice (rO va vc ((j*16)+8) 1) (zs6.length) ((vc-((j*16)+8)))) rfl rfl rfl (fI (by rw[show zs6.length=((j*16)+16)-((j*16)+8) by omega]) (kT (a:=va) (len:=xs.length) (cap:=vc) (l:=(j*16)+8) (h:=(j*16)+16) jV rfl rfl rfl (by omega) (by omega))) ?_
  refine kX (v:=Ux (bS zs6)) rfl rfl rfl (cK (vs:=[sB (rO va vc ((j*16)+8) 1) zs6 ((vc-((j*16)+8)))]) aTl.ok rfl rfl) (fun w hw=> ?_) ?_
  ·obtain⟨β1,sb,kn,hw1,back⟩:=St.frame_all hw
   exact(sD β1 w hw1 zs6 _ (Sl.mono _ _ _ _ _ sb (⟨⟨_,_,rfl,by omega,by omega,ze9⟩⟩:Sl iK _ _ zs6))).mono (fun e w' ⟨he,hw'⟩=>⟨he,aF [] rfl (back _ _ hw')⟩)
  refine dQ (v:=Ux (bS zs2)) rfl rfl rfl dY (dQ (v:=Ux (bS zs6)) rfl rfl rfl dY (kS (kM (lv cC (lv cC ?_)))))
  refine lv (aZe rfl rfl) (lv cC (eJ (s:=30) rfl (fun hg10=> ?_) (fun hg10=> ?_)))
  ·refine cL (v:=Ux (bS zs2)) rfl rfl rfl rfl rfl cC (cL rfl rfl rfl rfl rfl (aJk rfl rfl) ?_)
   refine lv (v:= .bool (decide (((bS zs2).toNat:Int)<(4611686018427387904:Int)))) (mO rfl) (lv cC ?_)
   refine eJ (s:=34) rfl (fun hg11=> ?_) (fun hg11=> ?_)
   ·refine cL (v:=Ux (bS zs2)) rfl rfl rfl rfl rfl cC ?_
    refine cL (v:=Ux ((bS zs2)%(2:UInt64))) rfl rfl rfl rfl rfl (lR (a:=((bS zs2).toNat:Int)) (b:=((2:UInt64).toNat:Int)) rfl rfl (by decide) (bCr _ _)) ?_
    refine cL (v:=Nx (j*16)) rfl rfl rfl rfl rfl cC ?_
    refine cL (v:=Nx ((j*16)/16)) rfl rfl rfl rfl rfl (aJm (a:=((j*16:Nat):Int)) (b:=(16:Int)) rfl rfl (by decide) (dA (uH _ 16) (by omega))) ?_
    refine cL (v:=Ux (U (((j*16)/16:Nat):Int))) rfl rfl rfl rfl rfl (fW (a:=(((j*16)/16:Nat):Int)) rfl ⟨_,tf1⟩ tf2 (sT _)) ?_
    refine cL rfl rfl rfl rfl rfl (fC rfl rfl) ?_
    refine lv (v:= .bool (decide ((((bS zs2)%(2:UInt64)).toNat:Int)=((U (((j*16)/16:Nat):Int)).toNat:Int)))) (mO rfl) ?_
    refine lv cC (eJ (s:=42) rfl (fun hg12=> ?_) (fun hg12=> ?_))
    ·refine cL (v:=Ux (bS zs6)) rfl rfl rfl rfl rfl cC (cL (v:=Ux (bS zs2)) rfl rfl rfl rfl rfl cC ?_)
     refine cL (v:=Nx ((bS zs2).toNat)) rfl rfl rfl rfl rfl (fW (a:=((bS zs2).toNat:Int)) rfl ⟨_,tf2⟩ tf1 (dA rfl (by omega))) ?_
     refine eK rfl rfl rfl rfl rfl (cK (vs:=[Nx ((bS zs2).toNat)]) bHl.ok rfl rfl) ?_
     intro w hw
     obtain⟨β1,sb,kn,hw1,back⟩:=St.frame_all hw
     refine(aEb β1 w hw1 (((bS zs2).toNat:Nat):Int)).mono ?_
     rintro e w' ⟨rfl,hw'⟩
     refine⟨_,rfl,_,back _ _ hw',?_⟩
     refine cL rfl rfl rfl rfl rfl (fC rfl rfl) ?_
     refine lv (v:= .bool (decide (((bS zs6).toNat:Int)=((eR (((bS zs2).toNat:Nat):Int)).toNat:Int)))) (mO rfl) (aN ?_)
     refine cG _ rfl (fun hc13=> ?_) (fun hc13=> ?_)
     ·refine aC (lv cC (lv dY (aH (aR (bD (aC (lv cC ?_)))))))
      refine lv (v:=Nx ((j*16)+16)) (bX rfl rfl (dA (by omega) (by omega))) (lv dY (aH ?_))
      exact bI ⟨j+1,⟨⟨rfl,(show Ux (bS zs2)=Ux (eO xs (j+1)) by subst hz3;subst hz7;exact congrArg (fun x:UInt64=>Ux x) (bBa (by omega) (by omega) hg12 hc13).symm),(congrArg (fun z:Nat=>Nx z) (by omega))⟩,rfl,(by omega)⟩,(show xs.length-(j+1)*16<xs.length-j*16 from by omega)⟩
     refine cD (aR (bD (aC (lv cC (lv (v:=Nx ((j*16)+16)) (bX rfl rfl (dA (by omega) (by omega))) (lv dY (aH ?_)))))))
     exact bI ⟨j+1,⟨⟨rfl,(show Ux (eO xs j)=Ux (eO xs (j+1)) by subst hz3;subst hz7;exact congrArg (fun x:UInt64=>Ux x) (bAz hc13).symm),(congrArg (fun z:Nat=>Nx z) (by omega))⟩,rfl,(by omega)⟩,(show xs.length-(j+1)*16<xs.length-j*16 from by omega)⟩
    refine cF rfl rfl rfl rfl rfl rfl (cF rfl rfl rfl rfl rfl rfl (cF rfl rfl rfl rfl rfl rfl (cF rfl rfl rfl rfl rfl rfl ?_)))
    refine cF rfl rfl rfl rfl rfl rfl (lv (v:= .bool false) (iB rfl) (aN (cY rfl (cD (aR (bD (aC (lv cC ?_))))))))
    refine lv (v:=Nx ((j*16)+16)) (bX rfl rfl (dA (by omega) (by omega))) (lv dY (aH ?_))
    exact bI ⟨j+1,⟨⟨rfl,(show Ux (eO xs j)=Ux (eO xs (j+1)) by subst hz3;subst hz7;exact congrArg (fun x:UInt64=>Ux x) (bAy hg12).symm),(congrArg (fun z:Nat=>Nx z) (by omega))⟩,rfl,(by omega)⟩,(show xs.length-(j+1)*16<xs.length-j*16 from by omega)⟩
   refine cF rfl rfl rfl rfl rfl rfl (cF rfl rfl rfl rfl rfl rfl (cF rfl rfl rfl rfl rfl rfl (cF rfl rfl rfl rfl rfl rfl ?_)))
   refine cF rfl rfl rfl rfl rfl rfl (cF rfl rfl rfl rfl rfl rfl (lv (v:= .bool false) (iB rfl) (lv cC ?_)))
   refine cF rfl rfl rfl rfl rfl rfl (cF rfl rfl rfl rfl rfl rfl (cF rfl rfl rfl rfl rfl rfl (cF rfl rfl rfl rfl rfl rfl ?_)))
   refine cF rfl rfl rfl rfl rfl rfl (lv (v:= .bool false) (iB rfl) (aN (cY rfl (cD (aR (bD (aC (lv cC ?_))))))))
   refine lv (v:=Nx ((j*16)+16)) (bX rfl rfl (dA (by omega) (by omega))) (lv dY (aH ?_))
   exact bI ⟨j+1,⟨⟨rfl,(show Ux (eO xs j)=Ux (eO xs (j+1)) by subst hz3;subst hz7;exact congrArg (fun x:UInt64=>Ux x) (bAx hg11).symm),(congrArg (fun z:Nat=>Nx z) (by omega))⟩,rfl,(by omega)⟩,(show xs.length-(j+1)*16<xs.length-j*16 from by omega)⟩
  refine cF rfl rfl rfl rfl rfl rfl (cF rfl rfl rfl rfl rfl rfl (lv (v:= .bool false) (iB rfl) (lv cC ?_)))
  refine cF rfl rfl rfl rfl rfl rfl (cF rfl rfl rfl rfl rfl rfl (cF rfl rfl rfl rfl rfl rfl (cF rfl rfl rfl rfl rfl rfl ?_)))
  refine cF rfl rfl rfl rfl rfl rfl (cF rfl rfl rfl rfl rfl rfl (lv (v:= .bool false) (iB rfl) (lv cC ?_)))
  refine cF rfl rfl rfl rfl rfl rfl (cF rfl rfl rfl rfl rfl rfl (cF rfl rfl rfl rfl rfl rfl (cF rfl rfl rfl rfl rfl rfl ?_)))
  refine cF rfl rfl rfl rfl rfl rfl (lv (v:= .bool false) (iB rfl) (aN (cY rfl (cD (aR (bD (aC (lv cC ?_))))))))
  refine lv (v:=Nx ((j*16)+16)) (bX rfl rfl (dA (by omega) (by omega))) (lv dY (aH ?_))
  exact bI ⟨j+1,⟨⟨rfl,(show Ux (eO xs j)=Ux (eO xs (j+1)) by subst hz3;subst hz7;exact congrArg (fun x:UInt64=>Ux x) (bAw hg10).symm),(congrArg (fun z:Nat=>Nx z) (by omega))⟩,rfl,(by omega)⟩,(show xs.length-(j+1)*16<xs.length-j*16 from by omega)⟩
 refine cM (aG (aG (cN (rT ?_))))
 have hlt:=vN xs j
 refine aC (lv cC (lv (v:=Nx ((eO xs j).toNat)) (fW (a:=((eO xs j).toNat:Int)) rfl ⟨_,tf2⟩ tf1 (dA rfl (by omega))) ?_))
 refine lv dY (aN (aT (cZ Tryz.results82 rfl ?_)))
 intro w hw
 rw[show j=xs.length/16 by omega]
 exact⟨rfl,aF [] rfl hw⟩
theorem lD(β:Base)(w:World)(hw:St β [] w)(S:Nat):oJ Tryz.prog 65 #[pp S 0] β w (.agg #[pp S 1,pp S 2]):=by
 refine enter (n:=10) Tryz.func65 rfl Tryz.ntmps65 rfl ?_ hw
 refine bE (gB fun b1=>aN (aL ?_))
 refine jH [sv 3 (pp S 0) [] [] [0],sv 4 (pp S 0) [0] [0] [],sv 5 (pp S 1) [0,1] [1] [],sv 6 (pp S 0) [] [] [0],sv 7 (pp S 0) [3] [3] [],sv 8 (pp S 2) [3,4] [4] [],sv 9 (.agg #[pp S 1,pp S 2]) (List.range 6) [2,5] [],⟨(List.range 7),[6],[1],[],fun _=>True⟩] [(some 7,[7])] [⟨(some 7),none,[],[],fun _=>pt b1 (.cells #[pp S 1,pp S 2] 148)⟩] [(0,pp S 0),(2,pp b1 0)] [1] ⟨rfl,rfl,trivial⟩ ⟨?_,?_,?_,?_,?_,?_,?_,?_,trivial⟩ ?_
 ·rintro f M-⟨i0,-⟩
  exact aU dN
 ·rintro f M ⟨k0,-⟩-
  exact aU eM
 ·rintro f M ⟨k0,-⟩-
  exact aU aY
 ·rintro f M-⟨i0,-⟩
  exact aU dN
 ·rintro f M ⟨k0,-⟩-
  exact aU eM
 ·rintro f M ⟨k0,-⟩-
  exact aU aY
 ·rintro f M ⟨k0,k1,-⟩-
  exact hO (aB (d:=8) (aB (d:=5) rfl k0) k1) rfl (eQ bHm.ok aEa.ok (vs:=[(0,pp S 1),(1,pp S 2)]) (cells:= #[pp S 1,pp S 2]) rfl rfl) (.refl _)
 ·rintro f M ⟨k0,-⟩ ⟨i0,-⟩
  refine dU (aB (d:=9) (aB (d:=2) rfl i0) k0) ?_
  refine lu (mS 0 (#[pp S 1,pp S 2])) (aH ?_)
  exact bB (aB (d:=9) (aB (d:=2) rfl i0) k0) trivial (aA 0 rfl)
 rintro fa2 ⟨-,-,-,-,-,-,-,-,-⟩ ⟨j0,-⟩
 refine jI ?_
 refine aD (d:=2) j0 (ftr (gA (m:=[.agg #[pp S 1,pp S 2]]) Tryz.results65 ⟨bQ bHn.ok rfl (bY 0 rfl rfl) rfl,trivial⟩ rfl ?_))
 intro w hw
 exact⟨rfl,aF [false] rfl hw⟩
end Go.Proofs
