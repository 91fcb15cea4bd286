/-
 Own work; plain Lean (Td10, Td11).
-/
import Derived.Test.YtjejfkajcbdgjaaGreatTd9
set_option linter.all false
set_option maxHeartbeats 4000000
namespace Go.Proofs
open Go Go.Sl Go.Td Go.Jn
instance tt118:FldC Tryz.prog 198 1 1 1 false:={}
instance tt119:FldC Tryz.prog 198 2 2 1 false:={}
instance tt120:UndC Tryz.prog 27 5:={}
instance bFb:CfC Tryz.prog 117:={}
instance aZs:CfC Tryz.prog 118:={}
theorem aZt:Tryz.prog.underlying 165=some (.pointer (Tryz.prog.pointee 165)):=by kernel_rfl
instance tt124:FldC Tryz.prog 198 0 0 1 false:={}
instance tt125:FldC Tryz.prog 198 3 3 1 false:={}
instance tt126:TyC Tryz.prog 34 false 1:={}
instance bFc:CfC Tryz.prog 150:={}
instance bFd:CfC Tryz.prog 149:={}
instance tt129:FldC Tryz.prog 168 0 0 1 false:={}
instance tt130:TyC Tryz.prog 165 false 1:={}
instance bFe:CfC Tryz.prog 137:={}
instance tt132:TyC Tryz.prog 168 true 1:={}
instance jJ:CfC Tryz.prog 116:={}
theorem bFf:xP Tryz.prog 198 [(0,1),(1,1),(2,1),(3,1)]=true:=by kernel_rfl
instance bFg:ZerC Tryz.prog 198 (.agg #[.bool false,.slice none 0 0,.int .i64 (0),.int .i64 (0)]):={}
theorem aKx(β:Base)(w:World)(rb:Nat)(p:Option Addr)(c:Nat)(xs:List UInt8)(n:Nat)(hw:St β (rdL rb p c xs n) w)(hxl:xs.length≤65536)(k:Nat)(hn:n+k≤8*xs.length):Calls Tryz.prog 118 #[pp rb 0,Nx k] w fun r w'=>r= .returned (Ux (zB xs n k))∧St β (rdL rb p c xs (n+k)) w':=by
 refine enter (n:=41) Tryz.func118 rfl Tryz.ntmps118 rfl ?_ hw
 refine bE (lE bN (eY (lE bN (aN (eS (aC (lE aX (lE aX (aN (aK ?_))))))))))
 refine dB (fun(j:Nat) f L=>(f 0=pp rb 0∧f 5=Ux (zB xs n j)∧f 6=Nx (k)∧f 7=Nx (j))∧L=[pt rb (.cells #[.bool true,sB p xs c,Nx (n+j),.int .i64 (0)] 198),aM gQ 5 p c xs]∧(j≤k)) (fun j=>k-j) 0 ?_ ?_
 ·exact⟨⟨rfl,rfl,rfl,rfl⟩,rfl,Nat.zero_le _⟩
 rintro j f0 L0 ⟨⟨hs0,hs5,hs6,hs7⟩,hL,hj⟩
 subst L0
 refine bM 0 hs0 (bM 5 hs5 (bM 6 hs6 (bM 7 hs7 (bE (lE gH (aN (aL (cG _ rfl (fun hc1=> ?_) (fun hc1=> ?_)))))))))
 ·refine eF (aL (aK (aL (gK (by kernel_rfl) (by kernel_rfl) (qE aX ?_)))))
  refine dQ (v:=Ux ((zB xs n j)<<<(1:UInt64))) rfl rfl rfl (aJn (a:=((zB xs n j).toNat:Int)) (b:=((1:Nat):Int)) rfl rfl (by decide) (aUb _ 1 (by decide))) ?_
  refine qE dN (qE eM (qE aY (qE (fR 0) (qE dN (qE eM (qE aY (qE (cQ 0) ?_)))))))
  refine dQ (v:=Nx ((n+j)/8)) rfl rfl rfl (aJm (a:=((n+j:Nat):Int)) (b:=(8:Int)) rfl rfl (by decide) (dA (uH _ 8) (by omega))) ?_
  refine dQ (v:= .pointer (some ((ba p).add (((n+j)/8)*1)))) rfl rfl rfl (eT 1 (F:=gQ) rfl rfl rfl aIt (by omega) rfl) ?_
  obtain⟨x2,hx3⟩:∃x_,xs[(n+j)/8]? =some x_:=⟨_,List.getElem?_eq_getElem (by first|omega|decide)⟩
  refine dQ (v:=Bx (x2)) rfl rfl rfl (bH tt5.ok rfl (mT 1 (F:=gQ) rfl hx3)) (qE dN (qE eM (qE aY (qE (cQ 0) ?_))))
  refine dQ (v:=Nx ((n+j)%8)) rfl rfl rfl (lR (a:=((n+j:Nat):Int)) (b:=(8:Int)) rfl rfl (by decide) (gD _ 8)) ?_
  refine dQ (v:=Nx (7-((n+j)%8))) rfl rfl rfl (fI (congrArg (Value.int .i64) (by omega)) (tX (a:=(7:Int)) (b:=(((n+j)%8:Nat):Int)) rfl rfl (uB (by omega)))) ?_
  refine dQ (v:=Bx (x2>>>UInt8.ofNat (7-((n+j)%8)))) rfl rfl rfl (wF (a:=((x2).toNat:Int)) (b:=((7-((n+j)%8):Nat):Int)) rfl rfl (by omega) (bAl _ (7-((n+j)%8)) (by omega))) ?_
  refine dQ (v:=Bx ((x2>>>UInt8.ofNat (7-((n+j)%8)))&&&(1:UInt8))) rfl rfl rfl (aPw (a:=((x2>>>UInt8.ofNat (7-((n+j)%8))).toNat:Int)) (b:=(((1:UInt8)).toNat:Int)) rfl rfl (bAj _ _)) ?_
  refine dQ (v:=Ux (((x2>>>UInt8.ofNat (7-((n+j)%8)))&&&(1:UInt8)).toUInt64)) rfl rfl rfl (fW (a:=(((x2>>>UInt8.ofNat (7-((n+j)%8)))&&&(1:UInt8)).toNat:Int)) rfl ⟨_,aTw⟩ aTv (aIv _)) ?_
  refine dQ (v:=Ux (((zB xs n j)<<<(1:UInt64))|||(((x2>>>UInt8.ofNat (7-((n+j)%8)))&&&(1:UInt8)).toUInt64))) rfl rfl rfl (aVm (a:=(((zB xs n j)<<<(1:UInt64)).toNat:Int)) (b:=((((x2>>>UInt8.ofNat (7-((n+j)%8)))&&&(1:UInt8)).toUInt64).toNat:Int)) rfl rfl (bAg _ _)) ?_
  refine qE bN (kS (bD (aC (lE dN (lE eM (lE aY (lE (cQ 0) ?_)))))))
  refine lv (v:=Nx ((n+j)+1)) (bX rfl rfl (dA (by omega) (by omega))) (lE eM (lE aY ?_))
  refine lu (mS 0 (#[.bool true,sB p xs c,Nx ((n+j)+1),.int .i64 (0)])) (aH (aR (bD (aC ?_))))
  refine lv (v:=Nx (j+1)) (bX rfl rfl (dA (by omega) (by omega))) (lE aX (aH ?_))
  exact bI ⟨j+1,⟨⟨rfl,congrArg (fun z:UInt64=>Value.int .u64 (z.toNat:Int)) (aWy hx3),rfl,rfl⟩,rfl,(by omega)⟩,(show k-(j+1)<k-j from by omega)⟩
 refine cM (aG (aG (cN (kM (lE aX (lE bN (aN (aT (cZ Tryz.results118 rfl ?_)))))))))
 intro w hw
 have hjk:j=k:=by omega
 subst hjk
 exact⟨rfl,hw⟩
theorem zG(β:Base)(w:World)(hw:St β [] w)(rb:Nat)(p:Option Addr)(m c n:Nat)(hc:Cs β.heap ⟨rb,0,none⟩ [.bool true,.slice p m c,Nx n,Ix 0])(hm:m≤65536)(hn:n≤8*m):oJ Tryz.prog 117 #[pp rb 0] β w (Nx (8*m-n)):=by
 refine enter (n:=14) Tryz.func117 rfl Tryz.ntmps117 rfl ?_ hw
 refine bE (lE bN (aN (aL (gK (by kernel_rfl) (by kernel_rfl) (qE dN (qE eM (qE ofa ?_)))))))
 refine dQ (v:= .slice p (m) c) rfl rfl rfl (bH bGa.ok rfl (bF.imp (kB hc) (fun _ h=>Cs.sub (vs:=[.slice p (m) c]) 1 h rfl))) ?_
 refine qE gO (dQ (v:=Nx (8*m)) rfl rfl rfl (tW (a:=(8:Int)) (b:=((m:Nat):Int)) rfl rfl (dA (by omega) (by omega))) (qE dN ?_))
 refine qE eM (qE ofa (dQ (v:=Nx (n)) rfl rfl rfl (bH tt2.ok rfl (bF.imp (kB hc) (fun _ h=>Cs.sub (vs:=[Nx (n)]) 2 h rfl))) ?_))
 refine dQ (v:=Nx ((8*m)-n)) rfl rfl rfl (fI (congrArg (Value.int .i64) (by omega)) (tX (a:=((8*m:Nat):Int)) (b:=((n:Nat):Int)) rfl rfl (uB (by omega)))) ?_
 refine qE bN (kS (ftr (cZ Tryz.results117 rfl ?_)))
 intro w hw
 exact⟨rfl,aF [] rfl hw⟩
theorem aXg(β:Base)(w:World)(rb:Nat)(p:Option Addr)(c:Nat)(xs:List UInt8)(n:Nat)(hw:St β (rdL rb p c xs n) w)(hxl:xs.length≤65536)(k:Nat)(hn:n+k≤8*xs.length):Calls Tryz.prog 150 #[pp rb 0,Nx k] w fun r w'=>r= .returned (.tuple #[Ux (zB xs n k),.int .i64 0])∧St β (rdL rb p c xs (n+k)) w':=by
 refine enter (n:=13) Tryz.func150 rfl Tryz.ntmps150 rfl ?_ hw
 refine bE (lE bN (lE bN (aN (eS (aC (lE aX (lE dN ?_)))))))
 refine iF iE (fun w β1 sb kn hw1=>zG β1 w hw1 rb _ _ _ _ (kn _ (bY 0 rfl rfl)) hxl (by omega)) (lE oG (aN ?_))
 refine cG _ rfl (fun hc1=> ?_) (fun hc1=> ?_)
 ·exact absurd hc1 (by omega)
 refine eF (bE (lE dN (lE aX (aW rfl rfl rfl (cK (vs:=[pp rb 0,Nx (k)]) aZs.ok rfl rfl) ?_))))
 intro w hw
 obtain⟨β1,sb,kn,hw1,back⟩:=St.frame (L:=[_,_]) (M:=[]) hw
 refine(aKx β1 w rb _ _ xs n hw1 hxl k (by omega)).mono ?_
 rintro e w' ⟨rfl,hw'⟩
 refine⟨_,rfl,_,back _ _ hw',?_⟩
 refine lE bN (lE bN (aN (aT (nF (v:=Ux (zB xs n k)) (v':= .int .i64 (0)) Tryz.results150 rfl rfl ?_))))
 intro w hw
 exact⟨rfl,hw⟩
theorem aSy(β:Base)(w:World)(rb:Nat)(p:Option Addr)(c:Nat)(xs:List UInt8)(n:Nat)(hw:St β (rdL rb p c xs n) w)(hxl:xs.length≤65536)(k:Nat)(hn:n+k≤8*xs.length)(hk:k≤64):Calls Tryz.prog 149 #[pp rb 0,Nx k,.int .i64 64,.func (.func 150) #[pp rb 0] #[]] w fun r w'=>r= .returned (.tuple #[Ux (zB xs n k),.int .i64 0])∧St β (rdL rb p c xs (n+k)) w':=by
 refine enter (n:=54) Tryz.func149 rfl Tryz.ntmps149 rfl ?_ hw
 refine bE (lE bN (lE bN (aN (aL (aK (bE (lE dN (lv (v:= .bool false) (iL (p:=some (⟨rb,0,none⟩)) rfl rfl aZt) (lE fJ ?_)))))))))
 refine gE dN (gE eM (gE aY (gE (olb 0) (gE lX (lE dP (lE dW (aN (cY rfl (bE (lE aX (lE gH (lE fJ ?_))))))))))))
 refine eJ (s:=25) rfl (fun h=> ?_) (fun h=> ?_)
 exact absurd h (by omega)
 refine gE aX (gE aX (gE oG (lE dP (lE dW (aN (cG _ rfl (fun hc1=> ?_) (fun hc1=> ?_)))))))
 ·exact absurd hc1 (by omega)
 refine bE (lE dN (lE eM (lE aY (lE (cQ 0) (lE lC (lE dW (aN (cY rfl (cD (aR (kM (lE omf (lE aX ?_)))))))))))))
 refine aW rfl rfl rfl (tT (fst:=[pp rb 0]) (cap:=[]) (vs:=[Nx (k)]) (all:=[pp rb 0,Nx (k)]) bFc.ok rfl rfl rfl) ?_
 intro w hw
 obtain⟨β1,sb,kn,hw1,back⟩:=St.frame (L:=[_,_]) (M:=[]) hw
 refine(aXg β1 w rb _ _ xs n hw1 hxl k (by omega)).mono ?_
 rintro e w' ⟨rfl,hw'⟩
 refine⟨_,rfl,_,back _ _ hw',?_⟩
 refine lE oE (lE pO (lE pO (lE bN (lE bN (aN (eS (aC (lE aX (lE lC (aN (cY rfl (eF (bE (lE aX (lE bN (lE bN (aN (aT ?_))))))))))))))))))
 refine nF (v:=Ux (zB xs n k)) (v':= .int .i64 (0)) Tryz.results149 rfl rfl ?_
 intro w hw
 exact⟨rfl,hw⟩
theorem aSv(β:Base)(w:World)(rb:Nat)(p:Option Addr)(c:Nat)(xs:List UInt8)(n:Nat)(hw:St β (rdL rb p c xs n) w)(hxl:xs.length≤65536)(k:Nat)(hn:n+k≤8*xs.length)(hk:k≤64):Calls Tryz.prog 137 #[pp rb 0,Nx k] w fun r w'=>r= .returned (.tuple #[Ux (zB xs n k),.int .i64 0])∧St β (rdL rb p c xs (n+k)) w':=by
 refine enter (n:=13) Tryz.func137 rfl Tryz.ntmps137 rfl ?_ hw
 refine bE (lE bN (lE bN (eY (lE dN (lE aX (lE dN (lv (v:= .func (.func 150) #[pp rb 0] #[]) (mM (u:=[pp rb 0]) (v:=[]) rfl rfl) ?_)))))))
 refine aW rfl rfl rfl (cK (vs:=[pp rb 0,Nx (k),.int .i64 (64),.func (.func 150) #[pp rb 0] #[]]) bFd.ok rfl rfl) ?_
 intro w hw
 obtain⟨β1,sb,kn,hw1,back⟩:=St.frame (L:=[_,_]) (M:=[]) hw
 refine(aSy β1 w rb _ _ xs n hw1 hxl k (by omega) hk).mono ?_
 rintro e w' ⟨rfl,hw'⟩
 refine⟨_,rfl,_,back _ _ hw',?_⟩
 refine lE pO (lE pO (lE bN (lE bN (aN (aT (nF (v:=Ux (zB xs n k)) (v':= .int .i64 (0)) Tryz.results137 rfl rfl ?_))))))
 intro w hw
 exact⟨rfl,hw⟩
theorem aSu(β:Base)(w:World)(rb:Nat)(p:Option Addr)(c:Nat)(xs:List UInt8)(n:Nat)(hw:St β (rdL rb p c xs n) w)(hxl:xs.length≤65536)(k:Nat)(hn:n+k≤8*xs.length)(hk:k≤64)(u:UInt64)(hu:zB xs n k=u):Calls Tryz.prog 137 #[pp rb 0,Nx k] w fun r w'=>r= .returned (.tuple #[Ux u,.int .i64 0])∧St β (rdL rb p c xs (n+k)) w':=by
 subst hu
 exact aSv β w rb p c xs n hw hxl k hn hk
theorem fO(β:Base)(w:World)(rb:Nat)(l:List Bool)(v:Int)(k:Nat)(hfit:Fits v k)(hw:St β [fT rb (aJ (U v) k++l)] w):Calls Tryz.prog 116 #[.agg #[pp rb 0],Nx k] w fun r w'=>r= .returned (Ix v)∧St β [fT rb l] w':=by
 obtain⟨p,c,xs,n,hrd,hxl,hw⟩:=St.openRd hw
 obtain⟨hrv,hrd2,hn⟩:=hrd.get hfit.k64 (aOo hfit.f)
 have hk:=hfit.k64
 refine enter (n:=16) Tryz.func116 rfl Tryz.ntmps116 rfl ?_ hw
 refine bE (mA fun b1=> ?_)
 refine lE bN (eY (lE aY (lE (iI 0) (lE aX (aW rfl rfl rfl (cK (vs:=[pp rb 0,Nx (k)]) bFe.ok rfl rfl) ?_)))))
 intro w hw
 replace hw:=hw.perm (L':=_::_::_::[]) (by exact(((aA 0 rfl).trans (aA 2 rfl)).trans (aA 2 rfl)))
 obtain⟨β1,sb,kn,hw1,back⟩:=St.frame (L:=[_,_]) (M:=_::[]) hw
 refine(aSu β1 w rb _ _ xs n hw1 hxl k (by omega) hk _ hrv).mono ?_
 rintro e w' ⟨rfl,hw'⟩
 refine⟨_,rfl,_,back _ _ hw',?_⟩
 refine lE oE (lE pO (lE pO (lE bN (lE bN (eY (lE aX (lv (v:=Ix (v)) (fW (a:=((U v).toNat:Int)) rfl ⟨_,aTv⟩ aYf (bDx hfit.w)) ?_)))))))
 refine lE bN (aN (aT (cZ Tryz.results116 rfl ?_)))
 intro w hw
 replace hw:=aF (L':=[pt rb (.cells #[.bool true,sB p xs c,Nx (n+k),.int .i64 (0)] 198),aM gQ 5 p c xs]) [true,true,false] rfl hw
 exact⟨rfl,St.closeRd (M:=[]) hrd2 hxl hw⟩
theorem xQ(β:Base)(w:World)(rb:Nat)(l:List Bool)(a:KAm)(k:Nat)(hf:Fits a.a0 k∧Fits a.a1 k∧Fits a.a2 k∧Fits a.a3 k)(hw:St β [fT rb (amK a k l)] w):Calls Tryz.prog 115 #[.agg #[pp rb 0],Nx k] w fun r w'=>r= .returned (.agg (eI a))∧St β [fT rb l] w':=by
 replace hw:St β [fT rb (aJ (U a.a0) k++(aJ (U a.a1) k++(aJ (U a.a2) k++(aJ (U a.a3) k++l))))] w:=hw
 refine enter (n:=17) Tryz.func115 rfl Tryz.ntmps115 rfl ?_ hw
 refine bE (mA fun b1=> ?_)
 refine gB fun b2=>eY (gB fun b3=>aN (eS (aC (lE aX (aN (aK (mJ 5 (eD 4 (bE (lE gH (aN (aL (dL rfl (eF ?_))))))))))))))
 refine aL (aK (bE (lE aX (lE bN (wU (lE aX (lE (dD 2) (lE aX ?_))))))))
 refine aW rfl rfl rfl (cK (vs:=[.agg #[pp rb 0],Nx (k)]) jJ.ok rfl rfl) ?_
 intro w hw
 replace hw:=hw.perm (L':=_::_::_::_::[]) (by exact((((aA 2 rfl).trans (aA 2 rfl)).trans (aA 2 rfl)).trans (aA 3 rfl)))
 obtain⟨β1,sb,kn,hw1,back⟩:=St.frame (L:=[_]) (M:=_::_::_::[]) hw
 refine(fO β1 w rb _ a.a0 k hf.1 hw1).mono ?_
 rintro e w' ⟨rfl,hw'⟩
 refine⟨_,rfl,_,back _ _ hw',?_⟩
 refine lv (v:=pp b3 0) (bG (b:=b3) (o:=0) (k:=0) rfl rfl qN.ok (by decide)) ?_
 refine lu (mS 1 (#[Ix (a.a0),.int .i64 (0),.int .i64 (0),.int .i64 (0)])) (aH (aR (bD (aC (lE qR (lE aX (aH (bI ?_))))))))
 refine eD 3 (bE (lE gH (aN (aL (dL rfl (eF (aL (aK (bE (lE aX (lE bN (wU (lE aX (lE (dD 3) (lE aX ?_)))))))))))))))
 refine aW rfl rfl rfl (cK (vs:=[.agg #[pp rb 0],Nx (k)]) jJ.ok rfl rfl) ?_
 intro w hw
 obtain⟨β1,sb,kn,hw1,back⟩:=St.frame (L:=[_]) (M:=_::_::_::[]) hw
 refine(fO β1 w rb _ a.a1 k hf.2.1 hw1).mono ?_
 rintro e w' ⟨rfl,hw'⟩
 refine⟨_,rfl,_,back _ _ hw',?_⟩
 refine lv (v:=pp b3 1) (bG (b:=b3) (o:=0) (k:=1) rfl rfl qN.ok (by decide)) ?_
 refine lu (mS 1 (#[Ix (a.a0),Ix (a.a1),.int .i64 (0),.int .i64 (0)])) (aH (aR (bD (aC (lE qR (lE aX (aH (bI (eD 2 ?_)))))))))
 refine bE (lE gH (aN (aL (dL rfl (eF (aL (aK (bE (lE aX (lE bN (wU (lE aX (lE (dD 3) (lE aX ?_))))))))))))))
 refine aW rfl rfl rfl (cK (vs:=[.agg #[pp rb 0],Nx (k)]) jJ.ok rfl rfl) ?_
 intro w hw
 obtain⟨β1,sb,kn,hw1,back⟩:=St.frame (L:=[_]) (M:=_::_::_::[]) hw
 refine(fO β1 w rb _ a.a2 k hf.2.2.1 hw1).mono ?_
 rintro e w' ⟨rfl,hw'⟩
 refine⟨_,rfl,_,back _ _ hw',?_⟩
 refine lv (v:=pp b3 2) (bG (b:=b3) (o:=0) (k:=2) rfl rfl qN.ok (by decide)) ?_
 refine lu (mS 1 (#[Ix (a.a0),Ix (a.a1),Ix (a.a2),.int .i64 (0)])) (aH (aR (bD (aC (lE qR (lE aX (aH (bI (eD 1 (bE ?_))))))))))
 refine lE gH (aN (aL (dL rfl (eF (aL (aK (bE (lE aX (lE bN (wU (lE aX (lE (dD 3) (lE aX ?_)))))))))))))
 refine aW rfl rfl rfl (cK (vs:=[.agg #[pp rb 0],Nx (k)]) jJ.ok rfl rfl) ?_
 intro w hw
 obtain⟨β1,sb,kn,hw1,back⟩:=St.frame (L:=[_]) (M:=_::_::_::[]) hw
 refine(fO β1 w rb _ a.a3 k hf.2.2.2 hw1).mono ?_
 rintro e w' ⟨rfl,hw'⟩
 refine⟨_,rfl,_,back _ _ hw',?_⟩
 refine lv (v:=pp b3 3) (bG (b:=b3) (o:=0) (k:=3) rfl rfl qN.ok (by decide)) (lu (mS 1 (eI a)) (aH (aR (bD (aC ?_)))))
 refine lE qR (lE aX (aH (bI (eD 0 (bE (lE gH (aN (aL (cY rfl (cM (aG (aG (cN (kM (lE (dD 1) ?_)))))))))))))))
 refine lu (mS 2 (eI a)) (aN (aT (gA (m:=[.agg (eI a)]) Tryz.results115 ⟨bQ tt0.ok rfl (bY 2 rfl rfl) rfl,trivial⟩ rfl ?_)))
 intro w hw
 replace hw:=aF (L':=[fT rb l]) [true,false,false,false] rfl hw
 exact⟨rfl,hw⟩
theorem aKv(β:Base)(w:World)(rb:Nat)(hw:St β [fT rb []] w):Calls Tryz.prog 88 #[pp rb 0] w fun r w'=>r= .returned (Ix 0)∧St β [fT rb []] w':=by
 obtain⟨p,c,xs,n,hrd,hxl,hw⟩:=St.openRd hw
 obtain⟨he0,he1,he2⟩:=hrd.end_
 refine enter (n:=45) Tryz.func88 rfl Tryz.ntmps88 rfl ?_ hw
 refine bE (lE bN (aN (aL (aK (bE (lE dN (lv (v:= .bool false) (iL (p:=some (⟨rb,0,none⟩)) rfl rfl aZt) (lE fJ (gE dN ?_)))))))))
 refine gE eM (gE aY (gE (olb 0) (gE lX (lE dP (lE dW (aN (cY rfl (bE (lE dN (lE eM (lE aY (lE (cQ 0) (lE lC (lE dW (aN (cY rfl ?_))))))))))))))))
 refine cD (aR (kM (lE dN (lE eM (lE aY (lE (cQ 0) (lE bN (aN (eS (aC (lE dN ?_)))))))))))
 refine iF iE (fun w β1 sb kn hw1=>zG β1 w hw1 rb _ _ _ _ (kn _ (bY 0 rfl rfl)) hxl (by omega)) (lE oG (lE fJ ?_))
 refine eJ (s:=31) rfl (fun h=> ?_) (fun h=> ?_)
 exact absurd h (by omega)
 refine gE dN (gE dN (eK rfl rfl rfl rfl rfl (cK (vs:=[pp rb 0]) bFb.ok rfl rfl) ?_))
 intro w hw
 obtain⟨β1,sb,kn,hw1,back⟩:=St.frame_all hw
 refine(zG β1 w hw1 rb _ _ _ _ (kn _ (bY 0 rfl rfl)) hxl (by omega)).mono ?_
 rintro e w' ⟨rfl,hw'⟩
 refine⟨_,rfl,_,back _ _ hw',?_⟩
 refine eK rfl rfl rfl rfl rfl (cK (vs:=[pp rb 0,Nx (8*xs.length-n)]) aZs.ok rfl rfl) ?_
 intro w hw
 obtain⟨β1,sb,kn,hw1,back⟩:=St.frame (L:=[_,_]) (M:=[]) hw
 refine(aKx β1 w rb _ _ xs n hw1 hxl (8*xs.length-n) (by omega)).mono ?_
 rintro e w' ⟨rfl,hw'⟩
 refine⟨_,rfl,_,back _ _ hw',?_⟩
 refine gE lC (lE dP (aN (cG _ rfl (fun hc1=> ?_) (fun hc1=> ?_))))
 ·exact absurd hc1 (by rw[he0];decide)
 refine eF (bE (lE dN (lE aX (lE eM (lE aY (lu (mS 0 (#[.bool true,sB p xs c,Nx (n),.int .i64 (0)])) (eY (lE bN (aN (aT ?_))))))))))
 refine cZ Tryz.results88 rfl ?_
 intro w hw
 exact⟨rfl,St.closeRd (M:=[]) hrd hxl hw⟩
theorem aKj(β:Base)(w:World)(hw:St β [] w)(v:Value)(bs:List UInt8)(hs:Sl iK β.heap v bs)(n:Nat)(l:List Bool)(hb:Wr bs n l)(hbl:bs.length≤65536):Calls Tryz.prog 86 #[v] w fun r w'=>∃rb,r= .returned (pp rb 0)∧St β [fT rb l] w':=by
 obtain⟨va,vc,rfl,vl,vm,ve⟩:=hs.get
 refine enter (n:=7) Tryz.func86 rfl Tryz.ntmps86 rfl ?_ hw
 refine bE (lE oap (eY (lE fN ?_)))
 refine pN (cK (vs:=[sB va bs (vc)]) bGd.ok rfl rfl) rfl fun w β1 sb kn hw1 back=>(lF β1 w hw1 bs _ (by omega) (Sl.mono _ _ _ _ _ sb (⟨⟨_,_,rfl,vl,vm,ve⟩⟩:Sl iK _ _ bs))).mono ?_
 rintro e w' ⟨p1,c2,rfl,hw'⟩
 refine⟨_,rfl,_,back _ _ hw',?_⟩
 refine lv (v:= .agg #[.bool true,sB p1 bs c2,.int .i64 (0),.int .i64 (0)]) (cR bFg.ok bFf (vs:=[(0,.bool true),(1,sB p1 bs c2)]) (cells:= #[.bool true,sB p1 bs c2,.int .i64 (0),.int .i64 (0)]) rfl rfl) ?_
 refine mA fun b3=> ?_
 refine lE oap (aN (aT (cZ Tryz.results86 rfl ?_)))
 intro w hw
 unfold rB at hw;unfold sB at hw;rw[aXh]at hw
 exact⟨_,rfl,St.closeRd (M:=[]) hb.rd hbl hw⟩
end Go.Proofs
namespace Go.Sl
theorem aUv(x:UInt8):IntKind.u8.wrap ((x.toNat:Nat):Int)=(x.toNat:Int):=by
 rw[u8w];have:=x.toNat_lt;omega
end Go.Sl
namespace Go.Proofs
open Go Go.Sl Go.Td Go.Jn
instance aLi:CfC Tryz.prog 115:={}
theorem bFh:xP Tryz.prog 88 [(0,1),(1,1),(2,1),(3,4),(7,1)]=true:=by kernel_rfl
theorem aFj(β:Base)(w:World)(rb:Nat)(au nu:Int)(al:List KAct)(l:List Bool)(hdf:DealFit au nu al)(hw:St β [fT rb (aAw au nu al l)] w):Calls Tryz.prog 87 #[.agg #[pp rb 0]] w fun r w'=>∃p c,r= .returned (.agg #[Ix au,Ix nu,sB p al c])∧St β [aM dI 47 p c al,fT rb l] w':=by
 replace hw:St β [fT rb (aJ (U au) 7++(aJ (U nu) 41++(aJ (U ((al.length:Nat):Int)) 9++kG al l)))] w:=hw
 have hf16:=hdf.few
 refine enter (n:=37) Tryz.func87 rfl Tryz.ntmps87 rfl ?_ hw
 refine bE (mA fun b1=> ?_)
 refine gB fun b2=>aN (aL ?_)
 refine jH [sv 5 (.agg #[pp rb 0]) [] [] [0],sv 6 (Ix (au)) [0] [0] [],sv 7 (.agg #[pp rb 0]) [] [] [0],sv 8 (Ix (nu)) [0,1,2] [2] [],sv 9 (.agg #[Ix (au),Ix (nu),.slice none 0 0]) [0,1,2,3] [1,3] [],⟨[],[],[],[3],fun f=>f 3= .pointer (some ⟨(cU (f 3)),0,none⟩)⟩,⟨(List.range 6),[5,4],[],[],fun _=>True⟩] [u0,u1 [0,2],(some 1,[1])] [⟨(some 1),(some 3),[3],[],fun _=>fT rb (aJ (U nu) 41++(aJ (U ((al.length:Nat):Int)) 9++kG al l))⟩,⟨(some 3),none,[],[],fun _=>fT rb (aJ (U ((al.length:Nat):Int)) 9++kG al l)⟩,⟨(some 5),(some 6),[6],[3],fun f=>pt (cU (f 3)) (.cells #[.int .i64 (0),.int .i64 (0),.slice none 0 0] 80)⟩,⟨(some 6),none,[],[3],fun f=>pt (cU (f 3)) (.cells #[Ix (au),Ix (nu),.slice none 0 0] 80)⟩] [(1,pp b1 0),(2,pp b2 0)] [0,1] ⟨rfl,rfl,trivial⟩ ⟨?_,?_,?_,?_,?_,?_,?_,trivial⟩ ?_
 ·rintro f M-⟨i0,-⟩
  exact aU (dD 0)
 ·rintro f M ⟨k0,-⟩-
  refine dU (aB (d:=5) rfl k0) ?_
  refine aW rfl rfl rfl (cK (vs:=[.agg #[pp rb 0],.int .i64 (7)]) jJ.ok rfl rfl) ?_
  intro w hw
  obtain⟨β1,sb,kn,hw1,back⟩:=St.frame (L:=[_]) (M:=M) hw
  refine(fO β1 w rb _ au 7 hdf.a hw1).mono ?_
  rintro e w' ⟨rfl,hw'⟩
  refine⟨_,rfl,_,back _ _ hw',?_⟩
  refine aH ?_
  exact aO (aB (d:=5) rfl k0) rfl (aA 0 rfl)
 ·rintro f M-⟨i0,-⟩
  exact aU (dD 0)
 ·rintro f M ⟨k0,-⟩-
  refine dU (aB (d:=7) rfl k0) ?_
  refine aW rfl rfl rfl (cK (vs:=[.agg #[pp rb 0],.int .i64 (41)]) jJ.ok rfl rfl) ?_
  intro w hw
  obtain⟨β1,sb,kn,hw1,back⟩:=St.frame (L:=[_]) (M:=M) hw
  refine(fO β1 w rb _ nu 41 hdf.n hw1).mono ?_
  rintro e w' ⟨rfl,hw'⟩
  refine⟨_,rfl,_,back _ _ hw',?_⟩
  refine aH ?_
  exact aO (aB (d:=7) rfl k0) rfl (aA 0 rfl)
 ·rintro f M ⟨k0,k1,-⟩-
  exact hO (aB (d:=8) (aB (d:=6) rfl k0) k1) rfl (cR bGi.ok bGh (vs:=[(0,Ix (au)),(1,Ix (nu))]) (cells:= #[Ix (au),Ix (nu),.slice none 0 0]) rfl rfl) (.refl _)
 ·rintro f M- -
  refine dU rfl ?_
  refine gB fun b4=>aH ?_
  exact aO rfl rfl (aA 0 rfl)
 ·rintro f M ⟨k0,k1,-⟩-
  have hs3:f 3= .pointer (some ⟨(cU (f 3)),0,none⟩):=k0
  refine dU (aB (d:=9) (aB rfl hs3) k1) ?_
  refine lu (mS 0 (#[Ix (au),Ix (nu),.slice none 0 0])) (aH ?_)
  exact bB (aB (d:=9) (aB rfl hs3) k1) trivial (aA 0 rfl)
 rintro fa5 ⟨-,-,-,-,-,k5,-,-⟩ ⟨j0,j1,-⟩
 refine jI ?_
 refine aD (d:=1) j0 (aD (d:=2) j1 (aD (d:=3) k5 (rT (aL (jN (r:=aM dI 47 none 0 []) (eG _ _ _) (aC ?_))))))
 refine lE (dD 2) (aW rfl rfl rfl (cK (vs:=[.agg #[pp rb 0],.int .i64 (9)]) jJ.ok rfl rfl) ?_)
 intro w hw
 replace hw:=hw.perm (L':=_::_::_::_::_::[]) (by exact(((((aA 4 rfl).trans (aA 3 rfl)).trans (aA 3 rfl)).trans (aA 3 rfl)).trans (aA 4 rfl)))
 obtain⟨β1,sb,kn,hw1,back⟩:=St.frame (L:=[_]) (M:=_::_::_::_::[]) hw
 refine(fO β1 w rb _ ((al.length:Nat):Int) 9 hdf.l hw1).mono ?_
 rintro e w' ⟨rfl,hw'⟩
 refine⟨_,rfl,_,back _ _ hw',?_⟩
 refine lv (v:=Nx (min al.length 16)) (fI (congrArg (Value.int .i64) (by omega)) (aPy (a:=((al.length:Nat):Int)) (b:=(16:Int)) rfl rfl)) ?_
 refine lE aX (aN (aK ?_))
 refine dB (fun(x_:Nat×List KAct×Option Addr×Nat) f L=>match x_ with|(k,ys,p,c)=>(f 1=pp b1 0∧f 2=pp b2 0∧f 3= .pointer (some ⟨(cU (fa5 3)),0,none⟩)∧f 12=Nx (min al.length 16)∧f 13=Nx (k))∧L=[fT rb (kG (al.drop k) l),aM dI 47 p c ys,pt b2 (.cells #[.int .i64 (0),.int .i64 (0),.slice none 0 0] 80),pt b1 (.cells #[pp rb 0] 168),pt (cU (fa5 3)) (.cells #[Ix (au),Ix (nu),sB p ys c] 80)]∧(k≤al.length∧ys=al.take k)) (fun(k,ys,p,c)=>al.length-k) (0,[],none,0) ?_ ?_
 ·exact⟨⟨rfl,rfl,rfl,rfl,rfl⟩,rfl,⟨Nat.zero_le _,rfl⟩⟩
 rintro⟨k,ys,p,c⟩ f0 L0 ⟨⟨hs1,hs2,hs3,hs12,hs13⟩,hL,⟨hk,hys⟩⟩
 subst L0
 refine bM 1 hs1 (bM 2 hs2 (bM 3 hs3 (bM 12 hs12 (bM 13 hs13 ?_))))
 have hyl:ys.length=k:=by rw[hys,List.length_take];omega
 have h16:=hdf.few
 refine bE (lE gH (aN (aL (cG _ rfl (fun hc6=> ?_) (fun hc6=> ?_)))))
 ·refine eF (aL (aK (aL ?_)))
  obtain⟨x,hx⟩:∃x,al[k]? =some x:=⟨_,List.getElem?_eq_getElem (by omega)⟩
  have hxf:=hdf.x x (List.mem_of_getElem? hx)
  refine qP (L':=[fT rb (aJ (U ((x.kind.toNat:Nat):Int)) 3++(aJ (U x.owner) 17++(aJ (U x.other) 17++(aJ (U x.hold) 64++(amK x.a 31 (kG (al.drop (k+1)) l)))))),aM dI 47 p c ys,pt b2 (.cells #[.int .i64 (0),.int .i64 (0),.slice none 0 0] 80),pt b1 (.cells #[pp rb 0] 168),pt (cU (fa5 3)) (.cells #[Ix (au),Ix (nu),sB p ys c] 80)]) (by rw[aHe hx]) ?_
  refine jH [sv 15 (.agg #[pp rb 0]) [] [] [0],sv 16 (Nx (x.kind.toNat)) [0] [0] [],sv 17 (Bx (x.kind)) [0,1] [1] [],sv 18 (.agg #[pp rb 0]) [] [] [0],sv 19 (Ix (x.owner)) [0,1,3] [3] [],sv 20 (.agg #[pp rb 0]) [] [] [0],sv 21 (Ix (x.other)) [0,1,3,4,5] [5] [],sv 22 (.agg #[Bx (x.kind),Ix (x.owner),Ix (x.other),.int .i64 (0),.int .i64 (0),.int .i64 (0),.int .i64 (0),.int .i64 (0)]) (List.range 7) [2,4,6] [],⟨[],[],[],[4],fun f=>f 4= .pointer (some ⟨(cU (f 4)),0,none⟩)⟩,⟨(List.range 9),[8,7],[],[],fun _=>True⟩] [(some 1,[1]),u0,u0,u1 [0,3,5]] [⟨(some 1),(some 4),[4],[],fun _=>fT rb (aJ (U x.owner) 17++(aJ (U x.other) 17++(aJ (U x.hold) 64++(amK x.a 31 (kG (al.drop (k+1)) l)))))⟩,⟨(some 4),(some 6),[6],[],fun _=>fT rb (aJ (U x.other) 17++(aJ (U x.hold) 64++(amK x.a 31 (kG (al.drop (k+1)) l))))⟩,⟨(some 6),none,[],[],fun _=>fT rb (aJ (U x.hold) 64++(amK x.a 31 (kG (al.drop (k+1)) l)))⟩,⟨(some 8),(some 9),[9],[4],fun f=>pt (cU (f 4)) (.cells #[.int .u8 (0),.int .i64 (0),.int .i64 (0),.int .i64 (0),.int .i64 (0),.int .i64 (0),.int .i64 (0),.int .i64 (0)] 47)⟩,⟨(some 9),none,[],[4],fun f=>pt (cU (f 4)) (.cells #[Bx (x.kind),Ix (x.owner),Ix (x.other),.int .i64 (0),.int .i64 (0),.int .i64 (0),.int .i64 (0),.int .i64 (0)] 47)⟩] [(1,pp b1 0),(2,pp b2 0),(3,.pointer (some ⟨(cU (fa5 3)),0,none⟩)),(12,Nx (min al.length 16)),(13,Nx (k))] [0,1,2,3,4] ⟨rfl,rfl,rfl,rfl,rfl,trivial⟩ ⟨?_,?_,?_,?_,?_,?_,?_,?_,?_,?_,trivial⟩ ?_
  ·rintro f M-⟨i0,-⟩
   exact aU (dD 0)
  ·rintro f M ⟨k0,-⟩-
   refine dU (aB (d:=15) rfl k0) ?_
   refine aW rfl rfl rfl (cK (vs:=[.agg #[pp rb 0],.int .i64 (3)]) jJ.ok rfl rfl) ?_
   intro w hw
   obtain⟨β1,sb,kn,hw1,back⟩:=St.frame (L:=[_]) (M:=M) hw
   refine(fO β1 w rb _ ((x.kind.toNat:Nat):Int) 3 hxf.k hw1).mono ?_
   rintro e w' ⟨rfl,hw'⟩
   refine⟨_,rfl,_,back _ _ hw',?_⟩
   refine aH ?_
   exact aO (aB (d:=15) rfl k0) rfl (aA 0 rfl)
  ·rintro f M ⟨k0,-⟩-
   exact hO (aB (d:=16) rfl k0) rfl (fW (a:=((x.kind.toNat:Nat):Int)) rfl ⟨_,aYf⟩ aTw (aUv _)) (.refl _)
  ·rintro f M-⟨i0,-⟩
   exact aU (dD 0)
  ·rintro f M ⟨k0,-⟩-
   refine dU (aB (d:=18) rfl k0) ?_
   refine aW rfl rfl rfl (cK (vs:=[.agg #[pp rb 0],.int .i64 (17)]) jJ.ok rfl rfl) ?_
   intro w hw
   obtain⟨β1,sb,kn,hw1,back⟩:=St.frame (L:=[_]) (M:=M) hw
   refine(fO β1 w rb _ x.owner 17 hxf.o hw1).mono ?_
   rintro e w' ⟨rfl,hw'⟩
   refine⟨_,rfl,_,back _ _ hw',?_⟩
   refine aH ?_
   exact aO (aB (d:=18) rfl k0) rfl (aA 0 rfl)
  ·rintro f M-⟨i0,-⟩
   exact aU (dD 0)
  ·rintro f M ⟨k0,-⟩-
   refine dU (aB (d:=20) rfl k0) ?_
   refine aW rfl rfl rfl (cK (vs:=[.agg #[pp rb 0],.int .i64 (17)]) jJ.ok rfl rfl) ?_
   intro w hw
   obtain⟨β1,sb,kn,hw1,back⟩:=St.frame (L:=[_]) (M:=M) hw
   refine(fO β1 w rb _ x.other 17 hxf.p hw1).mono ?_
   rintro e w' ⟨rfl,hw'⟩
   refine⟨_,rfl,_,back _ _ hw',?_⟩
   refine aH ?_
   exact aO (aB (d:=20) rfl k0) rfl (aA 0 rfl)
  ·rintro f M ⟨k0,k1,k2,-⟩-
   exact hO (aB (d:=21) (aB (d:=19) (aB (d:=17) rfl k0) k1) k2) rfl (cR aGu.ok bCk (vs:=[(0,Bx (x.kind)),(1,Ix (x.owner)),(2,Ix (x.other))]) (cells:= #[Bx (x.kind),Ix (x.owner),Ix (x.other),.int .i64 (0),.int .i64 (0),.int .i64 (0),.int .i64 (0),.int .i64 (0)]) rfl (by kernel_rfl)) (.refl _)
  ·rintro f M- -
   refine dU rfl ?_
   refine gB fun b8=>aH ?_
   exact aO rfl rfl (aA 0 rfl)
  ·rintro f M ⟨k0,k1,-⟩-
   have hs4:f 4= .pointer (some ⟨(cU (f 4)),0,none⟩):=k0
   refine dU (aB (d:=22) (aB rfl hs4) k1) ?_
   refine lu (mS 0 (#[Bx (x.kind),Ix (x.owner),Ix (x.other),.int .i64 (0),.int .i64 (0),.int .i64 (0),.int .i64 (0),.int .i64 (0)])) (aH ?_)
   exact bB (aB (d:=22) (aB rfl hs4) k1) trivial (aA 0 rfl)
  rintro fa9 ⟨-,-,-,-,-,-,-,-,k8,-,-⟩ ⟨j0,j1,j2,j3,j4,-⟩
  refine jI ?_
  refine aD (d:=1) j0 (aD (d:=2) j1 (aD (d:=3) j2 (aD (d:=4) k8 (aD (d:=12) j3 (aD (d:=13) j4 (rT ?_))))))
  refine jH [sv 23 (.agg #[pp rb 0]) [] [] [0],sv 24 (Ix (x.hold)) [0] [0] [],sv 25 (.agg #[pp rb 0]) [] [] [0],sv 26 (.agg (eI x.a)) [0,1,2] [2] [],sv 27 (.pointer (some ⟨(cU (fa9 4)),3,none⟩)) [0,1] [] [1],⟨[0,1,2,3,4],[4,1],[],[],fun _=>True⟩,sv 28 (.pointer (some ⟨(cU (fa9 4)),4,none⟩)) (List.range 6) [] [1],⟨(List.range 7),[6,3],[],[],fun _=>True⟩] [u0,u0,u1 [0,2],u0,(some 1,[1]),(some 5,[5])] [⟨(some 1),(some 3),[3],[],fun _=>fT rb (amK x.a 31 (kG (al.drop (k+1)) l))⟩,⟨(some 3),none,[],[],fun _=>fT rb (kG (al.drop (k+1)) l)⟩,⟨(some 5),(some 7),[7],[],fun _=>pt (cU (fa9 4)) (.cells #[Bx (x.kind),Ix (x.owner),Ix (x.other),Ix (x.hold),.int .i64 (0),.int .i64 (0),.int .i64 (0),.int .i64 (0)] 47)⟩,⟨(some 7),none,[],[],fun _=>pt (cU (fa9 4)) (.cells #[Bx (x.kind),Ix (x.owner),Ix (x.other),Ix (x.hold),Ix (x.a.a0),Ix (x.a.a1),Ix (x.a.a2),Ix (x.a.a3)] 47)⟩] [(1,pp b1 0),(4,.pointer (some ⟨(cU (fa9 4)),0,none⟩)),(2,pp b2 0),(3,.pointer (some ⟨(cU (fa5 3)),0,none⟩)),(12,Nx (min al.length 16)),(13,Nx (k))] [0,2,3,1,4,5] ⟨rfl,rfl,rfl,rfl,rfl,rfl,trivial⟩ ⟨?_,?_,?_,?_,?_,?_,?_,?_,trivial⟩ ?_
  ·rintro f M-⟨i0,-⟩
   exact aU (dD 0)
  ·rintro f M ⟨k0,-⟩-
   refine dU (aB (d:=23) rfl k0) ?_
   refine aW rfl rfl rfl (cK (vs:=[.agg #[pp rb 0],.int .i64 (64)]) jJ.ok rfl rfl) ?_
   intro w hw
   obtain⟨β1,sb,kn,hw1,back⟩:=St.frame (L:=[_]) (M:=M) hw
   refine(fO β1 w rb _ x.hold 64 hxf.h hw1).mono ?_
   rintro e w' ⟨rfl,hw'⟩
   refine⟨_,rfl,_,back _ _ hw',?_⟩
   refine aH ?_
   exact aO (aB (d:=23) rfl k0) rfl (aA 0 rfl)
  ·rintro f M-⟨i0,-⟩
   exact aU (dD 0)
  ·rintro f M ⟨k0,-⟩-
   refine dU (aB (d:=25) rfl k0) ?_
   refine aW rfl rfl rfl (cK (vs:=[.agg #[pp rb 0],.int .i64 (31)]) aLi.ok rfl rfl) ?_
   intro w hw
   obtain⟨β1,sb,kn,hw1,back⟩:=St.frame (L:=[_]) (M:=M) hw
   refine(xQ β1 w rb _ x.a 31 hxf.a hw1).mono ?_
   rintro e w' ⟨rfl,hw'⟩
   refine⟨_,rfl,_,back _ _ hw',?_⟩
   refine aH ?_
   exact aO (aB (d:=25) rfl k0) rfl (aA 0 rfl)
  ·rintro f M-⟨i0,-⟩
   exact aU aY
  ·rintro f M ⟨k0,k1,-⟩-
   refine dU (aB (d:=24) (aB (d:=27) rfl k0) k1) ?_
   refine lu (mS 0 (#[Bx (x.kind),Ix (x.owner),Ix (x.other),Ix (x.hold),.int .i64 (0),.int .i64 (0),.int .i64 (0),.int .i64 (0)])) (aH ?_)
   exact bB (aB (d:=24) (aB (d:=27) rfl k0) k1) trivial (aA 0 rfl)
  ·rintro f M-⟨i0,-⟩
   exact aU aY
  ·rintro f M ⟨k0,k1,-⟩-
   refine dU (aB (d:=26) (aB (d:=28) rfl k0) k1) ?_
   refine lu (mS 0 (#[Bx (x.kind),Ix (x.owner),Ix (x.other),Ix (x.hold),Ix (x.a.a0),Ix (x.a.a1),Ix (x.a.a2),Ix (x.a.a3)])) (aH ?_)
   exact bB (aB (d:=26) (aB (d:=28) rfl k0) k1) trivial (aA 0 rfl)
  rintro fa10 ⟨-,-,-,-,-,-,-,-,-⟩ ⟨j0,j1,j2,j3,j4,j5,-⟩
  refine jI ?_
  refine aD (d:=1) j0 (aD (d:=2) j1 (aD (d:=3) j2 (aD (d:=4) j3 (aD (d:=12) j4 (aD (d:=13) j5 ?_)))))
  refine bD (aC (lE aY (lE (fR 3) (lE (dD 5) ?_))))
  refine dX rfl rfl rfl (dO vZ aGu.ok (cells:= #[Bx (x.kind),Ix (x.owner),Ix (x.other),Ix (x.hold),Ix (x.a.a0),Ix (x.a.a1),Ix (x.a.a2),Ix (x.a.a3)]) rfl rfl rfl (by kernel_rfl)) ?_
  rintro _ _ ⟨b11,rfl,rfl⟩
  refine dX rfl rfl rfl (dF (F:=dI) 1 vZ bFv (p:=p) (m:=ys.length) (xs:=ys) (ys:=[x]) (ao:=(some ⟨b11,0,none⟩)) (k:=1) (c:=1) rfl rfl rfl rfl rfl (jM (z:=x) 0 rfl rfl) (by first|omega|simp only[List.length_nil,List.length_cons,List.length_append,List.length_set];omega) (by first|omega|simp only[List.length_nil,List.length_cons,List.length_append,List.length_set];omega)) ?_
  rintro _ _ ⟨rp12,rc13,rfl,rfl⟩
  refine lE aY (lu (mS 4 (#[Ix (au),Ix (nu),sB rp12 (ys++[x]) rc13])) (aH (aR (bD (aC ?_)))))
  refine lv (v:=Nx (k+1)) (bX rfl rfl (dA (by omega) (by omega))) (lE aX (aH (vP [5,1,2,3,4,0,6] 7 ?_)))
  refine dM (L':=[fT rb (kG (al.drop (k+1)) l),aM dI 47 rp12 rc13 (ys++[x]),pt b2 (.cells #[.int .i64 (0),.int .i64 (0),.slice none 0 0] 80),pt b1 (.cells #[pp rb 0] 168),pt (cU (fa5 3)) (.cells #[Ix (au),Ix (nu),sB rp12 (ys++[x]) rc13] 80)]) [true,true,true,true,true,false,false] rfl ?_
  exact bI ⟨(k+1,(ys++[x]),rp12,rc13),⟨⟨rfl,rfl,rfl,rfl,rfl⟩,rfl,⟨by omega,by rw[hys];exact jG hx⟩⟩,(show al.length-(k+1)<al.length-k from by omega)⟩
 refine cM (aG (aG (cN (kM (lE (dD 4) ?_)))))
 refine lu (aKf 2 bFx.ok (cs':= #[Ix (au),Ix (nu),sB p ys c]) rfl rfl rfl rfl rfl rfl rfl) (aN (aT ?_))
 refine gA (m:=[.agg #[Ix (au),Ix (nu),sB p ys c]]) Tryz.results87 ⟨bQ bFx.ok rfl (bY 2 rfl rfl) rfl,trivial⟩ rfl ?_
 intro w hw
 have hke:ys=al:=by rw[hys,List.take_of_length_le (by have:=hdf.few;omega)]
 have hde:al.drop k=[]:=List.drop_eq_nil_of_le (by have:=hdf.few;omega)
 replace hw:=hw.perm (L':=[aM dI 47 p c ys,fT rb (kG (al.drop k) l),pt b2 (.cells #[Ix (au),Ix (nu),sB p ys c] 80),pt b1 (.cells #[pp rb 0] 168),pt (cU (fa5 3)) (.cells #[Ix (au),Ix (nu),sB p ys c] 80)]) (by exact(aV [1,0,2,3,4] 5 rfl (by kernel_rfl) (by kernel_rfl)))
 replace hw:=aF (L':=[aM dI 47 p c ys,fT rb (kG (al.drop k) l)]) [true,true,false,false,false] rfl hw
 rw[hde,hke]at hw
 exact⟨_,_,by rw[hke]<;>rfl,hw⟩
theorem aFq(β:Base)(w:World)(hw:St β [] w):Calls Tryz.prog 84 #[] w fun r w'=>∃mp mh mm,r= .returned (.agg #[.map (some mp),.map (some mh),.int .i64 0,.int .i64 0,.int .i64 0,.int .i64 0,.int .i64 0,.map (some mm)])∧St β [aZ bW mp [],aZ bK mh [],aZ dS mm []] w':=by
 refine enter (n:=5) Tryz.func84 rfl Tryz.ntmps84 rfl ?_ hw
 refine bE (gB fun b1=>eY (dX rfl rfl rfl (xI (K:=bW)) ?_))
 rintro _ _ ⟨b2,rfl,rfl⟩
 refine dX rfl rfl rfl (xI (K:=bK)) ?_
 rintro _ _ ⟨b3,rfl,rfl⟩
 refine dX rfl rfl rfl (xI (K:=dS)) ?_
 rintro _ _ ⟨b4,rfl,rfl⟩
 refine lv (v:= .agg #[.map (some b2),.map (some b3),.int .i64 (0),.int .i64 (0),.int .i64 (0),.int .i64 (0),.int .i64 (0),.map (some b4)]) (cR bIg.ok bFh (vs:=[(0,.map (some b2)),(1,.map (some b3)),(4,.map (some b4))]) (cells:= #[.map (some b2),.map (some b3),.int .i64 (0),.int .i64 (0),.int .i64 (0),.int .i64 (0),.int .i64 (0),.map (some b4)]) rfl (by kernel_rfl)) ?_
 refine lu (mS 3 (#[.map (some b2),.map (some b3),.int .i64 (0),.int .i64 (0),.int .i64 (0),.int .i64 (0),.int .i64 (0),.map (some b4)])) (aN ?_)
 refine aT ?_
 refine gA (m:=[.agg #[.map (some b2),.map (some b3),.int .i64 (0),.int .i64 (0),.int .i64 (0),.int .i64 (0),.int .i64 (0),.map (some b4)]]) Tryz.results84 ⟨bQ aYe.ok rfl (bY 3 rfl rfl) rfl,trivial⟩ rfl ?_
 intro w hw
 replace hw:=hw.perm (L':=[aZ bW b2 [],aZ bK b3 [],aZ dS b4 [],pt b1 (.cells #[.map (some b2),.map (some b3),.int .i64 (0),.int .i64 (0),.int .i64 (0),.int .i64 (0),.int .i64 (0),.map (some b4)] 88)]) (by exact(aV [2,1,0,3] 4 rfl (by kernel_rfl) (by kernel_rfl)))
 replace hw:=aF (L':=[aZ bW b2 [],aZ bK b3 [],aZ dS b4 []]) [true,true,true,false] rfl hw
 exact⟨b2,b3,b4,rfl,hw⟩
end Go.Proofs
