/-
 Own work; plain Lean (Td10, Td11).
-/
import Derived.Test.YtjejfkajcbdgjaaGreatTd9
set_option linter.all false
set_option maxHeartbeats 4000000
namespace Go.Proofs
open Go Go.Sl Go.Td Go.Jn
instance tt118:FldC Tryz.prog 198 1 1 1 false:={}
instance tt119:FldC Tryz.prog 198 2 2 1 false:={}
instance tt120:UndC Tryz.prog 27 5:={}
instance bFy:CfC Tryz.prog 117:={}
instance bAl:CfC Tryz.prog 118:={}
theorem bAm:Tryz.prog.underlying 165=some (.pointer (Tryz.prog.pointee 165)):=by kernel_rfl
instance tt124:FldC Tryz.prog 198 0 0 1 false:={}
instance tt125:FldC Tryz.prog 198 3 3 1 false:={}
instance tt126:TyC Tryz.prog 34 false 1:={}
instance bFz:CfC Tryz.prog 150:={}
instance bGa:CfC Tryz.prog 149:={}
instance tt129:FldC Tryz.prog 168 0 0 1 false:={}
instance tt130:TyC Tryz.prog 165 false 1:={}
instance bGb:CfC Tryz.prog 137:={}
instance tt132:TyC Tryz.prog 168 true 1:={}
instance jT:CfC Tryz.prog 116:={}
theorem bGc:xC Tryz.prog 198 [(0,1),(1,1),(2,1),(3,1)]=true:=by kernel_rfl
instance bGd:ZerC Tryz.prog 198 (.agg #[.bool false,.slice none 0 0,.int .i64 (0),.int .i64 (0)]):={}
theorem aLn(β:Base)(w:World)(rb:Nat)(p:Option Addr)(c:Nat)(xs:List UInt8)(n:Nat)(hw:St β (rdL rb p c xs n) w)(hxl:xs.length≤65536)(k:Nat)(hn:n+k≤8*xs.length):Calls Tryz.prog 118 #[pp rb 0,Nx k] w fun r w'=>r= .returned (Ux (zR xs n k))∧St β (rdL rb p c xs (n+k)) w':=by
 refine enter (n:=41) Tryz.func118 rfl Tryz.ntmps118 rfl ?_ hw
 refine bD (lE bN (eY (lE bN (aN (eR (aC (lE aU (lE aU (aN (aJ ?_))))))))))
 refine cZ (fun(j:Nat) f L=>(f 0=pp rb 0∧f 5=Ux (zR xs n j)∧f 6=Nx (k)∧f 7=Nx (j))∧L=[pt rb (.cells #[.bool true,sB p xs c,Nx (n+j),.int .i64 (0)] 198),aK hG 5 p c xs]∧(j≤k)) (fun j=>k-j) 0 ?_ ?_
 ·exact⟨⟨rfl,rfl,rfl,rfl⟩,rfl,Nat.zero_le _⟩
 rintro j f0 L0 ⟨⟨hs0,hs5,hs6,hs7⟩,hL,hj⟩
 subst L0
 refine bJ 0 hs0 (bJ 5 hs5 (bJ 6 hs6 (bJ 7 hs7 (bD (lE gN (aN (aL (cN _ rfl (fun hc1=> ?_) (fun hc1=> ?_)))))))))
 ·refine eB (aL (aJ (aL (gS (by kernel_rfl) (by kernel_rfl) (qE aU ?_)))))
  refine dU (v:=Ux ((zR xs n j)<<<(1:UInt64))) rfl rfl rfl (aKd (a:=((zR xs n j).toNat:Int)) (b:=((1:Nat):Int)) rfl rfl (by decide) (aUq _ 1 (by decide))) ?_
  refine qE dS (qE eS (qE aY (qE (fQ 0) (qE dS (qE eS (qE aY (qE (cY 0) ?_)))))))
  refine dU (v:=Nx ((n+j)/8)) rfl rfl rfl (aKc (a:=((n+j:Nat):Int)) (b:=(8:Int)) rfl rfl (by decide) (cW (uX _ 8) (by omega))) ?_
  refine dU (v:= .pointer (some ((ba p).add (((n+j)/8)*1)))) rfl rfl rfl (eL 1 (F:=hG) rfl rfl rfl aJh (by omega) rfl) ?_
  obtain⟨x2,hx3⟩:∃x_,xs[(n+j)/8]? =some x_:=⟨_,List.getElem?_eq_getElem (by first|omega|decide)⟩
  refine dU (v:=Bx (x2)) rfl rfl rfl (bI tt5.ok rfl (lF 1 (F:=hG) rfl hx3)) (qE dS (qE eS (qE aY (qE (cY 0) ?_))))
  refine dU (v:=Nx ((n+j)%8)) rfl rfl rfl (lR (a:=((n+j:Nat):Int)) (b:=(8:Int)) rfl rfl (by decide) (gG _ 8)) ?_
  refine dU (v:=Nx (7-((n+j)%8))) rfl rfl rfl (eZ (congrArg (Value.int .i64) (by omega)) (oX (a:=(7:Int)) (b:=(((n+j)%8:Nat):Int)) rfl rfl (rD (by omega)))) ?_
  refine dU (v:=Bx (x2>>>UInt8.ofNat (7-((n+j)%8)))) rfl rfl rfl (wV (a:=((x2).toNat:Int)) (b:=((7-((n+j)%8):Nat):Int)) rfl rfl (by omega) (bBd _ (7-((n+j)%8)) (by omega))) ?_
  refine dU (v:=Bx ((x2>>>UInt8.ofNat (7-((n+j)%8)))&&&(1:UInt8))) rfl rfl rfl (aQi (a:=((x2>>>UInt8.ofNat (7-((n+j)%8))).toNat:Int)) (b:=(((1:UInt8)).toNat:Int)) rfl rfl (bBb _ _)) ?_
  refine dU (v:=Ux (((x2>>>UInt8.ofNat (7-((n+j)%8)))&&&(1:UInt8)).toUInt64)) rfl rfl rfl (gC (a:=(((x2>>>UInt8.ofNat (7-((n+j)%8)))&&&(1:UInt8)).toNat:Int)) rfl ⟨_,aUm⟩ aUl (aJj _)) ?_
  refine dU (v:=Ux (((zR xs n j)<<<(1:UInt64))|||(((x2>>>UInt8.ofNat (7-((n+j)%8)))&&&(1:UInt8)).toUInt64))) rfl rfl rfl (aWb (a:=(((zR xs n j)<<<(1:UInt64)).toNat:Int)) (b:=((((x2>>>UInt8.ofNat (7-((n+j)%8)))&&&(1:UInt8)).toUInt64).toNat:Int)) rfl rfl (bAz _ _)) ?_
  refine qE bN (lB (bA (aC (lE dS (lE eS (lE aY (lE (cY 0) ?_)))))))
  refine lv (v:=Nx ((n+j)+1)) (bO rfl rfl (cW (by omega) (by omega))) (lE eS (lE aY ?_))
  refine lu (mS 0 (#[.bool true,sB p xs c,Nx ((n+j)+1),.int .i64 (0)])) (aH (aP (bA (aC ?_))))
  refine lv (v:=Nx (j+1)) (bO rfl rfl (cW (by omega) (by omega))) (lE aU (aH ?_))
  exact bG ⟨j+1,⟨⟨rfl,congrArg (fun z:UInt64=>Value.int .u64 (z.toNat:Int)) (aXo hx3),rfl,rfl⟩,rfl,(by omega)⟩,(show k-(j+1)<k-j from by omega)⟩
 refine cK (aF (aF (cL (kM (lE aU (lE bN (aN (aV (dJ Tryz.results118 rfl ?_)))))))))
 intro w hw
 have hjk:j=k:=by omega
 subst hjk
 exact⟨rfl,hw⟩
theorem zW(β:Base)(w:World)(hw:St β [] w)(rb:Nat)(p:Option Addr)(m c n:Nat)(hc:Cs β.heap ⟨rb,0,none⟩ [.bool true,.slice p m c,Nx n,Ix 0])(hm:m≤65536)(hn:n≤8*m):oP Tryz.prog 117 #[pp rb 0] β w (Nx (8*m-n)):=by
 refine enter (n:=14) Tryz.func117 rfl Tryz.ntmps117 rfl ?_ hw
 refine bD (lE bN (aN (aL (gS (by kernel_rfl) (by kernel_rfl) (qE dS (qE eS (qE ofa ?_)))))))
 refine dU (v:= .slice p (m) c) rfl rfl rfl (bI bGx.ok rfl (bH.imp (kB hc) (fun _ h=>Cs.sub (vs:=[.slice p (m) c]) 1 h rfl))) ?_
 refine qE gY (dU (v:=Nx (8*m)) rfl rfl rfl (tC (a:=(8:Int)) (b:=((m:Nat):Int)) rfl rfl (cW (by omega) (by omega))) (qE dS ?_))
 refine qE eS (qE ofa (dU (v:=Nx (n)) rfl rfl rfl (bI tt2.ok rfl (bH.imp (kB hc) (fun _ h=>Cs.sub (vs:=[Nx (n)]) 2 h rfl))) ?_))
 refine dU (v:=Nx ((8*m)-n)) rfl rfl rfl (eZ (congrArg (Value.int .i64) (by omega)) (oX (a:=((8*m:Nat):Int)) (b:=((n:Nat):Int)) rfl rfl (rD (by omega)))) ?_
 refine qE bN (lB (ftr (dJ Tryz.results117 rfl ?_)))
 intro w hw
 exact⟨rfl,aG [] rfl hw⟩
theorem aXw(β:Base)(w:World)(rb:Nat)(p:Option Addr)(c:Nat)(xs:List UInt8)(n:Nat)(hw:St β (rdL rb p c xs n) w)(hxl:xs.length≤65536)(k:Nat)(hn:n+k≤8*xs.length):Calls Tryz.prog 150 #[pp rb 0,Nx k] w fun r w'=>r= .returned (.tuple #[Ux (zR xs n k),.int .i64 0])∧St β (rdL rb p c xs (n+k)) w':=by
 refine enter (n:=13) Tryz.func150 rfl Tryz.ntmps150 rfl ?_ hw
 refine bD (lE bN (lE bN (aN (eR (aC (lE aU (lE dS ?_)))))))
 refine gI gH (fun w β1 sb kn hw1=>zW β1 w hw1 rb _ _ _ _ (kn _ (cD 0 rfl rfl)) hxl (by omega)) (lE oQ (aN ?_))
 refine cN _ rfl (fun hc1=> ?_) (fun hc1=> ?_)
 ·exact absurd hc1 (by omega)
 refine eB (bD (lE dS (lE aU (aX rfl rfl rfl (cT (vs:=[pp rb 0,Nx (k)]) bAl.ok rfl rfl) ?_))))
 intro w hw
 obtain⟨β1,sb,kn,hw1,back⟩:=St.frame (L:=[_,_]) (M:=[]) hw
 refine(aLn β1 w rb _ _ xs n hw1 hxl k (by omega)).mono ?_
 rintro e w' ⟨rfl,hw'⟩
 refine⟨_,rfl,_,back _ _ hw',?_⟩
 refine lE bN (lE bN (aN (aV (nO (v:=Ux (zR xs n k)) (v':= .int .i64 (0)) Tryz.results150 rfl rfl ?_))))
 intro w hw
 exact⟨rfl,hw⟩
theorem aTn(β:Base)(w:World)(rb:Nat)(p:Option Addr)(c:Nat)(xs:List UInt8)(n:Nat)(hw:St β (rdL rb p c xs n) w)(hxl:xs.length≤65536)(k:Nat)(hn:n+k≤8*xs.length)(hk:k≤64):Calls Tryz.prog 149 #[pp rb 0,Nx k,.int .i64 64,.func (.func 150) #[pp rb 0] #[]] w fun r w'=>r= .returned (.tuple #[Ux (zR xs n k),.int .i64 0])∧St β (rdL rb p c xs (n+k)) w':=by
 refine enter (n:=54) Tryz.func149 rfl Tryz.ntmps149 rfl ?_ hw
 refine bD (lE bN (lE bN (aN (aL (aJ (bD (lE dS (lv (v:= .bool false) (iV (p:=some (⟨rb,0,none⟩)) rfl rfl bAm) (lE fM ?_)))))))))
 refine gE dS (gE eS (gE aY (gE (olb 0) (gE mB (lE dT (lE dP (aN (cR rfl (bD (lE aU (lE gN (lE fM ?_))))))))))))
 refine eO (s:=25) rfl (fun h=> ?_) (fun h=> ?_)
 exact absurd h (by omega)
 refine gE aU (gE aU (gE oQ (lE dT (lE dP (aN (cN _ rfl (fun hc1=> ?_) (fun hc1=> ?_)))))))
 ·exact absurd hc1 (by omega)
 refine bD (lE dS (lE eS (lE aY (lE (cY 0) (lE lO (lE dP (aN (cR rfl (cG (aP (kM (lE omf (lE aU ?_)))))))))))))
 refine aX rfl rfl rfl (uJ (fst:=[pp rb 0]) (cap:=[]) (vs:=[Nx (k)]) (all:=[pp rb 0,Nx (k)]) bFz.ok rfl rfl rfl) ?_
 intro w hw
 obtain⟨β1,sb,kn,hw1,back⟩:=St.frame (L:=[_,_]) (M:=[]) hw
 refine(aXw β1 w rb _ _ xs n hw1 hxl k (by omega)).mono ?_
 rintro e w' ⟨rfl,hw'⟩
 refine⟨_,rfl,_,back _ _ hw',?_⟩
 refine lE oM (lE pW (lE pW (lE bN (lE bN (aN (eR (aC (lE aU (lE lO (aN (cR rfl (eB (bD (lE aU (lE bN (lE bN (aN (aV ?_))))))))))))))))))
 refine nO (v:=Ux (zR xs n k)) (v':= .int .i64 (0)) Tryz.results149 rfl rfl ?_
 intro w hw
 exact⟨rfl,hw⟩
theorem aTk(β:Base)(w:World)(rb:Nat)(p:Option Addr)(c:Nat)(xs:List UInt8)(n:Nat)(hw:St β (rdL rb p c xs n) w)(hxl:xs.length≤65536)(k:Nat)(hn:n+k≤8*xs.length)(hk:k≤64):Calls Tryz.prog 137 #[pp rb 0,Nx k] w fun r w'=>r= .returned (.tuple #[Ux (zR xs n k),.int .i64 0])∧St β (rdL rb p c xs (n+k)) w':=by
 refine enter (n:=13) Tryz.func137 rfl Tryz.ntmps137 rfl ?_ hw
 refine bD (lE bN (lE bN (eY (lE dS (lE aU (lE dS (lv (v:= .func (.func 150) #[pp rb 0] #[]) (mW (u:=[pp rb 0]) (v:=[]) rfl rfl) ?_)))))))
 refine aX rfl rfl rfl (cT (vs:=[pp rb 0,Nx (k),.int .i64 (64),.func (.func 150) #[pp rb 0] #[]]) bGa.ok rfl rfl) ?_
 intro w hw
 obtain⟨β1,sb,kn,hw1,back⟩:=St.frame (L:=[_,_]) (M:=[]) hw
 refine(aTn β1 w rb _ _ xs n hw1 hxl k (by omega) hk).mono ?_
 rintro e w' ⟨rfl,hw'⟩
 refine⟨_,rfl,_,back _ _ hw',?_⟩
 refine lE pW (lE pW (lE bN (lE bN (aN (aV (nO (v:=Ux (zR xs n k)) (v':= .int .i64 (0)) Tryz.results137 rfl rfl ?_))))))
 intro w hw
 exact⟨rfl,hw⟩
theorem aTj(β:Base)(w:World)(rb:Nat)(p:Option Addr)(c:Nat)(xs:List UInt8)(n:Nat)(hw:St β (rdL rb p c xs n) w)(hxl:xs.length≤65536)(k:Nat)(hn:n+k≤8*xs.length)(hk:k≤64)(u:UInt64)(hu:zR xs n k=u):Calls Tryz.prog 137 #[pp rb 0,Nx k] w fun r w'=>r= .returned (.tuple #[Ux u,.int .i64 0])∧St β (rdL rb p c xs (n+k)) w':=by
 subst hu
 exact aTk β w rb p c xs n hw hxl k hn hk
theorem fS(β:Base)(w:World)(rb:Nat)(l:List Bool)(v:Int)(k:Nat)(hfit:Fits v k)(hw:St β [fW rb (aM (U v) k++l)] w):Calls Tryz.prog 116 #[.agg #[pp rb 0],Nx k] w fun r w'=>r= .returned (Ix v)∧St β [fW rb l] w':=by
 obtain⟨p,c,xs,n,hrd,hxl,hw⟩:=St.openRd hw
 obtain⟨hrv,hrd2,hn⟩:=hrd.get hfit.k64 (aPc hfit.f)
 have hk:=hfit.k64
 refine enter (n:=16) Tryz.func116 rfl Tryz.ntmps116 rfl ?_ hw
 refine bD (mL fun b1=> ?_)
 refine lE bN (eY (lE aY (lE (iR 0) (lE aU (aX rfl rfl rfl (cT (vs:=[pp rb 0,Nx (k)]) bGb.ok rfl rfl) ?_)))))
 intro w hw
 replace hw:=hw.perm (L':=_::_::_::[]) (by exact(((aB 0 rfl).trans (aB 2 rfl)).trans (aB 2 rfl)))
 obtain⟨β1,sb,kn,hw1,back⟩:=St.frame (L:=[_,_]) (M:=_::[]) hw
 refine(aTj β1 w rb _ _ xs n hw1 hxl k (by omega) hk _ hrv).mono ?_
 rintro e w' ⟨rfl,hw'⟩
 refine⟨_,rfl,_,back _ _ hw',?_⟩
 refine lE oM (lE pW (lE pW (lE bN (lE bN (eY (lE aU (lv (v:=Ix (v)) (gC (a:=((U v).toNat:Int)) rfl ⟨_,aUl⟩ aYv (bEs hfit.w)) ?_)))))))
 refine lE bN (aN (aV (dJ Tryz.results116 rfl ?_)))
 intro w hw
 replace hw:=aG (L':=[pt rb (.cells #[.bool true,sB p xs c,Nx (n+k),.int .i64 (0)] 198),aK hG 5 p c xs]) [true,true,false] rfl hw
 exact⟨rfl,St.closeRd (M:=[]) hrd2 hxl hw⟩
theorem yF(β:Base)(w:World)(rb:Nat)(l:List Bool)(a:KAm)(k:Nat)(hf:Fits a.a0 k∧Fits a.a1 k∧Fits a.a2 k∧Fits a.a3 k)(hw:St β [fW rb (amK a k l)] w):Calls Tryz.prog 115 #[.agg #[pp rb 0],Nx k] w fun r w'=>r= .returned (.agg (eK a))∧St β [fW rb l] w':=by
 replace hw:St β [fW rb (aM (U a.a0) k++(aM (U a.a1) k++(aM (U a.a2) k++(aM (U a.a3) k++l))))] w:=hw
 refine enter (n:=17) Tryz.func115 rfl Tryz.ntmps115 rfl ?_ hw
 refine bD (mL fun b1=> ?_)
 refine gB fun b2=>eY (gB fun b3=>aN (eR (aC (lE aU (aN (aJ (mU 5 (eH 4 (bD (lE gN (aN (aL (dN rfl (eB ?_))))))))))))))
 refine aL (aJ (bD (lE aU (lE bN (xJ (lE aU (lE (dK 2) (lE aU ?_))))))))
 refine aX rfl rfl rfl (cT (vs:=[.agg #[pp rb 0],Nx (k)]) jT.ok rfl rfl) ?_
 intro w hw
 replace hw:=hw.perm (L':=_::_::_::_::[]) (by exact((((aB 2 rfl).trans (aB 2 rfl)).trans (aB 2 rfl)).trans (aB 3 rfl)))
 obtain⟨β1,sb,kn,hw1,back⟩:=St.frame (L:=[_]) (M:=_::_::_::[]) hw
 refine(fS β1 w rb _ a.a0 k hf.1 hw1).mono ?_
 rintro e w' ⟨rfl,hw'⟩
 refine⟨_,rfl,_,back _ _ hw',?_⟩
 refine lv (v:=pp b3 0) (bF (b:=b3) (o:=0) (k:=0) rfl rfl qY.ok (by decide)) ?_
 refine lu (mS 1 (#[Ix (a.a0),.int .i64 (0),.int .i64 (0),.int .i64 (0)])) (aH (aP (bA (aC (lE rF (lE aU (aH (bG ?_))))))))
 refine eH 3 (bD (lE gN (aN (aL (dN rfl (eB (aL (aJ (bD (lE aU (lE bN (xJ (lE aU (lE (dK 3) (lE aU ?_)))))))))))))))
 refine aX rfl rfl rfl (cT (vs:=[.agg #[pp rb 0],Nx (k)]) jT.ok rfl rfl) ?_
 intro w hw
 obtain⟨β1,sb,kn,hw1,back⟩:=St.frame (L:=[_]) (M:=_::_::_::[]) hw
 refine(fS β1 w rb _ a.a1 k hf.2.1 hw1).mono ?_
 rintro e w' ⟨rfl,hw'⟩
 refine⟨_,rfl,_,back _ _ hw',?_⟩
 refine lv (v:=pp b3 1) (bF (b:=b3) (o:=0) (k:=1) rfl rfl qY.ok (by decide)) ?_
 refine lu (mS 1 (#[Ix (a.a0),Ix (a.a1),.int .i64 (0),.int .i64 (0)])) (aH (aP (bA (aC (lE rF (lE aU (aH (bG (eH 2 ?_)))))))))
 refine bD (lE gN (aN (aL (dN rfl (eB (aL (aJ (bD (lE aU (lE bN (xJ (lE aU (lE (dK 3) (lE aU ?_))))))))))))))
 refine aX rfl rfl rfl (cT (vs:=[.agg #[pp rb 0],Nx (k)]) jT.ok rfl rfl) ?_
 intro w hw
 obtain⟨β1,sb,kn,hw1,back⟩:=St.frame (L:=[_]) (M:=_::_::_::[]) hw
 refine(fS β1 w rb _ a.a2 k hf.2.2.1 hw1).mono ?_
 rintro e w' ⟨rfl,hw'⟩
 refine⟨_,rfl,_,back _ _ hw',?_⟩
 refine lv (v:=pp b3 2) (bF (b:=b3) (o:=0) (k:=2) rfl rfl qY.ok (by decide)) ?_
 refine lu (mS 1 (#[Ix (a.a0),Ix (a.a1),Ix (a.a2),.int .i64 (0)])) (aH (aP (bA (aC (lE rF (lE aU (aH (bG (eH 1 (bD ?_))))))))))
 refine lE gN (aN (aL (dN rfl (eB (aL (aJ (bD (lE aU (lE bN (xJ (lE aU (lE (dK 3) (lE aU ?_)))))))))))))
 refine aX rfl rfl rfl (cT (vs:=[.agg #[pp rb 0],Nx (k)]) jT.ok rfl rfl) ?_
 intro w hw
 obtain⟨β1,sb,kn,hw1,back⟩:=St.frame (L:=[_]) (M:=_::_::_::[]) hw
 refine(fS β1 w rb _ a.a3 k hf.2.2.2 hw1).mono ?_
 rintro e w' ⟨rfl,hw'⟩
 refine⟨_,rfl,_,back _ _ hw',?_⟩
 refine lv (v:=pp b3 3) (bF (b:=b3) (o:=0) (k:=3) rfl rfl qY.ok (by decide)) (lu (mS 1 (eK a)) (aH (aP (bA (aC ?_)))))
 refine lE rF (lE aU (aH (bG (eH 0 (bD (lE gN (aN (aL (cR rfl (cK (aF (aF (cL (kM (lE (dK 1) ?_)))))))))))))))
 refine lu (mS 2 (eK a)) (aN (aV (gK (m:=[.agg (eK a)]) Tryz.results115 ⟨bS tt0.ok rfl (cD 2 rfl rfl) rfl,trivial⟩ rfl ?_)))
 intro w hw
 replace hw:=aG (L':=[fW rb l]) [true,false,false,false] rfl hw
 exact⟨rfl,hw⟩
theorem aLl(β:Base)(w:World)(rb:Nat)(hw:St β [fW rb []] w):Calls Tryz.prog 88 #[pp rb 0] w fun r w'=>r= .returned (Ix 0)∧St β [fW rb []] w':=by
 obtain⟨p,c,xs,n,hrd,hxl,hw⟩:=St.openRd hw
 obtain⟨he0,he1,he2⟩:=hrd.end_
 refine enter (n:=45) Tryz.func88 rfl Tryz.ntmps88 rfl ?_ hw
 refine bD (lE bN (aN (aL (aJ (bD (lE dS (lv (v:= .bool false) (iV (p:=some (⟨rb,0,none⟩)) rfl rfl bAm) (lE fM (gE dS ?_)))))))))
 refine gE eS (gE aY (gE (olb 0) (gE mB (lE dT (lE dP (aN (cR rfl (bD (lE dS (lE eS (lE aY (lE (cY 0) (lE lO (lE dP (aN (cR rfl ?_))))))))))))))))
 refine cG (aP (kM (lE dS (lE eS (lE aY (lE (cY 0) (lE bN (aN (eR (aC (lE dS ?_)))))))))))
 refine gI gH (fun w β1 sb kn hw1=>zW β1 w hw1 rb _ _ _ _ (kn _ (cD 0 rfl rfl)) hxl (by omega)) (lE oQ (lE fM ?_))
 refine eO (s:=31) rfl (fun h=> ?_) (fun h=> ?_)
 exact absurd h (by omega)
 refine gE dS (gE dS (eM rfl rfl rfl rfl rfl (cT (vs:=[pp rb 0]) bFy.ok rfl rfl) ?_))
 intro w hw
 obtain⟨β1,sb,kn,hw1,back⟩:=St.frame_all hw
 refine(zW β1 w hw1 rb _ _ _ _ (kn _ (cD 0 rfl rfl)) hxl (by omega)).mono ?_
 rintro e w' ⟨rfl,hw'⟩
 refine⟨_,rfl,_,back _ _ hw',?_⟩
 refine eM rfl rfl rfl rfl rfl (cT (vs:=[pp rb 0,Nx (8*xs.length-n)]) bAl.ok rfl rfl) ?_
 intro w hw
 obtain⟨β1,sb,kn,hw1,back⟩:=St.frame (L:=[_,_]) (M:=[]) hw
 refine(aLn β1 w rb _ _ xs n hw1 hxl (8*xs.length-n) (by omega)).mono ?_
 rintro e w' ⟨rfl,hw'⟩
 refine⟨_,rfl,_,back _ _ hw',?_⟩
 refine gE lO (lE dT (aN (cN _ rfl (fun hc1=> ?_) (fun hc1=> ?_))))
 ·exact absurd hc1 (by rw[he0];decide)
 refine eB (bD (lE dS (lE aU (lE eS (lE aY (lu (mS 0 (#[.bool true,sB p xs c,Nx (n),.int .i64 (0)])) (eY (lE bN (aN (aV ?_))))))))))
 refine dJ Tryz.results88 rfl ?_
 intro w hw
 exact⟨rfl,St.closeRd (M:=[]) hrd hxl hw⟩
theorem aKz(β:Base)(w:World)(hw:St β [] w)(v:Value)(bs:List UInt8)(hs:Sl iT β.heap v bs)(n:Nat)(l:List Bool)(hb:Wr bs n l)(hbl:bs.length≤65536):Calls Tryz.prog 86 #[v] w fun r w'=>∃rb,r= .returned (pp rb 0)∧St β [fW rb l] w':=by
 obtain⟨va,vc,rfl,vl,vm,ve⟩:=hs.get
 refine enter (n:=7) Tryz.func86 rfl Tryz.ntmps86 rfl ?_ hw
 refine bD (lE oap (eY (lE fL ?_)))
 refine pV (cT (vs:=[sB va bs (vc)]) bHa.ok rfl rfl) rfl fun w β1 sb kn hw1 back=>(lQ β1 w hw1 bs _ (by omega) (Sl.mono _ _ _ _ _ sb (⟨⟨_,_,rfl,vl,vm,ve⟩⟩:Sl iT _ _ bs))).mono ?_
 rintro e w' ⟨p1,c2,rfl,hw'⟩
 refine⟨_,rfl,_,back _ _ hw',?_⟩
 refine lv (v:= .agg #[.bool true,sB p1 bs c2,.int .i64 (0),.int .i64 (0)]) (bV bGd.ok bGc (vs:=[(0,.bool true),(1,sB p1 bs c2)]) (cells:= #[.bool true,sB p1 bs c2,.int .i64 (0),.int .i64 (0)]) rfl rfl) ?_
 refine mL fun b3=> ?_
 refine lE oap (aN (aV (dJ Tryz.results86 rfl ?_)))
 intro w hw
 unfold rB at hw;unfold sB at hw;rw[aXx]at hw
 exact⟨_,rfl,St.closeRd (M:=[]) hb.rd hbl hw⟩
end Go.Proofs
namespace Go.Sl
theorem aVk(x:UInt8):IntKind.u8.wrap ((x.toNat:Nat):Int)=(x.toNat:Int):=by
 rw[u8w];have:=x.toNat_lt;omega
end Go.Sl
namespace Go.Proofs
open Go Go.Sl Go.Td Go.Jn
instance aLy:CfC Tryz.prog 115:={}
theorem bGe:xC Tryz.prog 88 [(0,1),(1,1),(2,1),(3,4),(7,1)]=true:=by kernel_rfl
theorem aFv(β:Base)(w:World)(rb:Nat)(au nu:Int)(al:List KAct)(l:List Bool)(hdf:DealFit au nu al)(hw:St β [fW rb (aBh au nu al l)] w):Calls Tryz.prog 87 #[.agg #[pp rb 0]] w fun r w'=>∃p c,r= .returned (.agg #[Ix au,Ix nu,sB p al c])∧St β [aK cJ 47 p c al,fW rb l] w':=by
 replace hw:St β [fW rb (aM (U au) 7++(aM (U nu) 41++(aM (U ((al.length:Nat):Int)) 9++kO al l)))] w:=hw
 have hf16:=hdf.few
 refine enter (n:=37) Tryz.func87 rfl Tryz.ntmps87 rfl ?_ hw
 refine bD (mL fun b1=> ?_)
 refine gB fun b2=>aN (aL ?_)
 refine jS [sv 5 (.agg #[pp rb 0]) [] [] [0],sv 6 (Ix (au)) [0] [0] [],sv 7 (.agg #[pp rb 0]) [] [] [0],sv 8 (Ix (nu)) [0,1,2] [2] [],sv 9 (.agg #[Ix (au),Ix (nu),.slice none 0 0]) [0,1,2,3] [1,3] [],⟨[],[],[],[3],fun f=>f 3= .pointer (some ⟨(bY (f 3)),0,none⟩)⟩,⟨(List.range 6),[5,4],[],[],fun _=>True⟩] [u0,u1 [0,2],(some 1,[1])] [⟨(some 1),(some 3),[3],[],fun _=>fW rb (aM (U nu) 41++(aM (U ((al.length:Nat):Int)) 9++kO al l))⟩,⟨(some 3),none,[],[],fun _=>fW rb (aM (U ((al.length:Nat):Int)) 9++kO al l)⟩,⟨(some 5),(some 6),[6],[3],fun f=>pt (bY (f 3)) (.cells #[.int .i64 (0),.int .i64 (0),.slice none 0 0] 80)⟩,⟨(some 6),none,[],[3],fun f=>pt (bY (f 3)) (.cells #[Ix (au),Ix (nu),.slice none 0 0] 80)⟩] [(1,pp b1 0),(2,pp b2 0)] [0,1] ⟨rfl,rfl,trivial⟩ ⟨?_,?_,?_,?_,?_,?_,?_,trivial⟩ ?_
 ·rintro f M-⟨i0,-⟩
  exact aT (dK 0)
 ·rintro f M ⟨k0,-⟩-
  refine dL (aA (d:=5) rfl k0) ?_
  refine aX rfl rfl rfl (cT (vs:=[.agg #[pp rb 0],.int .i64 (7)]) jT.ok rfl rfl) ?_
  intro w hw
  obtain⟨β1,sb,kn,hw1,back⟩:=St.frame (L:=[_]) (M:=M) hw
  refine(fS β1 w rb _ au 7 hdf.a hw1).mono ?_
  rintro e w' ⟨rfl,hw'⟩
  refine⟨_,rfl,_,back _ _ hw',?_⟩
  refine aH ?_
  exact aO (aA (d:=5) rfl k0) rfl (aB 0 rfl)
 ·rintro f M-⟨i0,-⟩
  exact aT (dK 0)
 ·rintro f M ⟨k0,-⟩-
  refine dL (aA (d:=7) rfl k0) ?_
  refine aX rfl rfl rfl (cT (vs:=[.agg #[pp rb 0],.int .i64 (41)]) jT.ok rfl rfl) ?_
  intro w hw
  obtain⟨β1,sb,kn,hw1,back⟩:=St.frame (L:=[_]) (M:=M) hw
  refine(fS β1 w rb _ nu 41 hdf.n hw1).mono ?_
  rintro e w' ⟨rfl,hw'⟩
  refine⟨_,rfl,_,back _ _ hw',?_⟩
  refine aH ?_
  exact aO (aA (d:=7) rfl k0) rfl (aB 0 rfl)
 ·rintro f M ⟨k0,k1,-⟩-
  exact gO (aA (d:=8) (aA (d:=6) rfl k0) k1) rfl (bV bHf.ok bHe (vs:=[(0,Ix (au)),(1,Ix (nu))]) (cells:= #[Ix (au),Ix (nu),.slice none 0 0]) rfl rfl) (.refl _)
 ·rintro f M- -
  refine dL rfl ?_
  refine gB fun b4=>aH ?_
  exact aO rfl rfl (aB 0 rfl)
 ·rintro f M ⟨k0,k1,-⟩-
  have hs3:f 3= .pointer (some ⟨(bY (f 3)),0,none⟩):=k0
  refine dL (aA (d:=9) (aA rfl hs3) k1) ?_
  refine lu (mS 0 (#[Ix (au),Ix (nu),.slice none 0 0])) (aH ?_)
  exact bC (aA (d:=9) (aA rfl hs3) k1) trivial (aB 0 rfl)
 rintro fa5 ⟨-,-,-,-,-,k5,-,-⟩ ⟨j0,j1,-⟩
 refine jD ?_
 refine aD (d:=1) j0 (aD (d:=2) j1 (aD (d:=3) k5 (qV (aL (iK (r:=aK cJ 47 none 0 []) (eA _ _ _) (aC ?_))))))
 refine lE (dK 2) (aX rfl rfl rfl (cT (vs:=[.agg #[pp rb 0],.int .i64 (9)]) jT.ok rfl rfl) ?_)
 intro w hw
 replace hw:=hw.perm (L':=_::_::_::_::_::[]) (by exact(((((aB 4 rfl).trans (aB 3 rfl)).trans (aB 3 rfl)).trans (aB 3 rfl)).trans (aB 4 rfl)))
 obtain⟨β1,sb,kn,hw1,back⟩:=St.frame (L:=[_]) (M:=_::_::_::_::[]) hw
 refine(fS β1 w rb _ ((al.length:Nat):Int) 9 hdf.l hw1).mono ?_
 rintro e w' ⟨rfl,hw'⟩
 refine⟨_,rfl,_,back _ _ hw',?_⟩
 refine lv (v:=Nx (min al.length 16)) (eZ (congrArg (Value.int .i64) (by omega)) (aKa (a:=((al.length:Nat):Int)) (b:=(16:Int)) rfl rfl)) ?_
 refine lE aU (aN (aJ ?_))
 refine cZ (fun(x_:Nat×List KAct×Option Addr×Nat) f L=>match x_ with|(k,ys,p,c)=>(f 1=pp b1 0∧f 2=pp b2 0∧f 3= .pointer (some ⟨(bY (fa5 3)),0,none⟩)∧f 12=Nx (min al.length 16)∧f 13=Nx (k))∧L=[fW rb (kO (al.drop k) l),aK cJ 47 p c ys,pt b2 (.cells #[.int .i64 (0),.int .i64 (0),.slice none 0 0] 80),pt b1 (.cells #[pp rb 0] 168),pt (bY (fa5 3)) (.cells #[Ix (au),Ix (nu),sB p ys c] 80)]∧(k≤al.length∧ys=al.take k)) (fun(k,ys,p,c)=>al.length-k) (0,[],none,0) ?_ ?_
 ·exact⟨⟨rfl,rfl,rfl,rfl,rfl⟩,rfl,⟨Nat.zero_le _,rfl⟩⟩
 rintro⟨k,ys,p,c⟩ f0 L0 ⟨⟨hs1,hs2,hs3,hs12,hs13⟩,hL,⟨hk,hys⟩⟩
 subst L0
 refine bJ 1 hs1 (bJ 2 hs2 (bJ 3 hs3 (bJ 12 hs12 (bJ 13 hs13 ?_))))
 have hyl:ys.length=k:=by rw[hys,List.length_take];omega
 have h16:=hdf.few
 refine bD (lE gN (aN (aL (cN _ rfl (fun hc6=> ?_) (fun hc6=> ?_)))))
 ·refine eB (aL (aJ (aL ?_)))
  obtain⟨x,hx⟩:∃x,al[k]? =some x:=⟨_,List.getElem?_eq_getElem (by omega)⟩
  have hxf:=hdf.x x (List.mem_of_getElem? hx)
  refine rC (L':=[fW rb (aM (U ((x.kind.toNat:Nat):Int)) 3++(aM (U x.owner) 17++(aM (U x.other) 17++(aM (U x.hold) 64++(amK x.a 31 (kO (al.drop (k+1)) l)))))),aK cJ 47 p c ys,pt b2 (.cells #[.int .i64 (0),.int .i64 (0),.slice none 0 0] 80),pt b1 (.cells #[pp rb 0] 168),pt (bY (fa5 3)) (.cells #[Ix (au),Ix (nu),sB p ys c] 80)]) (by rw[aHr hx]) ?_
  refine jS [sv 15 (.agg #[pp rb 0]) [] [] [0],sv 16 (Nx (x.kind.toNat)) [0] [0] [],sv 17 (Bx (x.kind)) [0,1] [1] [],sv 18 (.agg #[pp rb 0]) [] [] [0],sv 19 (Ix (x.owner)) [0,1,3] [3] [],sv 20 (.agg #[pp rb 0]) [] [] [0],sv 21 (Ix (x.other)) [0,1,3,4,5] [5] [],sv 22 (.agg #[Bx (x.kind),Ix (x.owner),Ix (x.other),.int .i64 (0),.int .i64 (0),.int .i64 (0),.int .i64 (0),.int .i64 (0)]) (List.range 7) [2,4,6] [],⟨[],[],[],[4],fun f=>f 4= .pointer (some ⟨(bY (f 4)),0,none⟩)⟩,⟨(List.range 9),[8,7],[],[],fun _=>True⟩] [(some 1,[1]),u0,u0,u1 [0,3,5]] [⟨(some 1),(some 4),[4],[],fun _=>fW rb (aM (U x.owner) 17++(aM (U x.other) 17++(aM (U x.hold) 64++(amK x.a 31 (kO (al.drop (k+1)) l)))))⟩,⟨(some 4),(some 6),[6],[],fun _=>fW rb (aM (U x.other) 17++(aM (U x.hold) 64++(amK x.a 31 (kO (al.drop (k+1)) l))))⟩,⟨(some 6),none,[],[],fun _=>fW rb (aM (U x.hold) 64++(amK x.a 31 (kO (al.drop (k+1)) l)))⟩,⟨(some 8),(some 9),[9],[4],fun f=>pt (bY (f 4)) (.cells #[.int .u8 (0),.int .i64 (0),.int .i64 (0),.int .i64 (0),.int .i64 (0),.int .i64 (0),.int .i64 (0),.int .i64 (0)] 47)⟩,⟨(some 9),none,[],[4],fun f=>pt (bY (f 4)) (.cells #[Bx (x.kind),Ix (x.owner),Ix (x.other),.int .i64 (0),.int .i64 (0),.int .i64 (0),.int .i64 (0),.int .i64 (0)] 47)⟩] [(1,pp b1 0),(2,pp b2 0),(3,.pointer (some ⟨(bY (fa5 3)),0,none⟩)),(12,Nx (min al.length 16)),(13,Nx (k))] [0,1,2,3,4] ⟨rfl,rfl,rfl,rfl,rfl,trivial⟩ ⟨?_,?_,?_,?_,?_,?_,?_,?_,?_,?_,trivial⟩ ?_
  ·rintro f M-⟨i0,-⟩
   exact aT (dK 0)
  ·rintro f M ⟨k0,-⟩-
   refine dL (aA (d:=15) rfl k0) ?_
   refine aX rfl rfl rfl (cT (vs:=[.agg #[pp rb 0],.int .i64 (3)]) jT.ok rfl rfl) ?_
   intro w hw
   obtain⟨β1,sb,kn,hw1,back⟩:=St.frame (L:=[_]) (M:=M) hw
   refine(fS β1 w rb _ ((x.kind.toNat:Nat):Int) 3 hxf.k hw1).mono ?_
   rintro e w' ⟨rfl,hw'⟩
   refine⟨_,rfl,_,back _ _ hw',?_⟩
   refine aH ?_
   exact aO (aA (d:=15) rfl k0) rfl (aB 0 rfl)
  ·rintro f M ⟨k0,-⟩-
   exact gO (aA (d:=16) rfl k0) rfl (gC (a:=((x.kind.toNat:Nat):Int)) rfl ⟨_,aYv⟩ aUm (aVk _)) (.refl _)
  ·rintro f M-⟨i0,-⟩
   exact aT (dK 0)
  ·rintro f M ⟨k0,-⟩-
   refine dL (aA (d:=18) rfl k0) ?_
   refine aX rfl rfl rfl (cT (vs:=[.agg #[pp rb 0],.int .i64 (17)]) jT.ok rfl rfl) ?_
   intro w hw
   obtain⟨β1,sb,kn,hw1,back⟩:=St.frame (L:=[_]) (M:=M) hw
   refine(fS β1 w rb _ x.owner 17 hxf.o hw1).mono ?_
   rintro e w' ⟨rfl,hw'⟩
   refine⟨_,rfl,_,back _ _ hw',?_⟩
   refine aH ?_
   exact aO (aA (d:=18) rfl k0) rfl (aB 0 rfl)
  ·rintro f M-⟨i0,-⟩
   exact aT (dK 0)
  ·rintro f M ⟨k0,-⟩-
   refine dL (aA (d:=20) rfl k0) ?_
   refine aX rfl rfl rfl (cT (vs:=[.agg #[pp rb 0],.int .i64 (17)]) jT.ok rfl rfl) ?_
   intro w hw
   obtain⟨β1,sb,kn,hw1,back⟩:=St.frame (L:=[_]) (M:=M) hw
   refine(fS β1 w rb _ x.other 17 hxf.p hw1).mono ?_
   rintro e w' ⟨rfl,hw'⟩
   refine⟨_,rfl,_,back _ _ hw',?_⟩
   refine aH ?_
   exact aO (aA (d:=20) rfl k0) rfl (aB 0 rfl)
  ·rintro f M ⟨k0,k1,k2,-⟩-
   exact gO (aA (d:=21) (aA (d:=19) (aA (d:=17) rfl k0) k1) k2) rfl (bV aHh.ok bDc (vs:=[(0,Bx (x.kind)),(1,Ix (x.owner)),(2,Ix (x.other))]) (cells:= #[Bx (x.kind),Ix (x.owner),Ix (x.other),.int .i64 (0),.int .i64 (0),.int .i64 (0),.int .i64 (0),.int .i64 (0)]) rfl (by kernel_rfl)) (.refl _)
  ·rintro f M- -
   refine dL rfl ?_
   refine gB fun b8=>aH ?_
   exact aO rfl rfl (aB 0 rfl)
  ·rintro f M ⟨k0,k1,-⟩-
   have hs4:f 4= .pointer (some ⟨(bY (f 4)),0,none⟩):=k0
   refine dL (aA (d:=22) (aA rfl hs4) k1) ?_
   refine lu (mS 0 (#[Bx (x.kind),Ix (x.owner),Ix (x.other),.int .i64 (0),.int .i64 (0),.int .i64 (0),.int .i64 (0),.int .i64 (0)])) (aH ?_)
   exact bC (aA (d:=22) (aA rfl hs4) k1) trivial (aB 0 rfl)
  rintro fa9 ⟨-,-,-,-,-,-,-,-,k8,-,-⟩ ⟨j0,j1,j2,j3,j4,-⟩
  refine jD ?_
  refine aD (d:=1) j0 (aD (d:=2) j1 (aD (d:=3) j2 (aD (d:=4) k8 (aD (d:=12) j3 (aD (d:=13) j4 (qV ?_))))))
  refine jS [sv 23 (.agg #[pp rb 0]) [] [] [0],sv 24 (Ix (x.hold)) [0] [0] [],sv 25 (.agg #[pp rb 0]) [] [] [0],sv 26 (.agg (eK x.a)) [0,1,2] [2] [],sv 27 (.pointer (some ⟨(bY (fa9 4)),3,none⟩)) [0,1] [] [1],⟨[0,1,2,3,4],[4,1],[],[],fun _=>True⟩,sv 28 (.pointer (some ⟨(bY (fa9 4)),4,none⟩)) (List.range 6) [] [1],⟨(List.range 7),[6,3],[],[],fun _=>True⟩] [u0,u0,u1 [0,2],u0,(some 1,[1]),(some 5,[5])] [⟨(some 1),(some 3),[3],[],fun _=>fW rb (amK x.a 31 (kO (al.drop (k+1)) l))⟩,⟨(some 3),none,[],[],fun _=>fW rb (kO (al.drop (k+1)) l)⟩,⟨(some 5),(some 7),[7],[],fun _=>pt (bY (fa9 4)) (.cells #[Bx (x.kind),Ix (x.owner),Ix (x.other),Ix (x.hold),.int .i64 (0),.int .i64 (0),.int .i64 (0),.int .i64 (0)] 47)⟩,⟨(some 7),none,[],[],fun _=>pt (bY (fa9 4)) (.cells #[Bx (x.kind),Ix (x.owner),Ix (x.other),Ix (x.hold),Ix (x.a.a0),Ix (x.a.a1),Ix (x.a.a2),Ix (x.a.a3)] 47)⟩] [(1,pp b1 0),(4,.pointer (some ⟨(bY (fa9 4)),0,none⟩)),(2,pp b2 0),(3,.pointer (some ⟨(bY (fa5 3)),0,none⟩)),(12,Nx (min al.length 16)),(13,Nx (k))] [0,2,3,1,4,5] ⟨rfl,rfl,rfl,rfl,rfl,rfl,trivial⟩ ⟨?_,?_,?_,?_,?_,?_,?_,?_,trivial⟩ ?_
  ·rintro f M-⟨i0,-⟩
   exact aT (dK 0)
  ·rintro f M ⟨k0,-⟩-
   refine dL (aA (d:=23) rfl k0) ?_
   refine aX rfl rfl rfl (cT (vs:=[.agg #[pp rb 0],.int .i64 (64)]) jT.ok rfl rfl) ?_
   intro w hw
   obtain⟨β1,sb,kn,hw1,back⟩:=St.frame (L:=[_]) (M:=M) hw
   refine(fS β1 w rb _ x.hold 64 hxf.h hw1).mono ?_
   rintro e w' ⟨rfl,hw'⟩
   refine⟨_,rfl,_,back _ _ hw',?_⟩
   refine aH ?_
   exact aO (aA (d:=23) rfl k0) rfl (aB 0 rfl)
  ·rintro f M-⟨i0,-⟩
   exact aT (dK 0)
  ·rintro f M ⟨k0,-⟩-
   refine dL (aA (d:=25) rfl k0) ?_
   refine aX rfl rfl rfl (cT (vs:=[.agg #[pp rb 0],.int .i64 (31)]) aLy.ok rfl rfl) ?_
   intro w hw
   obtain⟨β1,sb,kn,hw1,back⟩:=St.frame (L:=[_]) (M:=M) hw
   refine(yF β1 w rb _ x.a 31 hxf.a hw1).mono ?_
   rintro e w' ⟨rfl,hw'⟩
   refine⟨_,rfl,_,back _ _ hw',?_⟩
   refine aH ?_
   exact aO (aA (d:=25) rfl k0) rfl (aB 0 rfl)
  ·rintro f M-⟨i0,-⟩
   exact aT aY
  ·rintro f M ⟨k0,k1,-⟩-
   refine dL (aA (d:=24) (aA (d:=27) rfl k0) k1) ?_
   refine lu (mS 0 (#[Bx (x.kind),Ix (x.owner),Ix (x.other),Ix (x.hold),.int .i64 (0),.int .i64 (0),.int .i64 (0),.int .i64 (0)])) (aH ?_)
   exact bC (aA (d:=24) (aA (d:=27) rfl k0) k1) trivial (aB 0 rfl)
  ·rintro f M-⟨i0,-⟩
   exact aT aY
  ·rintro f M ⟨k0,k1,-⟩-
   refine dL (aA (d:=26) (aA (d:=28) rfl k0) k1) ?_
   refine lu (mS 0 (#[Bx (x.kind),Ix (x.owner),Ix (x.other),Ix (x.hold),Ix (x.a.a0),Ix (x.a.a1),Ix (x.a.a2),Ix (x.a.a3)])) (aH ?_)
   exact bC (aA (d:=26) (aA (d:=28) rfl k0) k1) trivial (aB 0 rfl)
  rintro fa10 ⟨-,-,-,-,-,-,-,-,-⟩ ⟨j0,j1,j2,j3,j4,j5,-⟩
  refine jD ?_
  refine aD (d:=1) j0 (aD (d:=2) j1 (aD (d:=3) j2 (aD (d:=4) j3 (aD (d:=12) j4 (aD (d:=13) j5 ?_)))))
  refine bA (aC (lE aY (lE (fQ 3) (lE (dK 5) ?_))))
  refine dA rfl rfl rfl (bZ wR aHh.ok (cells:= #[Bx (x.kind),Ix (x.owner),Ix (x.other),Ix (x.hold),Ix (x.a.a0),Ix (x.a.a1),Ix (x.a.a2),Ix (x.a.a3)]) rfl rfl rfl (by kernel_rfl)) ?_
  rintro _ _ ⟨b11,rfl,rfl⟩
  refine dA rfl rfl rfl (cF (F:=cJ) 1 wR bGs (p:=p) (m:=ys.length) (xs:=ys) (ys:=[x]) (ao:=(some ⟨b11,0,none⟩)) (k:=1) (c:=1) rfl rfl rfl rfl rfl (gX (z:=x) 0 rfl rfl) (by first|omega|simp only[List.length_nil,List.length_cons,List.length_append,List.length_set];omega) (by first|omega|simp only[List.length_nil,List.length_cons,List.length_append,List.length_set];omega)) ?_
  rintro _ _ ⟨rp12,rc13,rfl,rfl⟩
  refine lE aY (lu (mS 4 (#[Ix (au),Ix (nu),sB rp12 (ys++[x]) rc13])) (aH (aP (bA (aC ?_)))))
  refine lv (v:=Nx (k+1)) (bO rfl rfl (cW (by omega) (by omega))) (lE aU (aH (tZ [5,1,2,3,4,0,6] 7 ?_)))
  refine dD (L':=[fW rb (kO (al.drop (k+1)) l),aK cJ 47 rp12 rc13 (ys++[x]),pt b2 (.cells #[.int .i64 (0),.int .i64 (0),.slice none 0 0] 80),pt b1 (.cells #[pp rb 0] 168),pt (bY (fa5 3)) (.cells #[Ix (au),Ix (nu),sB rp12 (ys++[x]) rc13] 80)]) [true,true,true,true,true,false,false] rfl ?_
  exact bG ⟨(k+1,(ys++[x]),rp12,rc13),⟨⟨rfl,rfl,rfl,rfl,rfl⟩,rfl,⟨by omega,by rw[hys];exact jR hx⟩⟩,(show al.length-(k+1)<al.length-k from by omega)⟩
 refine cK (aF (aF (cL (kM (lE (dK 4) ?_)))))
 refine lu (uT 2 bGu.ok (cs':= #[Ix (au),Ix (nu),sB p ys c]) rfl rfl rfl rfl rfl rfl rfl) (aN (aV ?_))
 refine gK (m:=[.agg #[Ix (au),Ix (nu),sB p ys c]]) Tryz.results87 ⟨bS bGu.ok rfl (cD 2 rfl rfl) rfl,trivial⟩ rfl ?_
 intro w hw
 have hke:ys=al:=by rw[hys,List.take_of_length_le (by have:=hdf.few;omega)]
 have hde:al.drop k=[]:=List.drop_eq_nil_of_le (by have:=hdf.few;omega)
 replace hw:=hw.perm (L':=[aK cJ 47 p c ys,fW rb (kO (al.drop k) l),pt b2 (.cells #[Ix (au),Ix (nu),sB p ys c] 80),pt b1 (.cells #[pp rb 0] 168),pt (bY (fa5 3)) (.cells #[Ix (au),Ix (nu),sB p ys c] 80)]) (by exact(aW [1,0,2,3,4] 5 rfl (by kernel_rfl) (by kernel_rfl)))
 replace hw:=aG (L':=[aK cJ 47 p c ys,fW rb (kO (al.drop k) l)]) [true,true,false,false,false] rfl hw
 rw[hde,hke]at hw
 exact⟨_,_,by rw[hke]<;>rfl,hw⟩
theorem aGd(β:Base)(w:World)(hw:St β [] w):Calls Tryz.prog 84 #[] w fun r w'=>∃mp mh mm,r= .returned (.agg #[.map (some mp),.map (some mh),.int .i64 0,.int .i64 0,.int .i64 0,.int .i64 0,.int .i64 0,.map (some mm)])∧St β [bB cC mp [],bB bL mh [],bB dW mm []] w':=by
 refine enter (n:=5) Tryz.func84 rfl Tryz.ntmps84 rfl ?_ hw
 refine bD (gB fun b1=>eY (dA rfl rfl rfl (xY (K:=cC)) ?_))
 rintro _ _ ⟨b2,rfl,rfl⟩
 refine dA rfl rfl rfl (xY (K:=bL)) ?_
 rintro _ _ ⟨b3,rfl,rfl⟩
 refine dA rfl rfl rfl (xY (K:=dW)) ?_
 rintro _ _ ⟨b4,rfl,rfl⟩
 refine lv (v:= .agg #[.map (some b2),.map (some b3),.int .i64 (0),.int .i64 (0),.int .i64 (0),.int .i64 (0),.int .i64 (0),.map (some b4)]) (bV bJh.ok bGe (vs:=[(0,.map (some b2)),(1,.map (some b3)),(4,.map (some b4))]) (cells:= #[.map (some b2),.map (some b3),.int .i64 (0),.int .i64 (0),.int .i64 (0),.int .i64 (0),.int .i64 (0),.map (some b4)]) rfl (by kernel_rfl)) ?_
 refine lu (mS 3 (#[.map (some b2),.map (some b3),.int .i64 (0),.int .i64 (0),.int .i64 (0),.int .i64 (0),.int .i64 (0),.map (some b4)])) (aN ?_)
 refine aV ?_
 refine gK (m:=[.agg #[.map (some b2),.map (some b3),.int .i64 (0),.int .i64 (0),.int .i64 (0),.int .i64 (0),.int .i64 (0),.map (some b4)]]) Tryz.results84 ⟨bS aYu.ok rfl (cD 3 rfl rfl) rfl,trivial⟩ rfl ?_
 intro w hw
 replace hw:=hw.perm (L':=[bB cC b2 [],bB bL b3 [],bB dW b4 [],pt b1 (.cells #[.map (some b2),.map (some b3),.int .i64 (0),.int .i64 (0),.int .i64 (0),.int .i64 (0),.int .i64 (0),.map (some b4)] 88)]) (by exact(aW [2,1,0,3] 4 rfl (by kernel_rfl) (by kernel_rfl)))
 replace hw:=aG (L':=[bB cC b2 [],bB bL b3 [],bB dW b4 []]) [true,true,true,false] rfl hw
 exact⟨b2,b3,b4,rfl,hw⟩
end Go.Proofs
