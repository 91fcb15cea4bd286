/-
 TradeTells: walked. Printed by a program of my own.
-/
import Derived.Test.YtjejfkajcbdgjaaGreatTdSm
set_option linter.all false
set_option maxHeartbeats 4000000
namespace Go.Proofs
open Go Go.Sl Go.Td Go.Jn
theorem tz0:xC Tryz.prog 29 [(0,1),(1,1),(2,1),(3,1)]=true:=by kernel_rfl
instance tz1:ZerC Tryz.prog 29 (.agg #[.slice none 0 0,.slice none 0 0,.slice none 0 0,.int .i64 (0)]):={}
instance tz2:CfC Tryz.prog 21:={}
instance tz3:ZerC Tryz.prog 62 (.agg #[.slice none 0 0,.slice none 0 0,.int .i64 (0),.int .i64 (0),.int .i64 (0),.int .i64 (0),.int .i64 (0),.slice none 0 0]):={}
theorem tz4:Tryz.prog.underlying 23=some (.pointer (Tryz.prog.pointee 23)):=by kernel_rfl
instance tz5:UndC Tryz.prog 22 32:={}
theorem tz6:lY Tryz.prog 22 32 4=true:=by kernel_rfl
instance tz7:TyC Tryz.prog 32 true 4:={}
instance tz8:ZerC Tryz.prog 32 (.agg #[.int .u8 (0),.int .i64 (0),.int .i64 (0),.slice none 0 0]):={}
instance tz9:FldC Tryz.prog 32 0 0 1 false:={}
instance tz10:TyC Tryz.prog 5 false 1:={}
instance bKs:CfC Tryz.prog 22:={}
theorem aUn:lY Tryz.prog 30 47 8=true:=by kernel_rfl
instance tz13:CfC Tryz.prog 23:={}
theorem bKt:vR Tryz.prog 47 8 64=true:=by kernel_rfl
instance tz15:FldC Tryz.prog 32 1 1 1 false:={}
instance bKu:TyC Tryz.prog 3 false 1:={}
instance tz17:FldC Tryz.prog 32 2 2 1 false:={}
instance bKv:CfC Tryz.prog 12:={}
instance tz19:ZerC Tryz.prog 37 (.agg #[.bool false,.int .i64 (0),.int .i64 (0),.slice none 0 0]):={}
instance tz20:TyC Tryz.prog 37 true 4:={}
instance tz21:TyC Tryz.prog 62 true 8:={}
instance bKw:CfC Tryz.prog 25:={}
instance bKx:CfC Tryz.prog 24:={}
instance tz24:ZerC Tryz.prog 66 (.agg #[.bool false,.int .i64 (0),.int .i64 (0),.slice none 0 0]):={}
instance tz25:TyC Tryz.prog 66 true 4:={}
instance bKy:CfC Tryz.prog 26:={}
instance tz27:UndC Tryz.prog 30 47:={}
instance bDh:TyC Tryz.prog 47 true 8:={}
instance tz29:FldC Tryz.prog 32 3 3 1 false:={}
instance tz30:TyC Tryz.prog 30 false 1:={}
theorem bKz:zC Tryz.prog 10000 47=some [.int .u8,.int .i64,.int .i64,.int .i64,.int .i64,.int .i64,.int .i64,.int .i64]:=by kernel_rfl
theorem bLa:gM Tryz.prog 47=true:=by kernel_rfl
theorem bLb:Tryz.prog.eqGuardType Tryz.prog.depth 47=false:=by kernel_rfl
theorem bLc:xC Tryz.prog 47 [(0,1),(1,1),(2,1),(3,1),(4,4)]=true:=by kernel_rfl
instance bLd:ZerC Tryz.prog 47 (.agg #[.int .u8 (0),.int .i64 (0),.int .i64 (0),.int .i64 (0),.int .i64 (0),.int .i64 (0),.int .i64 (0),.int .i64 (0)]):={}
instance tz36:FldC Tryz.prog 37 3 3 1 false:={}
instance tz37:TyC Tryz.prog 35 false 1:={}
instance tz38:UndC Tryz.prog 35 3:={}
theorem bLe:lY Tryz.prog 35 3 1=true:=by kernel_rfl
instance bLf:CfC Tryz.prog 27:={}
instance tz41:CfC Tryz.prog 17:={}
theorem aUa(β:Base)(w:World)(hw:St β [] w)(v:Value)(l:List TOp)(hs:Sl bDo β.heap v l):oP Tryz.prog 5 #[v] β w (.bool true):=by
 obtain⟨va,vc,rfl,vl,vm,ve⟩:=hs.get
 refine enter (n:=135) Tryz.func5 rfl Tryz.ntmps5 rfl ?_ hw
 refine bD (lE dP (eY ?_))
 refine lv (v:= .agg #[.slice none 0 0,.slice none 0 0,.slice none 0 0,.int .i64 (-1)]) (bV tz1.ok tz0 (vs:=[(3,.int .i64 (-1))]) (cells:= #[.slice none 0 0,.slice none 0 0,.slice none 0 0,.int .i64 (-1)]) rfl rfl) ?_
 refine mL fun b1=> ?_
 refine lE oap (eY (lE dS (aX rfl rfl rfl (cT (vs:=[pp b1 0]) tz2.ok rfl rfl) ?_)))
 intro w hw
 obtain⟨β1,sb,kn,hw1,back⟩:=St.frame (L:=[_]) (M:=[]) hw
 refine(aBs β1 w b1 (-1) hw1 (by decide)).mono ?_
 rintro e w' ⟨H2,rfl,hw'⟩
 refine⟨_,rfl,_,back _ _ hw',?_⟩
 refine lE oM (lE oxp (lE pW (lE oap (lE bN (eY (gB fun b3=>aN (eR (aC (lE aU (lE lO (lE fM (gE dS ?_))))))))))))
 refine cU (v:= .bool false) rfl rfl rfl rfl rfl (iV (p:=some (⟨H2,0,none⟩)) rfl rfl tz4) (lE dT (aN (cR rfl (eB (eR ?_)))))
 refine iK (r:=vG none 0 none 0 none 0 ⟨[],[],0,zeroA,[]⟩) aTf (aC (lE fL (lE fL (lE gY ?_))))
 refine lv (v:=Nx (min l.length 40)) (eZ (congrArg (Value.int .i64) (by omega)) (aKa (a:=((l.length:Nat):Int)) (b:=(40:Int)) rfl rfl)) ?_
 obtain⟨zs4,hz5⟩:∃zs,zs=(l.take (min l.length 40)):=⟨_,rfl⟩
 have zl6:zs4.length=min (min l.length 40) (l).length-0:=by rw[hz5];simp;try omega
 have ze7:=(dH.take (min l.length 40) ve)
 rw[←hz5]at ze7
 refine lv (v:= .slice va (zs4.length) (vc)) (eZ (by rw[show zs4.length=min l.length 40 by omega]) (kA (a:=va) (len:=l.length) (cap:=vc) (h:=min l.length 40) tz6 rfl rfl (by omega))) ?_
 refine lE gY (lE aU (aN (aJ (jJ [true,true,true] rfl ?_))))
 refine cZ (fun(x_:Nat×KHs×KRh×Nat×Option Addr×Nat×Option Addr×Nat×Option Addr×Nat) f L=>match x_ with|(i,X,rh,H,a1,d1,a2,d2,a3,d3)=>(f 3=pp b1 0∧f 4=pp H 0∧f 6=pp b3 0∧f 34=sB va zs4 (vc)∧f 35=Nx (zs4.length)∧f 36=Nx (i))∧L=[vG a1 d1 a2 d2 a3 d3 rh,pt b3 (.cells #[sB a1 rh.ps d1,sB a2 rh.hs d2,Ix (rh.last),Ix (rh.su.a0),Ix (rh.su.a1),Ix (rh.su.a2),Ix (rh.su.a3),sB a3 rh.ds d3] 62),cV H b1 X i (262144*i) (-1)]∧(i≤zs4.length∧XOk X∧RelX X rh∧rh.ds.length≤i∧X.s.last≤16*((i:Nat):Int))) (fun(i,X,rh,H,a1,d1,a2,d2,a3,d3)=>zs4.length-i) (0,gV,(⟨[],[],0,zeroA,[]⟩:KRh),H2,none,0,none,0,none,0) ?_ ?_
 ·exact⟨⟨rfl,rfl,rfl,rfl,rfl,rfl⟩,rfl,⟨Nat.zero_le _,pC,aIx,Nat.le_refl _,by decide⟩⟩
 rintro⟨i,X,rh,H,a1,d1,a2,d2,a3,d3⟩ f0 L0 ⟨⟨hs3,hs4,hs6,hs34,hs35,hs36⟩,hL,⟨hi,hxo,hrx,uA,hla⟩⟩
 subst L0
 refine bJ 3 hs3 (bJ 4 hs4 (bJ 6 hs6 (bJ 34 hs34 (bJ 35 hs35 (bJ 36 hs36 (bD (lE gN (aN (aL (cN _ rfl (fun hc8=> ?_) (fun hc8=> ?_)))))))))))
 ·refine eB (aL (aJ (bD ?_)))
  obtain⟨x9,hx10⟩:=kX zs4 i (by omega)
  obtain⟨ha11,cs12,hc13,hr14⟩:=ze7 _ _ hx10
  obtain⟨ho17,v15,rfl,hv16⟩:=hr14
  obtain⟨a18,c19,rfl,hl20,hm21,he22⟩:=(hv16).get
  refine lE (sW tz6 ha11) (lv (v:= .agg #[Bx (x9.kind),Ix (x9.author),Ix (x9.number),sB a18 x9.acts (c19)]) (fV tz7.ok rfl (kB hc13) rfl) ?_)
  refine gB fun b23=>lu (mS 0 (#[Bx (x9.kind),Ix (x9.author),Ix (x9.number),sB a18 x9.acts (c19)])) (aN ?_)
  refine gL (fun(f:Fm) (L:List bU)=>∃(X2:KHs) (rh2:KRh) (H2:Nat) (p1:Option Addr) (c1:Nat) (p2:Option Addr) (c2:Nat) (p3:Option Addr) (c3:Nat),(f 3=pp b1 0∧f 4=pp H2 0∧f 6=pp b3 0∧f 34=sB va zs4 (vc)∧f 35=Nx (zs4.length)∧f 36=Nx (i))∧L=[vG p1 c1 p2 c2 p3 c3 rh2,pt b3 (.cells #[sB p1 rh2.ps c1,sB p2 rh2.hs c2,Ix (rh2.last),Ix (rh2.su.a0),Ix (rh2.su.a1),Ix (rh2.su.a2),Ix (rh2.su.a3),sB p3 rh2.ds c3] 62),cV H2 b1 X2 (i+1) (262144*(i+1)) (-1)]∧(XOk X2∧RelX X2 rh2∧rh2.ds.length≤i+1∧X2.s.last≤16*((i+1:Nat):Int))) ?_ ?_
  ·refine bD (lE aY (lE (cY 0) ?_))
   refine lv (v:=Bx (x9.kind%8)) (lR (a:=((x9.kind).toNat:Int)) (b:=(((8:UInt8)).toNat:Int)) rfl rfl (by decide) (bBc _ _)) (aN ?_)
   refine aJ (bD (lE fD (lE dP (aN (cN _ rfl (fun hc24=> ?_) (fun hc24=> ?_))))))
   ·refine bD (lE dS (aX rfl rfl rfl (cT (vs:=[pp H 0]) bKs.ok rfl rfl) ?_))
    intro w hw
    replace hw:=hw.perm (L':=_::_::_::_::[]) (by exact((((aB 2 rfl).trans (aB 2 rfl)).trans (aB 2 rfl)).trans (aB 3 rfl)))
    obtain⟨β1,sb,kn,hw1,back⟩:=St.frame (L:=[_]) (M:=_::_::_::[]) hw
    refine(aHy β1 w H b1 i (262144*i) X hw1 (by omega) (by omega)).mono ?_
    rintro e w' ⟨rfl,hw'⟩
    refine⟨_,rfl,_,back _ _ hw',?_⟩
    refine lE lO (aN (cR rfl (cG (aP (aDi (M:=i+1) (V:=262144*(i+1)) 0 rfl (by omega) (by omega) (tZ [2,3,0,1] 4 ?_))))))
    refine dD [true,true,true,false] rfl ?_
    exact bG ⟨X,rh,H,a1,d1,a2,d2,a3,d3,⟨rfl,rfl,rfl,rfl,rfl,rfl⟩,rfl,⟨hxo,hrx,by omega,by omega⟩⟩
   refine bD (lE fD (lE dP (aN (cN _ rfl (fun hc25=> ?_) (fun hc25=> ?_)))))
   ·refine aL (sU [3,0,1,2] 4 rfl (by kernel_rfl) (aDd rfl (fun J1 j1 k1 hso1 hpw1=> ?_)))
    refine sU [2,0,1,3,4,5] 6 rfl (by kernel_rfl) ?_
    refine aDc (p:= -1) (M:=[fY H J1 X false,fA J1 b1 j1 false,pt b23 (.cells #[Bx (x9.kind),Ix (x9.author),Ix (x9.number),sB a18 x9.acts (c19)] 32),vG a1 d1 a2 d2 a3 d3 rh,pt b3 (.cells #[sB a1 rh.ps d1,sB a2 rh.hs d2,Ix (rh.last),Ix (rh.su.a0),Ix (rh.su.a1),Ix (rh.su.a2),Ix (rh.su.a3),sB a3 rh.ds d3] 62)]) rfl hso1.weak hpw1 ?_
    refine aC (lE dS (aX rfl rfl rfl (cT (vs:=[pp b1 0]) tz2.ok rfl rfl) ?_))
    intro w hw
    obtain⟨β1,sb,kn,hw1,back⟩:=St.frame (L:=[_]) (M:=_::_::_::_::_::[]) hw
    refine(aGl β1 w b1 i (262144*i) X hw1 (by omega)).mono ?_
    rintro e w' ⟨H26,rfl,hw'⟩
    refine⟨_,rfl,_,back _ _ hw',?_⟩
    refine lE oM (lE oxp (lE pW (lE oap (lE bN (eY (lE aU (lE lO (lE fM (gE dS ?_)))))))))
    refine cU (v:= .bool false) rfl rfl rfl rfl rfl (iV (p:=some (⟨H26,0,none⟩)) rfl rfl tz4) (lE dT (aN (cR rfl (cG (aP ?_)))))
    refine aDi (M:=i+1) (V:=262144*(i+1)) 0 rfl (by omega) (by omega) (tZ [4,5,0,1,2,3] 6 ?_)
    refine dD [true,true,true,false,false,false] rfl ?_
    exact bG ⟨X,rh,H26,a1,d1,a2,d2,a3,d3,⟨rfl,rfl,rfl,rfl,rfl,rfl⟩,rfl,⟨hxo,hrx,by omega,by omega⟩⟩
   refine aL ?_
   have hoi:=ho17
   obtain⟨X1,h1,R,e,hdo,hra,hrx1,hdl1⟩:=aXu hxo hrx x9.author x9.number (x9.acts.take 18)
   obtain⟨hxo1,hla1,hRl⟩:=bBl hxo (bAc hoi) hdo
   have hte:=dH.take 18 he22
   have htl:(x9.acts.take 18).length=min 18 x9.acts.length:=List.length_take ..
   have hts:Sl cJ.R β.heap (sB a18 (x9.acts.take 18) c19) (x9.acts.take 18):=⟨a18,c19,rfl,by omega,by omega,hte⟩
   refine aC (dA rfl rfl rfl (pG aUn) ?_)
   rintro _ _ ⟨b27,rfl,rfl⟩
   refine pE 0 rfl (r':=aK cJ 47 (some ⟨b27,0,none⟩) 0 []) (fun a h=>gP (F:=cJ) (xs:=[]) rfl (by decide) a h) (lE (dK 1) ?_)
   refine gI gH (fun w β1 sb kn hw1=>aAw β1 w hw1 _ _ _ _ _ x9.acts (Sl.mono _ _ _ _ _ sb (⟨⟨_,_,rfl,by omega,by omega,he22⟩⟩:Sl cJ.R _ _ x9.acts))) ?_
   refine dA rfl rfl rfl (cF (F:=cJ) 0 aUn bKt (p:=(some ⟨b27,0,none⟩)) (m:=0) (xs:=[]) (ys:=(x9.acts.take 18)) (ao:=a18) (k:=(x9.acts.take 18).length) (c:=c19) rfl rfl rfl rfl rfl (bH.of_base (dH.mono _ _ _) hte) (by first|omega|simp only[List.length_nil,List.length_cons,List.length_append,List.length_set];omega) (by first|omega|simp only[List.length_nil,List.length_cons,List.length_append,List.length_set];omega)) ?_
   rintro _ _ ⟨rp28,rc29,rfl,rfl⟩
   refine lE iO (eY (lE dS (lE aY (lE (cY 1) (lE aY (lE (cY 1) (lE fL ?_)))))))
   refine aX rfl rfl rfl (cT (vs:=[pp H 0,Ix (x9.author),Ix (x9.number),sB rp28 (x9.acts.take 18) rc29]) bKv.ok rfl rfl) ?_
   intro w hw
   replace hw:=hw.perm (L':=_::_::_::_::_::[]) (by exact(((((aB 3 rfl).trans (aB 3 rfl)).trans (aB 3 rfl)).trans (aB 3 rfl)).trans (aB 4 rfl)))
   obtain⟨β1,sb,kn,hw1,back⟩:=St.frame (L:=[_]) (M:=_::_::_::_::[]) hw
   refine(wU β1 w H b1 i (262144*i) X hw1 x9.author x9.number _ (x9.acts.take 18) (kn _ (jK 0 (F:=cJ) (m:=(x9.acts.take 18).length) rfl rfl)) (by omega) (bAc hoi) (by omega) hdo).mono ?_
   rintro e w' ⟨p30,c31,rfl,hw'⟩
   refine⟨_,rfl,_,back _ _ hw',?_⟩
   refine lE oM (lE rG (lE pW (gB fun b32=>lu (mS 0 (#[.bool (R.done),Ix (R.at_),Ix (R.e),sB p30 R.holds c31])) (lE bN (aN (aL ?_))))))
   refine jS [sv 58 (.agg #[sB a1 rh.ps d1,sB a2 rh.hs d2,Ix (rh.last),Ix (rh.su.a0),Ix (rh.su.a1),Ix (rh.su.a2),Ix (rh.su.a3),sB a3 rh.ds d3]) [] [] [0],sv 59 (pp b23 1) [] [] [1],sv 60 (Ix (x9.author)) [1] [1] [],sv 61 (pp b23 2) [] [] [1],sv 62 (Ix (x9.number)) [3] [3] [],sv 63 (.agg #[Bx (x9.kind),Ix (x9.author),Ix (x9.number),sB a18 x9.acts (c19)]) [] [] [1],sv 64 (sB a18 (x9.acts.take 18) (c19)) [5] [5] [],⟨[5,6],[6],[],[65],fun f=>f 65=sB (dC (f 65)) (x9.acts.take 18) (dE (f 65))⟩,⟨(List.range 8),[0,2,4,7],[],[66],fun f=>f 66= .tuple #[.agg #[sB (fT 0 0 (f 66)) h1.ps (fU 0 0 (f 66)),sB (fT 0 1 (f 66)) h1.hs (fU 0 1 (f 66)),Ix (h1.last),Ix (h1.su.a0),Ix (h1.su.a1),Ix (h1.su.a2),Ix (h1.su.a3),sB (fT 0 7 (f 66)) h1.ds (fU 0 7 (f 66))],.agg #[.bool (R.done),Ix (R.at_),Ix (R.e),sB (fT 1 3 (f 66)) R.holds (fU 1 3 (f 66))],Ix (e)]⟩,⟨(List.range 9),[8],[],[57,66],fun f=>f 57= .tuple #[.agg #[sB (fT 0 0 (f 66)) h1.ps (fU 0 0 (f 66)),sB (fT 0 1 (f 66)) h1.hs (fU 0 1 (f 66)),Ix (h1.last),Ix (h1.su.a0),Ix (h1.su.a1),Ix (h1.su.a2),Ix (h1.su.a3),sB (fT 0 7 (f 66)) h1.ds (fU 0 7 (f 66))],.agg #[.bool (R.done),Ix (R.at_),Ix (R.e),sB (fT 1 3 (f 66)) R.holds (fU 1 3 (f 66))],Ix (e)]⟩,⟨(List.range 10),[9],[],[66,67],fun f=>f 67= .agg #[sB (fT 0 0 (f 66)) h1.ps (fU 0 0 (f 66)),sB (fT 0 1 (f 66)) h1.hs (fU 0 1 (f 66)),Ix (h1.last),Ix (h1.su.a0),Ix (h1.su.a1),Ix (h1.su.a2),Ix (h1.su.a3),sB (fT 0 7 (f 66)) h1.ds (fU 0 7 (f 66))]⟩,⟨(List.range 10),[9],[],[66,68],fun f=>f 68= .agg #[.bool (R.done),Ix (R.at_),Ix (R.e),sB (fT 1 3 (f 66)) R.holds (fU 1 3 (f 66))]⟩,sv 69 (Ix (e)) (List.range 10) [9] [],⟨[],[],[],[12],fun f=>f 12= .pointer (some ⟨(bY (f 12)),0,none⟩)⟩,⟨[],[],[],[13],fun f=>f 13= .pointer (some ⟨(bY (f 13)),0,none⟩)⟩,⟨[0,1,2,3,4,5,6,7,8,9,10,13,14],[13,10],[],[],fun _=>True⟩,⟨[0,1,2,3,4,5,6,7,8,9,10,11,13,14,15],[14,11],[],[],fun _=>True⟩,sv 14 (Ix (e)) (List.range 17) [12] []] [u0,u0,u0,u0,u1 [2,4,5],(some 8,[8]),u1 [0]] [⟨(some 7),(some 8),[8],[65],fun f=>aK cJ 120 (dC (f 65)) (dE (f 65)) (x9.acts.take 18)⟩,⟨(some 8),none,[],[66],fun f=>aGv (fT 0 0 (f 66)) (fU 0 0 (f 66)) (fT 0 1 (f 66)) (fU 0 1 (f 66)) (fT 0 7 (f 66)) (fU 0 7 (f 66)) h1 (fT 1 3 (f 66)) (fU 1 3 (f 66)) R.holds⟩,⟨(some 13),(some 15),[15],[12],fun f=>pt (bY (f 12)) (.cells #[.slice none 0 0,.slice none 0 0,.int .i64 (0),.int .i64 (0),.int .i64 (0),.int .i64 (0),.int .i64 (0),.slice none 0 0] 62)⟩,⟨(some 14),(some 16),[16],[13],fun f=>pt (bY (f 13)) (.cells #[.bool false,.int .i64 (0),.int .i64 (0),.slice none 0 0] 66)⟩,⟨(some 15),none,[],[12,66],fun f=>pt (bY (f 12)) (.cells #[sB (fT 0 0 (f 66)) h1.ps (fU 0 0 (f 66)),sB (fT 0 1 (f 66)) h1.hs (fU 0 1 (f 66)),Ix (h1.last),Ix (h1.su.a0),Ix (h1.su.a1),Ix (h1.su.a2),Ix (h1.su.a3),sB (fT 0 7 (f 66)) h1.ds (fU 0 7 (f 66))] 62)⟩,⟨(some 16),none,[],[13,66],fun f=>pt (bY (f 13)) (.cells #[.bool (R.done),Ix (R.at_),Ix (R.e),sB (fT 1 3 (f 66)) R.holds (fU 1 3 (f 66))] 66)⟩] [(6,pp b3 0),(8,pp b23 0),(3,pp b1 0),(4,pp H 0),(9,sB rp28 (x9.acts.take 18) rc29),(10,pp b32 0),(11,Ix (e)),(34,sB va zs4 (vc)),(35,Nx (zs4.length)),(36,Nx (i))] [2,3,0,1,4,5,6,7,8,9] ⟨rfl,rfl,rfl,rfl,rfl,rfl,rfl,rfl,rfl,rfl,trivial⟩ ⟨?_,?_,?_,?_,?_,?_,?_,?_,?_,?_,?_,?_,?_,?_,?_,?_,?_,?_,trivial⟩ ?_
   ·rintro f M-⟨i0,-⟩
    exact aT (dK 0)
   ·rintro f M-⟨i0,-⟩
    exact aT aY
   ·rintro f M ⟨k0,-⟩-
    exact aT (cY 0)
   ·rintro f M-⟨i0,-⟩
    exact aT aY
   ·rintro f M ⟨k0,-⟩-
    exact aT (cY 0)
   ·rintro f M-⟨i0,-⟩
    exact aT (dK 0)
   ·rintro f M ⟨k0,-⟩-
    refine dL (aA (d:=63) rfl k0) ?_
    refine gI gH (fun w β1 sb kn hw1=>aAw β1 w hw1 _ _ _ _ _ x9.acts (Sl.mono _ _ _ _ _ sb (⟨⟨_,_,rfl,by omega,by omega,he22⟩⟩:Sl cJ.R _ _ x9.acts))) ?_
    refine aH ?_
    exact aO (aA (d:=63) rfl k0) rfl (List.Perm.refl _)
   ·rintro f M ⟨k0,-⟩-
    refine dL (aA (d:=64) rfl k0) ?_
    refine pV (cT (vs:=[sB a18 (x9.acts.take 18) (c19)]) bKw.ok rfl rfl) rfl fun w β1 sb kn hw1 back=>(aVp β1 w hw1 _ (x9.acts.take 18) (Sl.mono _ _ _ _ _ sb hts) (by omega)).mono ?_
    rintro e w' ⟨p35,c36,rfl,hw'⟩
    refine⟨_,rfl,_,back _ _ hw',?_⟩
    refine aH ?_
    exact aO (aA (d:=64) rfl k0) rfl (aB 0 rfl)
   ·rintro f M ⟨k0,k1,k2,k3,-⟩-
    have hs65:f 65=sB (dC (f 65)) (x9.acts.take 18) (dE (f 65)):=k3
    refine dL (aA (aA (d:=62) (aA (d:=60) (aA (d:=58) rfl k0) k1) k2) hs65) ?_
    refine aX rfl rfl rfl (cT (vs:=[.agg #[sB a1 rh.ps d1,sB a2 rh.hs d2,Ix (rh.last),Ix (rh.su.a0),Ix (rh.su.a1),Ix (rh.su.a2),Ix (rh.su.a3),sB a3 rh.ds d3],Ix (x9.author),Ix (x9.number),sB (dC (f 65)) (x9.acts.take 18) (dE (f 65))]) bKx.ok rfl rfl) ?_
    intro w hw
    obtain⟨β1,sb,kn,hw1,back⟩:=St.frame (L:=[_,_]) (M:=M) hw
    refine(aVe β1 w a1 d1 a2 d2 a3 d3 rh (dC (f 65)) (dE (f 65)) (x9.acts.take 18) hw1 (by omega) X.s hrx.s hxo.g (by have:=hrx.s.l;omega) x9.author x9.number (by omega) hra).mono ?_
    rintro e w' ⟨pp45,pc46,hp47,hc48,dp49,dc50,q51,qk52,rfl,hw'⟩
    refine⟨_,rfl,_,back _ _ hw',?_⟩
    refine aH ?_
    exact aO (aA (aA (d:=62) (aA (d:=60) (aA (d:=58) rfl k0) k1) k2) hs65) rfl (aB 0 rfl)
   ·rintro f M ⟨k0,-⟩-
    have hs66:f 66= .tuple #[.agg #[sB (fT 0 0 (f 66)) h1.ps (fU 0 0 (f 66)),sB (fT 0 1 (f 66)) h1.hs (fU 0 1 (f 66)),Ix (h1.last),Ix (h1.su.a0),Ix (h1.su.a1),Ix (h1.su.a2),Ix (h1.su.a3),sB (fT 0 7 (f 66)) h1.ds (fU 0 7 (f 66))],.agg #[.bool (R.done),Ix (R.at_),Ix (R.e),sB (fT 1 3 (f 66)) R.holds (fU 1 3 (f 66))],Ix (e)]:=k0
    exact aT oM
   ·rintro f M ⟨k0,-⟩-
    have hs57:f 57= .tuple #[.agg #[sB (fT 0 0 (f 66)) h1.ps (fU 0 0 (f 66)),sB (fT 0 1 (f 66)) h1.hs (fU 0 1 (f 66)),Ix (h1.last),Ix (h1.su.a0),Ix (h1.su.a1),Ix (h1.su.a2),Ix (h1.su.a3),sB (fT 0 7 (f 66)) h1.ds (fU 0 7 (f 66))],.agg #[.bool (R.done),Ix (R.at_),Ix (R.e),sB (fT 1 3 (f 66)) R.holds (fU 1 3 (f 66))],Ix (e)]:=k0
    exact aT rG
   ·rintro f M ⟨k0,-⟩-
    have hs57:f 57= .tuple #[.agg #[sB (fT 0 0 (f 66)) h1.ps (fU 0 0 (f 66)),sB (fT 0 1 (f 66)) h1.hs (fU 0 1 (f 66)),Ix (h1.last),Ix (h1.su.a0),Ix (h1.su.a1),Ix (h1.su.a2),Ix (h1.su.a3),sB (fT 0 7 (f 66)) h1.ds (fU 0 7 (f 66))],.agg #[.bool (R.done),Ix (R.at_),Ix (R.e),sB (fT 1 3 (f 66)) R.holds (fU 1 3 (f 66))],Ix (e)]:=k0
    exact aT rG
   ·rintro f M ⟨k0,-⟩-
    have hs57:f 57= .tuple #[.agg #[sB (fT 0 0 (f 66)) h1.ps (fU 0 0 (f 66)),sB (fT 0 1 (f 66)) h1.hs (fU 0 1 (f 66)),Ix (h1.last),Ix (h1.su.a0),Ix (h1.su.a1),Ix (h1.su.a2),Ix (h1.su.a3),sB (fT 0 7 (f 66)) h1.ds (fU 0 7 (f 66))],.agg #[.bool (R.done),Ix (R.at_),Ix (R.e),sB (fT 1 3 (f 66)) R.holds (fU 1 3 (f 66))],Ix (e)]:=k0
    exact aT pW
   ·rintro f M- -
    refine dL rfl ?_
    refine gB fun b54=>aH ?_
    exact aO rfl rfl (aB 0 rfl)
   ·rintro f M- -
    refine dL rfl ?_
    refine gB fun b56=>aH ?_
    exact aO rfl rfl (aB 0 rfl)
   ·rintro f M ⟨k0,k1,-⟩-
    have hs12:f 12= .pointer (some ⟨(bY (f 12)),0,none⟩):=k0
    have hs67:f 67= .agg #[sB (fT 0 0 (f 66)) h1.ps (fU 0 0 (f 66)),sB (fT 0 1 (f 66)) h1.hs (fU 0 1 (f 66)),Ix (h1.last),Ix (h1.su.a0),Ix (h1.su.a1),Ix (h1.su.a2),Ix (h1.su.a3),sB (fT 0 7 (f 66)) h1.ds (fU 0 7 (f 66))]:=k1
    refine dL (aA (aA rfl hs12) hs67) ?_
    refine lu (mS 0 (#[sB (fT 0 0 (f 66)) h1.ps (fU 0 0 (f 66)),sB (fT 0 1 (f 66)) h1.hs (fU 0 1 (f 66)),Ix (h1.last),Ix (h1.su.a0),Ix (h1.su.a1),Ix (h1.su.a2),Ix (h1.su.a3),sB (fT 0 7 (f 66)) h1.ds (fU 0 7 (f 66))])) ?_
    refine aH ?_
    exact bC (aA (aA rfl hs12) hs67) trivial (aB 0 rfl)
   ·rintro f M ⟨k0,k1,-⟩-
    have hs13:f 13= .pointer (some ⟨(bY (f 13)),0,none⟩):=k0
    have hs68:f 68= .agg #[.bool (R.done),Ix (R.at_),Ix (R.e),sB (fT 1 3 (f 66)) R.holds (fU 1 3 (f 66))]:=k1
    refine dL (aA (aA rfl hs13) hs68) ?_
    refine lu (mS 0 (#[.bool (R.done),Ix (R.at_),Ix (R.e),sB (fT 1 3 (f 66)) R.holds (fU 1 3 (f 66))])) (aH ?_)
    exact bC (aA (aA rfl hs13) hs68) trivial (aB 0 rfl)
   ·rintro f M ⟨k0,-⟩-
    exact aT bN
   rintro fa57 ⟨-,-,-,-,-,-,-,-,-,-,-,-,-,k13,k14,-,-,k17,-⟩ ⟨j0,j1,j2,j3,j4,j5,j6,j7,j8,j9,-⟩
   refine jD ?_
   refine aD (d:=3) j0 (aD (d:=4) j1 (aD (d:=6) j2 (aD (d:=8) j3 (aD (d:=9) j4 (aD (d:=10) j5 ?_)))))
   refine aD (d:=11) j6 (aD (d:=12) k13 (aD (d:=13) k14 (aD (d:=14) k17 (aD (d:=34) j7 (aD (d:=35) j8 ?_)))))
   refine aD (d:=36) j9 (qV (bD (lE (dK 7) ?_)))
   refine lu (mS 5 (#[sB (fT 0 0 (fa57 66)) h1.ps (fU 0 0 (fa57 66)),sB (fT 0 1 (fa57 66)) h1.hs (fU 0 1 (fa57 66)),Ix (h1.last),Ix (h1.su.a0),Ix (h1.su.a1),Ix (h1.su.a2),Ix (h1.su.a3),sB (fT 0 7 (fa57 66)) h1.ds (fU 0 7 (fa57 66))])) ?_
   refine eY (lE aU (lE aU (lv (v:= .bool false) (fZ (fun q=>q rfl) (aBi (a:=(e)) (b:=(e)) rfl rfl)) (lE fM (gE (dK 0) (gE (dK 8) ?_))))))
   refine eM rfl rfl rfl rfl rfl (cT (vs:=[.agg #[.bool (R.done),Ix (R.at_),Ix (R.e),sB p30 R.holds c31],.agg #[.bool (R.done),Ix (R.at_),Ix (R.e),sB (fT 1 3 (fa57 66)) R.holds (fU 1 3 (fa57 66))]]) bKy.ok rfl rfl) ?_
   intro w hw
   obtain⟨β1,sb,kn,hw1,back⟩:=St.frame_all hw
   refine(pO β1 w hw1 R.done R.at_ R.e _ _ R.holds (kn _ (jK 1 (F:=aZ) (m:=R.holds.length) rfl rfl)) (kn _ (bCb 6 rfl))).mono ?_
   rintro e w' ⟨rfl,hw'⟩
   refine⟨_,rfl,_,back _ _ hw',?_⟩
   refine gE mB (lE dT (aN (cR rfl (eB (eR (aC (lE fL (lE gY (lE aU (aN (aJ ?_)))))))))))
   refine jJ [true,true,true,true,true,true,true,true,true] rfl ?_
   refine cZ (fun(x_:Nat×List KAct) f L=>match x_ with|(j,ys)=>(f 3=pp b1 0∧f 4=pp H 0∧f 6=pp b3 0∧f 8=pp b23 0∧f 9=sB rp28 (x9.acts.take 18) rc29∧f 10=pp b32 0∧f 34=sB va zs4 (vc)∧f 35=Nx (zs4.length)∧f 36=Nx (i)∧f 81=Nx ((x9.acts.take 18).length)∧f 82=Nx (j))∧L=[pt b32 (.cells #[.bool (R.done),Ix (R.at_),Ix (R.e),sB p30 R.holds c31] 37),aK aZ 3 p30 c31 R.holds,cV H b1 X1 (i+1) ((262144*i)+494) (-1),aK cJ 47 rp28 rc29 ys,pt b23 (.cells #[Bx (x9.kind),Ix (x9.author),Ix (x9.number),sB a18 x9.acts (c19)] 32),pt b3 (.cells #[sB (fT 0 0 (fa57 66)) h1.ps (fU 0 0 (fa57 66)),sB (fT 0 1 (fa57 66)) h1.hs (fU 0 1 (fa57 66)),Ix (h1.last),Ix (h1.su.a0),Ix (h1.su.a1),Ix (h1.su.a2),Ix (h1.su.a3),sB (fT 0 7 (fa57 66)) h1.ds (fU 0 7 (fa57 66))] 62),aGv (fT 0 0 (fa57 66)) (fU 0 0 (fa57 66)) (fT 0 1 (fa57 66)) (fU 0 1 (fa57 66)) (fT 0 7 (fa57 66)) (fU 0 7 (fa57 66)) h1 (fT 1 3 (fa57 66)) (fU 1 3 (fa57 66)) R.holds,pt (bY (fa57 12)) (.cells #[sB (fT 0 0 (fa57 66)) h1.ps (fU 0 0 (fa57 66)),sB (fT 0 1 (fa57 66)) h1.hs (fU 0 1 (fa57 66)),Ix (h1.last),Ix (h1.su.a0),Ix (h1.su.a1),Ix (h1.su.a2),Ix (h1.su.a3),sB (fT 0 7 (fa57 66)) h1.ds (fU 0 7 (fa57 66))] 62),pt (bY (fa57 13)) (.cells #[.bool (R.done),Ix (R.at_),Ix (R.e),sB (fT 1 3 (fa57 66)) R.holds (fU 1 3 (fa57 66))] 66)]∧(j≤(x9.acts.take 18).length∧ys.length=(x9.acts.take 18).length∧ys.drop j=(x9.acts.take 18).drop j)) (fun(j,ys)=>(x9.acts.take 18).length-j) (0,(x9.acts.take 18)) ?_ ?_
   ·exact⟨⟨rfl,rfl,rfl,rfl,rfl,rfl,rfl,rfl,rfl,rfl,rfl⟩,rfl,⟨Nat.zero_le _,rfl,rfl⟩⟩
   rintro⟨j,ys⟩ f0 L0 ⟨⟨hs3,hs4,hs6,hs8,hs9,hs10,hs34,hs35,hs36,hs81,hs82⟩,hL,⟨hj,hyl,hyd⟩⟩
   subst L0
   refine bJ 3 hs3 (bJ 4 hs4 (bJ 6 hs6 (bJ 8 hs8 (bJ 9 hs9 (bJ 10 hs10 (bJ 34 hs34 (bJ 35 hs35 (bJ 36 hs36 (bJ 81 hs81 (bJ 82 hs82 (bD ?_)))))))))))
   refine lE gN (aN (aL (cN _ rfl (fun hc58=> ?_) (fun hc58=> ?_))))
   ·refine eB (aL (aJ (bD (lE aU (lE bN (aN (eR (gS (by kernel_rfl) (by kernel_rfl) (qE fL (qE aU ?_))))))))))
    refine dU (v:= .pointer (some ((ba rp28).add (j*8)))) rfl rfl rfl (eL 3 (F:=cJ) rfl (by omega) rfl aUn (by omega) rfl) ?_
    obtain⟨x59,hx60⟩:∃x_,ys[j]? =some x_:=⟨_,List.getElem?_eq_getElem (by first|omega|decide)⟩
    refine dU (v:= .agg #[Bx (x59.kind),Ix (x59.owner),Ix (x59.other),Ix (x59.hold),Ix (x59.a.a0),Ix (x59.a.a1),Ix (x59.a.a2),Ix (x59.a.a3)]) rfl rfl rfl (fV bDh.ok rfl (lF 3 (F:=cJ) rfl hx60) rfl) ?_
    refine qE aY (qE (fQ 4) (qE aU ?_))
    obtain⟨x61,hx62⟩:=kX x9.acts j (by omega)
    obtain⟨ha63,cs64,hc65,rfl⟩:=he22 _ _ hx62
    refine qE (sW aUn ha63) ?_
    refine dU (v:= .agg #[Bx (x61.kind),Ix (x61.owner),Ix (x61.other),Ix (x61.hold),Ix (x61.a.a0),Ix (x61.a.a1),Ix (x61.a.a2),Ix (x61.a.a3)]) rfl rfl rfl (fV bDh.ok rfl (kB hc65) rfl) ?_
    refine dU (v:= .bool false) rfl rfl rfl (fZ (fun q=>q (bFo hyd hx60 hx62 (by omega))) (iA (xs:=xH x59) (ys:=xH x61) bKz bLa bLb rfl rfl rfl rfl (not_congr (aHq (x:=x59) (y:=x61))))) ?_
    refine lB (bA (cR rfl (eB (aC (lE fL (lE aU ?_))))))
    refine lv (v:= .agg #[.int .u8 (99),.int .i64 (0),.int .i64 (0),.int .i64 (0),.int .i64 (0),.int .i64 (0),.int .i64 (0),.int .i64 (0)]) (bV bLd.ok bLc (vs:=[(0,.int .u8 (99))]) (cells:= #[.int .u8 (99),.int .i64 (0),.int .i64 (0),.int .i64 (0),.int .i64 (0),.int .i64 (0),.int .i64 (0),.int .i64 (0)]) rfl (by kernel_rfl)) ?_
    refine lv (v:= .pointer (some ((ba rp28).add (j*8)))) (eL 3 (F:=cJ) rfl (by omega) rfl aUn (by omega) rfl) ?_
    refine lu (mP 3 (F:=cJ) (p:=rp28) (k:=j) (xs:=ys) (z:=(⟨99,0,0,0,zeroA⟩:KAct)) bDh.ok rfl rfl rfl rfl (by omega)) (aH ?_)
    refine aP (bA (aC (lv (v:=Nx (j+1)) (bO rfl rfl (cW (by omega) (by omega))) (lE aU (aH ?_)))))
    exact bG ⟨(j+1,(ys.set j (⟨99,0,0,0,zeroA⟩:KAct))),⟨⟨rfl,rfl,rfl,rfl,rfl,rfl,rfl,rfl,rfl,rfl,rfl⟩,rfl,⟨by omega,by simp only[sB,List.length_set];exact hyl,aYm hyd _⟩⟩,(show(x9.acts.take 18).length-(j+1)<(x9.acts.take 18).length-j from by omega)⟩
   refine cK (aF (aF (cL (kM (lE aY (lE (fQ 0) (lE gY (lE aU (aN (aJ ?_))))))))))
   refine jJ [true,true,true,true,true,true,true,true,true] rfl ?_
   refine cZ (fun(x_:Nat×List Int) f L=>match x_ with|(m,zs)=>(f 3=pp b1 0∧f 4=pp H 0∧f 6=pp b3 0∧f 10=pp b32 0∧f 34=sB va zs4 (vc)∧f 35=Nx (zs4.length)∧f 36=Nx (i)∧f 102=Nx (R.holds.length)∧f 103=Nx (m))∧L=[pt b32 (.cells #[.bool (R.done),Ix (R.at_),Ix (R.e),sB p30 R.holds c31] 37),aK aZ 3 p30 c31 zs,cV H b1 X1 (i+1) ((262144*i)+494) (-1),aK cJ 47 rp28 rc29 ys,pt b23 (.cells #[Bx (x9.kind),Ix (x9.author),Ix (x9.number),sB a18 x9.acts (c19)] 32),pt b3 (.cells #[sB (fT 0 0 (fa57 66)) h1.ps (fU 0 0 (fa57 66)),sB (fT 0 1 (fa57 66)) h1.hs (fU 0 1 (fa57 66)),Ix (h1.last),Ix (h1.su.a0),Ix (h1.su.a1),Ix (h1.su.a2),Ix (h1.su.a3),sB (fT 0 7 (fa57 66)) h1.ds (fU 0 7 (fa57 66))] 62),aGv (fT 0 0 (fa57 66)) (fU 0 0 (fa57 66)) (fT 0 1 (fa57 66)) (fU 0 1 (fa57 66)) (fT 0 7 (fa57 66)) (fU 0 7 (fa57 66)) h1 (fT 1 3 (fa57 66)) (fU 1 3 (fa57 66)) R.holds,pt (bY (fa57 12)) (.cells #[sB (fT 0 0 (fa57 66)) h1.ps (fU 0 0 (fa57 66)),sB (fT 0 1 (fa57 66)) h1.hs (fU 0 1 (fa57 66)),Ix (h1.last),Ix (h1.su.a0),Ix (h1.su.a1),Ix (h1.su.a2),Ix (h1.su.a3),sB (fT 0 7 (fa57 66)) h1.ds (fU 0 7 (fa57 66))] 62),pt (bY (fa57 13)) (.cells #[.bool (R.done),Ix (R.at_),Ix (R.e),sB (fT 1 3 (fa57 66)) R.holds (fU 1 3 (fa57 66))] 66)]∧(m≤R.holds.length∧zs.length=R.holds.length)) (fun(m,zs)=>R.holds.length-m) (0,R.holds) ?_ ?_
   ·exact⟨⟨rfl,rfl,rfl,rfl,rfl,rfl,rfl,rfl,rfl⟩,rfl,⟨Nat.zero_le _,rfl⟩⟩
   rintro⟨m,zs⟩ f0 L0 ⟨⟨hs3,hs4,hs6,hs10,hs34,hs35,hs36,hs102,hs103⟩,hL,⟨hm,hzl⟩⟩
   subst L0
   refine bJ 3 hs3 (bJ 4 hs4 (bJ 6 hs6 (bJ 10 hs10 (bJ 34 hs34 (bJ 35 hs35 (bJ 36 hs36 (bJ 102 hs102 (bJ 103 hs103 (bD (lE gN (aN (aL ?_))))))))))))
   refine cN _ rfl (fun hc67=> ?_) (fun hc67=> ?_)
   ·refine eB (aL (aJ (bD (lE aU (lE bN (xJ (lE aY (lE (fQ 0) (lE aU ?_)))))))))
    refine lv (v:= .pointer (some ((ba p30).add (m*1)))) (eL 1 (F:=aZ) rfl (by omega) rfl bLe (by omega) rfl) ?_
    refine lu (mP 1 (F:=aZ) (p:=p30) (k:=m) (xs:=zs) (z:=(-7)) bKu.ok rfl rfl rfl rfl (by omega)) (aH (aP (bA ?_)))
    refine aC (lv (v:=Nx (m+1)) (bO rfl rfl (cW (by omega) (by omega))) (lE aU (aH ?_)))
    exact bG ⟨(m+1,(zs.set m (-7))),⟨⟨rfl,rfl,rfl,rfl,rfl,rfl,rfl,rfl,rfl⟩,rfl,⟨by omega,by simp only[sB,List.length_set];exact hzl⟩⟩,(show R.holds.length-(m+1)<R.holds.length-m from by omega)⟩
   refine cK (aF (aF (cL (aP (aDi (M:=i+1) (V:=262144*(i+1)) 2 rfl (by omega) (by omega) ?_)))))
   refine uN (r':=vG (fT 0 0 (fa57 66)) (fU 0 0 (fa57 66)) (fT 0 1 (fa57 66)) (fU 0 1 (fa57 66)) (fT 0 7 (fa57 66)) (fU 0 7 (fa57 66)) h1) 6 rfl aTg ?_
   refine tZ [6,5,2,0,1,3,4,7,8] 9 ?_
   refine dD [true,true,true,false,false,false,false,false,false] rfl ?_
   exact bG ⟨X1,h1,H,(fT 0 0 (fa57 66)),(fU 0 0 (fa57 66)),(fT 0 1 (fa57 66)),(fU 0 1 (fa57 66)),(fT 0 7 (fa57 66)),(fU 0 7 (fa57 66)),⟨rfl,rfl,rfl,rfl,rfl,rfl⟩,rfl,⟨hxo1,hrx1,by omega,by omega⟩⟩
  rintro f0 L0 ⟨X2,rh2,H2,p1,c1,p2,c2,p3,c3,⟨hs3,hs4,hs6,hs34,hs35,hs36⟩,hL,⟨hxo2,hrx2,hdl2,hla2⟩⟩
  subst L0
  refine bJ 3 hs3 (bJ 4 hs4 (bJ 6 hs6 (bJ 34 hs34 (bJ 35 hs35 (bJ 36 hs36 (bD (lE dS (lE (dK 1) ?_))))))))
  refine aX rfl rfl rfl (cT (vs:=[pp H2 0,.agg #[sB p1 rh2.ps c1,sB p2 rh2.hs c2,Ix (rh2.last),Ix (rh2.su.a0),Ix (rh2.su.a1),Ix (rh2.su.a2),Ix (rh2.su.a3),sB p3 rh2.ds c3]]) bLf.ok rfl rfl) ?_
  intro w hw
  replace hw:=hw.perm (L':=_::_::_::[]) (by exact(((aB 1 rfl).trans (aB 1 rfl)).trans (aB 2 rfl)))
  obtain⟨β1,sb,kn,hw1,back⟩:=St.frame (L:=[_,_]) (M:=_::[]) hw
  refine(aOe β1 w H2 b1 (i+1) (262144*(i+1)) (-1) X2 p1 c1 p2 c2 p3 c3 rh2 hw1 (by omega) hrx2 hxo2.g).mono ?_
  rintro e w' ⟨rfl,hw'⟩
  refine⟨_,rfl,_,back _ _ hw',?_⟩
  refine lE mB (aN (cR rfl (cG (aP (bA (aC (lv (v:=Nx (i+1)) (bO rfl rfl (cW (by omega) (by omega))) (lE aU (aH ?_)))))))))
  refine tZ [1,2,0] 3 ?_
  exact bG ⟨(i+1,X2,rh2,H2,p1,c1,p2,c2,p3,c3),⟨⟨rfl,rfl,rfl,rfl,rfl,rfl⟩,rfl,⟨by omega,hxo2,hrx2,hdl2,hla2⟩⟩,(show zs4.length-(i+1)<zs4.length-i from by omega)⟩
 refine cK (aF (aF (cL (kM (gI gH (fun w β1 sb kn hw1=>aFd β1 w hw1) (lE dP (aN (aV ?_))))))))
 refine dJ Tryz.results5 rfl ?_
 intro w hw
 exact⟨rfl,aG [false,false,false] rfl hw⟩
end Go.Proofs
