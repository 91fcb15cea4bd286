/-
  Own work; plain Lean (Td14, Td15, Td16).
-/
import Derived.Test.YtjejfkajcbdgjaaGreatTd13
set_option linter.all false
set_option maxHeartbeats 4000000
namespace Go.Proofs
open Go Go.Sl Go.Td Go.Jn
theorem bGh:Tryz.prog.underlying 26=some (.pointer (Tryz.prog.pointee 26)):=by kernel_rfl
instance tt152:TyC Tryz.prog 29 true 4:={}
instance bGi:CfC Tryz.prog 45:={}
instance tt154:ZerC Tryz.prog 109 (.agg #[.int .i64 (0),.int .i64 (0),.slice none 0 0,.slice none 0 0,.int .i64 (0)]):={}
instance tt155:TyC Tryz.prog 109 true 5:={}
instance tt156:FldC Tryz.prog 109 2 2 1 false:={}
instance tt157:FldC Tryz.prog 109 3 3 1 false:={}
instance tt158:TyC Tryz.prog 107 false 1:={}
instance bGj:CfC Tryz.prog 46:={}
instance bGk:CfC Tryz.prog 47:={}
theorem bGl:xC Tryz.prog 91 [(0,1),(1,8),(9,1)]=true:=by kernel_rfl
instance bGm:ZerC Tryz.prog 91 (.agg #[.pointer none,.map none,.map none,.int .i64 (0),.int .i64 (0),.int .i64 (0),.int .i64 (0),.int .i64 (0),.map none,.bool false]):={}
instance tt163:FldC Tryz.prog 29 3 3 1 false:={}
instance bGn:CfC Tryz.prog 21:={}
theorem aGl(β:Base)(w:World)(S N W:Nat)(X:KHs)(hw:St β [mC S X N W (-1)] w)(hN:N≤1000000):Calls Tryz.prog 21 #[pp S 0] w fun r w'=>∃H,r= .returned (.tuple #[pp H 0,.int .i64 0])∧St β [cV H S X N W (-1)] w':=by
 obtain⟨i,k,hso,hpw,hw⟩:=St.openShelf hw
 have hok:=hso.inv.okP hN
 have hri:=hso.inv.read
 have hcut:jB (k.area i.epoch) k.power i.size:= .inr (by rw[hpw];decide)
 obtain⟨X0,ds,hi⟩:=hso.img
 obtain⟨hl0,hl1⟩:=hso.lasts hN hi
 have hbl:i.state.length≤65536:=hso.inv.wf.state
 have hrl:i.recs.length≤1048576:=Nat.le_trans hso.inv.wf.next (Nat.le_trans hso.inv.nN (Nat.le_trans hN (by decide)))
 refine enter (n:=43) Tryz.func21 rfl Tryz.ntmps21 rfl ?_ hw
 refine bD (lE oap (lE bN (aN (eR (aC (lE dS (lv (v:= .bool false) (iV (p:=some (⟨S,0,none⟩)) rfl rfl bGh) (aN (cR rfl ?_)))))))))
 refine eB (aL (nT rfl (fun pH1 pA2 pB3 cH4 cA5 cB6=> ?_)))
 refine aC (lE dS (lE eS (lE (dK 0) ?_)))
 refine pV (cT (vs:=[.agg #[sB pH1 k.head cH4,sB pA2 k.a cA5,sB pB3 k.b cB6,Ix (k.power)]]) bGi.ok rfl rfl) rfl fun w β1 sb kn hw1 back=>(aGt β1 w hw1 k _ _ _ (kU kn 1 rfl) (kU kn 2 rfl) (kU kn 3 rfl) hok i hri).mono ?_
 rintro e w' ⟨ps7,pr8,cs9,cr10,rfl,hw'⟩
 refine⟨_,rfl,_,back _ _ hw',?_⟩
 refine lE oM (lE rG (lE pW (gB fun b11=>lu (mS 0 (#[Nx (i.epoch),Nx (i.next),sB ps7 i.state cs9,sB pr8 i.recs cr10,Nx (i.size)])) (lE bN ?_))))
 refine aN (eR (aC (lE aU (lE lO (aN (cR rfl (eB (bD (lE aY (lE (fQ 0) (lE aY (lE (fQ 0) ?_))))))))))))
 refine pV (cT (vs:=[sB ps7 i.state cs9,sB pr8 i.recs cr10]) bGj.ok rfl rfl) rfl fun w β1 sb kn hw1 back=>(aIy β1 w hw1 _ _ i.state (kU kn 1 rfl) hbl i.recs (kn _ (bH.of_res 2 rfl (Sl.mono BsR _ _) fun _ h=>aXt h)) hrl X X0 ds hi.st hi.x0 hi.recs hi.ok hi.x hl0 hl1).mono ?_
 rintro e w' ⟨mp12,mh13,mm14,s15,ms16,zs17,he18,hm19,rfl,hw'⟩
 refine⟨_,rfl,_,back _ _ hw',?_⟩
 refine lE oM (lE rG (lE yA (gB fun b20=> ?_)))
 refine lu (mS 0 (#[.map (some mp12),.map (some mh13),Ix (s15.last),Ix (s15.su.a0),Ix (s15.su.a1),Ix (s15.su.a2),Ix (s15.su.a3),.map (some mm14)])) ?_
 refine lE dP (aN (eR (aC (lE fM (lE mB (aN (cR rfl (eB (aL (sU [8,9,10,11,0,1,2,3,4,5,6,7] 12 rfl (by kernel_rfl) ?_))))))))))
 refine uH (S:=S) (k:=k) (pH:=pH1) (pA:=pA2) (pB:=pB3) (cH:=cH4) (cA:=cA5) (cB:=cB6) (M:=[pt b20 (.cells #[.map (some mp12),.map (some mh13),Ix (s15.last),Ix (s15.su.a0),Ix (s15.su.a1),Ix (s15.su.a2),Ix (s15.su.a3),.map (some mm14)] 88),bB cC mp12 s15.ps,bB bL mh13 s15.hs,bB dW mm14 ms16,dG zs17,pt b11 (.cells #[Nx (i.epoch),Nx (i.next),sB ps7 i.state cs9,sB pr8 i.recs cr10,Nx (i.size)] 109),rB ps7 i.state cs9,gQ 27 pr8 cr10 i.recs]) rfl ?_
 refine aC (lE dS (aX rfl rfl rfl (cT (vs:=[pp S 0]) bGk.ok rfl rfl) ?_))
 intro w hw
 obtain⟨β1,sb,kn,hw1,back⟩:=St.frame (L:=[_]) (M:=_::_::_::_::_::_::_::_::[]) hw
 refine(aXk β1 w S k hok (by omega) i hri hcut hw1).mono ?_
 rintro e w' ⟨J21,rfl,hw'⟩
 refine⟨_,rfl,_,back _ _ hw',?_⟩
 refine lE oM (lE oxp (lE pW (lE oap (lE bN (aN (eR (aC (lE aU (lE lO (aN (cR rfl (eB (bD (lE dS (lE (dK 2) ?_)))))))))))))))
 refine lv (v:= .agg #[pp J21 0,.map (some mp12),.map (some mh13),Ix (s15.last),Ix (s15.su.a0),Ix (s15.su.a1),Ix (s15.su.a2),Ix (s15.su.a3),.map (some mm14),.bool false]) (bV bGm.ok bGl (vs:=[(0,pp J21 0),(1,.agg #[.map (some mp12),.map (some mh13),Ix (s15.last),Ix (s15.su.a0),Ix (s15.su.a1),Ix (s15.su.a2),Ix (s15.su.a3),.map (some mm14)])]) (cells:= #[pp J21 0,.map (some mp12),.map (some mh13),Ix (s15.last),Ix (s15.su.a0),Ix (s15.su.a1),Ix (s15.su.a2),Ix (s15.su.a3),.map (some mm14),.bool false]) rfl (by kernel_rfl)) ?_
 refine mL fun b22=> ?_
 refine lE oap (lE bN (aN (aV (nO (v:=pp b22 0) (v':= .int .i64 (0)) Tryz.results21 rfl rfl ?_))))
 intro w hw
 replace hw:=hw.perm (L':=[pt b22 (.cells #[pp J21 0,.map (some mp12),.map (some mh13),Ix (s15.last),Ix (s15.su.a0),Ix (s15.su.a1),Ix (s15.su.a2),Ix (s15.su.a3),.map (some mm14),.bool false] 91),fA J21 S i false,aQ S (jV k i.epoch i.size),bB cC mp12 s15.ps,bB bL mh13 s15.hs,bB dW mm14 ms16,dG zs17,pt b20 (.cells #[.map (some mp12),.map (some mh13),Ix (s15.last),Ix (s15.su.a0),Ix (s15.su.a1),Ix (s15.su.a2),Ix (s15.su.a3),.map (some mm14)] 88),pt b11 (.cells #[Nx (i.epoch),Nx (i.next),sB ps7 i.state cs9,sB pr8 i.recs cr10,Nx (i.size)] 109),rB ps7 i.state cs9,gQ 27 pr8 cr10 i.recs]) (by exact(aW [0,1,2,4,5,6,7,3,8,9,10] 11 rfl (by kernel_rfl) (by kernel_rfl)))
 replace hw:=aG (L':=[pt b22 (.cells #[pp J21 0,.map (some mp12),.map (some mh13),Ix (s15.last),Ix (s15.su.a0),Ix (s15.su.a1),Ix (s15.su.a2),Ix (s15.su.a3),.map (some mm14),.bool false] 91),fA J21 S i false,aQ S (jV k i.epoch i.size),bB cC mp12 s15.ps,bB bL mh13 s15.hs,bB dW mm14 ms16,dG zs17]) [true,true,true,true,true,true,true,false,false,false,false] rfl hw
 exact⟨_,rfl,St.closeHouse (M:=[]) ⟨he18,hso.cut hpw,hm19⟩ (aQe hpw) hw⟩
end Go.Proofs
namespace Go.Td
open Go Go.Sl
section
variable {x:KAct}
end
end Go.Td
namespace Go.Proofs
open Go Go.Sl Go.Td Go.Jn
instance tt165:ZerC Tryz.prog 32 (.agg #[.int .u8 (0),.int .i64 (0),.int .i64 (0),.slice none 0 0]):={}
instance tt166:FldC Tryz.prog 32 0 0 1 false:={}
instance tt167:FldC Tryz.prog 32 1 1 1 false:={}
instance tt168:CfC Tryz.prog 28:={}
instance tt170:TyC Tryz.prog 32 true 4:={}
instance tt171:FldC Tryz.prog 32 3 3 1 false:={}
instance tt172:CfC Tryz.prog 20:={}
instance bAt:CfC Tryz.prog 16:={}
theorem fR(β:Base)(w:World)(hw:St β [] w)(k:UInt8)(o p h g:Int):oP Tryz.prog 20 #[Bx k,Ix o,Ix p,Ix h,Ix g] β w (.agg (xH ⟨k,o,p,h,⟨g,0,0,0⟩⟩).toArray):=by
 refine enter (n:=18) Tryz.func20 rfl Tryz.ntmps20 rfl ?_ hw
 refine bD (gB fun b1=>eY ?_)
 iterate 5 refine lE aU ?_
 refine lv (v:= .agg #[Ix (g),.int .i64 (0),.int .i64 (0),.int .i64 (0)]) (eQ tt3.ok qY.ok (vs:=[(0,Ix (g))]) (cells:= #[Ix (g),.int .i64 (0),.int .i64 (0),.int .i64 (0)]) rfl rfl) ?_
 refine lv (v:= .agg #[Bx (k),Ix (o),Ix (p),Ix (h),Ix (g),.int .i64 (0),.int .i64 (0),.int .i64 (0)]) (bV aHh.ok bDc (vs:=[(0,Bx (k)),(1,Ix (o)),(2,Ix (p)),(3,Ix (h)),(4,.agg #[Ix (g),.int .i64 (0),.int .i64 (0),.int .i64 (0)])]) (cells:= #[Bx (k),Ix (o),Ix (p),Ix (h),Ix (g),.int .i64 (0),.int .i64 (0),.int .i64 (0)]) rfl (by kernel_rfl)) ?_
 refine lu (mS 0 (#[Bx (k),Ix (o),Ix (p),Ix (h),Ix (g),.int .i64 (0),.int .i64 (0),.int .i64 (0)])) (aN (aV ?_))
 refine gK (m:=[.agg #[Bx (k),Ix (o),Ix (p),Ix (h),Ix (g),.int .i64 (0),.int .i64 (0),.int .i64 (0)]]) Tryz.results20 ⟨bS aOr.ok rfl (cD 0 rfl rfl) rfl,trivial⟩ rfl ?_
 intro w hw
 exact⟨rfl,aG [false] rfl hw⟩
open Go Go.Sl Go.Td Go.Jn
theorem aNn{β:Base}{b:Nat}{p:Int}{w:World}(h:St β [pt b (.cells #[.slice none 0 0,.slice none 0 0,.slice none 0 0,Ix p] 29)] w)(hp: -1≤p∧p≤1000):St β [mC b gV 0 0 p] w:=by
 have h1:=((h.emp (r:=row (.slice none 0 0) 5 1 0 (BX [])) (eA _ _ _)).emp (r:=row (.slice none 0 0) 5 1 0 (BX [])) (eA _ _ _)).emp (r:=row (.slice none 0 0) 5 1 0 (BX [])) (eA _ _ _)
 have h2:=h1.perm (L':=[pt b (.cells #[.slice none 0 0,.slice none 0 0,.slice none 0 0,Ix p] 29),row (.slice none 0 0) 5 1 0 (BX []),row (.slice none 0 0) 5 1 0 (BX []),row (.slice none 0 0) 5 1 0 (BX [])]) (by exact(aW [3,0,1,2] 4 rfl (by kernel_rfl) (by kernel_rfl)))
 exact St.closeShelf (M:=[]) (aOg hp) rfl (St.closeStore (k:=⟨[],[],[],p⟩) (pH:=none) (pA:=none) (pB:=none) (cH:=0) (cA:=0) (cB:=0) (M:=[]) h2)
theorem aBs(β:Base)(w:World)(b:Nat)(p:Int)(hw:St β [pt b (.cells #[.slice none 0 0,.slice none 0 0,.slice none 0 0,Ix p] 29)] w)(hp:p= -1):Calls Tryz.prog 21 #[pp b 0] w fun r w'=>∃H,r= .returned (.tuple #[pp H 0,.int .i64 0])∧St β [cV H b gV 0 0 (-1)] w':=by
 subst hp;exact aGl β w b 0 0 gV (aNn hw (by decide)) (by decide)
theorem wU(β:Base)(w:World)(H S N W:Nat)(X:KHs)(hw:St β [cV H S X N W (-1)] w)(au nu:Int)(v:Value)(al:List KAct)(hs:Sl cJ.R β.heap v al)(hal:al.length≤1048576)(hb:wF al)(hN:N≤400){X1:KHs}{R:KRes}{e1:Int}(hd:sH X au nu al=(X1,R,e1)):
  Calls Tryz.prog 12 #[pp H 0,Ix au,Ix nu,v] w fun r w'=>∃p c,r= .returned (.tuple #[.agg #[.bool R.done,Ix R.at_,Ix R.e,sB p R.holds c],Ix e1])∧St β [aK aZ 3 p c R.holds,cV H S X1 (N+1) (W+494) (-1)] w':=by
 refine(do_ok β w H S N W (-1) X hw au nu v al hs hal hb (Nat.le_trans hN (by decide)) hN).mono ?_
 rintro r w' ⟨X2,R2,e2,h1,h2⟩
 rw[hd]at h1
 injection h1 with h3 h4
 injection h4 with h4 h5
 subst h3;subst h4;subst h5
 rcases h2 with⟨p,c,q,hq,h6,h7⟩|⟨h6,_⟩
 ·rw[hq rfl]at h7;exact⟨p,c,h6,h7⟩
 exact absurd rfl h6
theorem pJ(β:Base)(w:World)(H S N W:Nat)(pw:Int)(X:KHs)(hw:St β [cV H S X N W pw] w)(n:Int)(a:KAm)(h:iS X.s.ps n=a):Calls Tryz.prog 44 #[pp H 0,Ix n] w fun r w'=>r= .returned (.agg (eK a))∧St β [cV H S X N W pw] w':=by
 subst h;exact aSt β w H S N W pw X hw n
theorem aOj(β:Base)(w:World)(H S N W:Nat)(pw:Int)(X:KHs)(hw:St β [cV H S X N W pw] w)(a:KAm)(h:X.s.su=a):Calls Tryz.prog 15 #[pp H 0] w fun r w'=>r= .returned (.agg (eK a))∧St β [cV H S X N W pw] w':=by
 subst h;exact aOk β w H S N W pw X hw
theorem pD(β:Base)(w:World)(H S N W:Nat)(pw:Int)(X:KHs)(hw:St β [cV H S X N W pw] w)(l:List KHo)(h:gW X=l):Calls Tryz.prog 13 #[pp H 0] w fun r w'=>∃p c,r= .returned (sB p l c)∧St β [aK fG 104 p c l,cV H S X N W pw] w':=by
 subst h;exact aRc β w H S N W pw X hw
theorem bGo:xC Tryz.prog 29 [(0,1),(1,1),(2,1),(3,1)]=true:=by kernel_rfl
instance bGp:ZerC Tryz.prog 29 (.agg #[.slice none 0 0,.slice none 0 0,.slice none 0 0,.int .i64 (0)]):={}
instance aAg:CfC Tryz.prog 12:={}
instance aCm:CfC Tryz.prog 44:={}
instance bGq:CfC Tryz.prog 15:={}
instance aCn:CfC Tryz.prog 13:={}
instance tt181:UndC Tryz.prog 40 104:={}
theorem bAu:zC Tryz.prog 10000 104=some [.int .i64,.int .i64,.int .i64,.int .i64,.int .i64,.int .i64]:=by kernel_rfl
theorem bAv:gM Tryz.prog 104=true:=by kernel_rfl
theorem bAw:Tryz.prog.eqGuardType Tryz.prog.depth 104=false:=by kernel_rfl
theorem aFd(β:Base)(w:World)(hw:St β [] w):oP Tryz.prog 17 #[] β w (.bool true):=by
 refine enter (n:=178) Tryz.func17 rfl Tryz.ntmps17 rfl ?_ hw
 refine bD (lE dP (eY ?_))
 refine lv (v:= .agg #[.slice none 0 0,.slice none 0 0,.slice none 0 0,.int .i64 (-1)]) (bV bGp.ok bGo (vs:=[(3,.int .i64 (-1))]) (cells:= #[.slice none 0 0,.slice none 0 0,.slice none 0 0,.int .i64 (-1)]) rfl rfl) ?_
 refine mL fun b1=> ?_
 refine aX rfl rfl rfl (cT (vs:=[pp b1 0]) bGn.ok rfl rfl) ?_
 intro w hw
 obtain⟨β1,sb,kn,hw1,back⟩:=St.frame (L:=[_]) (M:=[]) hw
 refine(aBs β1 w b1 (-1) hw1 (by decide)).mono ?_
 rintro e w' ⟨H2,rfl,hw'⟩
 refine⟨_,rfl,_,back _ _ hw',?_⟩
 refine lE oM (lE oxp (lE pW (lE oap (lE bN (aN (eR (aC (lE aU (lE lO (lE fM (gE dS ?_)))))))))))
 refine cU (v:= .bool false) rfl rfl rfl rfl rfl (iV (p:=some (⟨H2,0,none⟩)) rfl rfl bHd) (lE dT (aN (cR rfl (eB (bD (lE dS ?_))))))
 refine gI gH (fun w β1 sb kn hw1=>fR β1 w hw1 (1:UInt8) 1 0 0 100) ?_
 refine dA rfl rfl rfl (bZ wR aHh.ok (cells:= #[.int .u8 (1),.int .i64 (1),.int .i64 (0),.int .i64 (0),.int .i64 (100),.int .i64 (0),.int .i64 (0),.int .i64 (0)]) rfl rfl rfl (by kernel_rfl)) ?_
 rintro _ _ ⟨b3,rfl,rfl⟩
 refine aX rfl rfl rfl (cT (vs:=[pp H2 0,.int .i64 (1),.int .i64 (1),.slice (some ⟨b3,0,none⟩) 1 1]) aAg.ok rfl rfl) ?_
 intro w hw
 replace hw:=hw.perm (L':=_::_::[]) (by exact((aB 0 rfl).trans (aB 1 rfl)))
 obtain⟨β1,sb,kn,hw1,back⟩:=St.frame (L:=[_]) (M:=_::[]) hw
 refine(wU β1 w H2 b1 0 0 gV hw1 1 1 _ [(⟨1,1,0,0,(⟨100,0,0,0⟩:KAm)⟩:KAct)] (kn _ (bH.of_res 0 rfl (Sl.mono _ _ _) fun a h=>jC (gP (F:=cJ) (xs:=[(⟨1,1,0,0,(⟨100,0,0,0⟩:KAm)⟩:KAct)]) rfl (by first|decide|simp) a h))) (by decide) (by decide) (by omega) bDs).mono ?_
 rintro e w' ⟨p4,c5,rfl,hw'⟩
 refine⟨_,rfl,_,back _ _ hw',?_⟩
 refine lE oM (lE rG (lE pW (gB fun b6=>lu (mS 0 (#[.bool true,.int .i64 (0),.int .i64 (0),.slice p4 (0) c5])) (lE bN (aN (eR (aC ?_)))))))
 refine lE aU (lE lO (lE fM (gE aY (gE (olb 0) (gE mB (lE dT (lE fM (gE dS ?_))))))))
 refine eM rfl rfl rfl rfl rfl (cT (vs:=[pp H2 0,.int .i64 (1)]) aCm.ok rfl rfl) ?_
 intro w hw
 replace hw:=hw.perm (L':=_::_::_::_::[]) (by exact((((aB 3 rfl).trans (aB 2 rfl)).trans (aB 2 rfl)).trans (aB 3 rfl)))
 obtain⟨β1,sb,kn,hw1,back⟩:=St.frame (L:=[_]) (M:=_::_::_::[]) hw
 refine(pJ β1 w H2 b1 (0+1) (0+494) (-1) aX1 hw1 1 _ bEc).mono ?_
 rintro e w' ⟨rfl,hw'⟩
 refine⟨_,rfl,_,back _ _ hw',?_⟩
 refine cU (v:= .agg #[.int .i64 (100),.int .i64 (0),.int .i64 (0),.int .i64 (0)]) rfl rfl rfl rfl rfl (eQ tt3.ok qY.ok (vs:=[(0,.int .i64 (100))]) (cells:= #[.int .i64 (100),.int .i64 (0),.int .i64 (0),.int .i64 (0)]) rfl rfl) ?_
 refine cU (v:= .bool (decide (¬((⟨100,0,0,0⟩:KAm)=(⟨100,0,0,0⟩:KAm))))) rfl rfl rfl rfl rfl (iA (xs:=oT (⟨100,0,0,0⟩:KAm)) (ys:=oT (⟨100,0,0,0⟩:KAm)) xM xN xO rfl rfl rfl rfl (not_congr (kY (x:=(⟨100,0,0,0⟩:KAm)) (y:=(⟨100,0,0,0⟩:KAm))))) ?_
 refine lE dT (lE fM (eO (s:=44) rfl (fun h=> ?_) (fun h=> ?_)))
 exact absurd h (fun q=>q rfl)
 refine gE dS (eM rfl rfl rfl rfl rfl (cT (vs:=[pp H2 0]) bGq.ok rfl rfl) ?_)
 intro w hw
 obtain⟨β1,sb,kn,hw1,back⟩:=St.frame (L:=[_]) (M:=_::_::_::[]) hw
 refine(aOj β1 w H2 b1 (0+1) (0+494) (-1) aX1 hw1 _ bEg).mono ?_
 rintro e w' ⟨rfl,hw'⟩
 refine⟨_,rfl,_,back _ _ hw',?_⟩
 refine cU (v:= .agg #[.int .i64 (100),.int .i64 (0),.int .i64 (0),.int .i64 (0)]) rfl rfl rfl rfl rfl (eQ tt3.ok qY.ok (vs:=[(0,.int .i64 (100))]) (cells:= #[.int .i64 (100),.int .i64 (0),.int .i64 (0),.int .i64 (0)]) rfl rfl) ?_
 refine cU (v:= .bool (decide (¬((⟨100,0,0,0⟩:KAm)=(⟨100,0,0,0⟩:KAm))))) rfl rfl rfl rfl rfl (iA (xs:=oT (⟨100,0,0,0⟩:KAm)) (ys:=oT (⟨100,0,0,0⟩:KAm)) xM xN xO rfl rfl rfl rfl (not_congr (kY (x:=(⟨100,0,0,0⟩:KAm)) (y:=(⟨100,0,0,0⟩:KAm))))) ?_
 refine lE dT (aN (cN _ rfl (fun hc7=> ?_) (fun hc7=> ?_)))
 ·exact absurd hc7 (fun q=>q rfl)
 refine eB (bD (gI gH (fun w β1 sb kn hw1=>fR β1 w hw1 (3:UInt8) 1 2 0 30) ?_))
 refine gI gH (fun w β1 sb kn hw1=>fR β1 w hw1 (4:UInt8) 1 0 0 50) ?_
 refine dA rfl rfl rfl (bZ wR aHh.ok (cells:= #[.int .u8 (3),.int .i64 (1),.int .i64 (2),.int .i64 (0),.int .i64 (30),.int .i64 (0),.int .i64 (0),.int .i64 (0),.int .u8 (4),.int .i64 (1),.int .i64 (0),.int .i64 (0),.int .i64 (50),.int .i64 (0),.int .i64 (0),.int .i64 (0)]) rfl rfl rfl (by kernel_rfl)) ?_
 rintro _ _ ⟨b8,rfl,rfl⟩
 refine lE iO (aN (eR (aC (lE aU (aN (aJ (mU 3 (eH 2 (bD (lE gN (aN (aL (dN rfl (eB (aL (aJ (bD ?_)))))))))))))))))
 refine lE dS (lE fL (aX rfl rfl rfl (cT (vs:=[pp H2 0,.int .i64 (5),.int .i64 (1),.slice (some ⟨b8,0,none⟩) 2 2]) aAg.ok rfl rfl) ?_))
 intro w hw
 replace hw:=hw.perm (L':=_::_::_::_::_::[]) (by exact(((((aB 4 rfl).trans (aB 4 rfl)).trans (aB 4 rfl)).trans (aB 3 rfl)).trans (aB 4 rfl)))
 obtain⟨β1,sb,kn,hw1,back⟩:=St.frame (L:=[_]) (M:=_::_::_::_::[]) hw
 refine(wU β1 w H2 b1 (0+1) (0+494) aX1 hw1 5 1 _ [(⟨3,1,2,0,(⟨30,0,0,0⟩:KAm)⟩:KAct),(⟨4,1,0,0,(⟨50,0,0,0⟩:KAm)⟩:KAct)] (kn _ (bH.of_res 0 rfl (Sl.mono _ _ _) fun a h=>jC (gP (F:=cJ) (xs:=[(⟨3,1,2,0,(⟨30,0,0,0⟩:KAm)⟩:KAct),(⟨4,1,0,0,(⟨50,0,0,0⟩:KAm)⟩:KAct)]) rfl (by first|decide|simp) a h))) (by decide) (by decide) (by omega) bDt).mono ?_
 rintro e w' ⟨p9,c10,rfl,hw'⟩
 refine⟨_,rfl,_,back _ _ hw',?_⟩
 refine lE oM (lE rG (lE pW (gB fun b11=>lu (mS 0 (#[.bool true,.int .i64 (0),.int .i64 (0),.slice p9 (1) c10])) (lE bN (eY (lE aU (lE lO ?_)))))))
 refine lE fM (gE aY (gE (olb 0) (gE mB (lE dT (lE fM (gE aY (gE (fQ 0) ?_)))))))
 refine bEr rfl rfl rfl rfl rfl (bZ rY aUk.ok (cells:= #[.int .i64 (1)]) rfl rfl rfl rfl) ?_
 rintro _ _ ⟨b12,rfl,rfl⟩
 refine eM rfl rfl rfl rfl rfl (cT (vs:=[.slice p9 (1) c10,.slice (some ⟨b12,0,none⟩) 1 1]) bAt.ok rfl rfl) ?_
 intro w hw
 obtain⟨β1,sb,kn,hw1,back⟩:=St.frame_all hw
 refine(vK β1 w hw1 _ _ [1] ([1]:List Int) (kn _ (jK 2 (F:=aZ) (m:=1) rfl rfl)) (kn _ (bH.of_res 0 rfl (Sl.mono _ _ _) fun a h=>jC (gP (F:=aZ) (xs:=([1]:List Int)) rfl (by first|decide|simp) a h)))).mono ?_
 rintro e w' ⟨rfl,hw'⟩
 refine⟨_,rfl,_,back _ _ hw',?_⟩
 refine gE ond (lE dT (lE fM (eO (s:=75) rfl (fun h=> ?_) (fun h=> ?_))))
 exact absurd h (fun q=>q rfl)
 refine gE dS (eM rfl rfl rfl rfl rfl (cT (vs:=[pp H2 0,.int .i64 (1)]) aCm.ok rfl rfl) ?_)
 intro w hw
 replace hw:=hw.perm (L':=_::_::_::_::_::_::_::_::[]) (by exact((((((((aB 7 rfl).trans (aB 7 rfl)).trans (aB 7 rfl)).trans (aB 7 rfl)).trans (aB 6 rfl)).trans (aB 6 rfl)).trans (aB 6 rfl)).trans (aB 7 rfl)))
 obtain⟨β1,sb,kn,hw1,back⟩:=St.frame (L:=[_]) (M:=_::_::_::_::_::_::_::[]) hw
 refine(pJ β1 w H2 b1 ((0+1)+1) ((0+494)+494) (-1) vT hw1 1 _ aZo).mono ?_
 rintro e w' ⟨rfl,hw'⟩
 refine⟨_,rfl,_,back _ _ hw',?_⟩
 refine cU (v:= .agg #[.int .i64 (20),.int .i64 (0),.int .i64 (0),.int .i64 (0)]) rfl rfl rfl rfl rfl (eQ tt3.ok qY.ok (vs:=[(0,.int .i64 (20))]) (cells:= #[.int .i64 (20),.int .i64 (0),.int .i64 (0),.int .i64 (0)]) rfl rfl) ?_
 refine cU (v:= .bool (decide (¬((⟨20,0,0,0⟩:KAm)=(⟨20,0,0,0⟩:KAm))))) rfl rfl rfl rfl rfl (iA (xs:=oT (⟨20,0,0,0⟩:KAm)) (ys:=oT (⟨20,0,0,0⟩:KAm)) xM xN xO rfl rfl rfl rfl (not_congr (kY (x:=(⟨20,0,0,0⟩:KAm)) (y:=(⟨20,0,0,0⟩:KAm))))) ?_
 refine lE dT (lE fM (eO (s:=81) rfl (fun h=> ?_) (fun h=> ?_)))
 exact absurd h (fun q=>q rfl)
 refine gE dS (eM rfl rfl rfl rfl rfl (cT (vs:=[pp H2 0,.int .i64 (2)]) aCm.ok rfl rfl) ?_)
 intro w hw
 obtain⟨β1,sb,kn,hw1,back⟩:=St.frame (L:=[_]) (M:=_::_::_::_::_::_::_::[]) hw
 refine(pJ β1 w H2 b1 ((0+1)+1) ((0+494)+494) (-1) vT hw1 2 _ aZp).mono ?_
 rintro e w' ⟨rfl,hw'⟩
 refine⟨_,rfl,_,back _ _ hw',?_⟩
 refine cU (v:= .agg #[.int .i64 (30),.int .i64 (0),.int .i64 (0),.int .i64 (0)]) rfl rfl rfl rfl rfl (eQ tt3.ok qY.ok (vs:=[(0,.int .i64 (30))]) (cells:= #[.int .i64 (30),.int .i64 (0),.int .i64 (0),.int .i64 (0)]) rfl rfl) ?_
 refine cU (v:= .bool (decide (¬((⟨30,0,0,0⟩:KAm)=(⟨30,0,0,0⟩:KAm))))) rfl rfl rfl rfl rfl (iA (xs:=oT (⟨30,0,0,0⟩:KAm)) (ys:=oT (⟨30,0,0,0⟩:KAm)) xM xN xO rfl rfl rfl rfl (not_congr (kY (x:=(⟨30,0,0,0⟩:KAm)) (y:=(⟨30,0,0,0⟩:KAm))))) ?_
 refine lE dT (lE fM (eO (s:=87) rfl (fun h=> ?_) (fun h=> ?_)))
 exact absurd h (fun q=>q rfl)
 refine gE dS (eM rfl rfl rfl rfl rfl (cT (vs:=[pp H2 0]) aCn.ok rfl rfl) ?_)
 intro w hw
 obtain⟨β1,sb,kn,hw1,back⟩:=St.frame (L:=[_]) (M:=_::_::_::_::_::_::_::[]) hw
 refine(pD β1 w H2 b1 ((0+1)+1) ((0+494)+494) (-1) vT hw1 _ aJp).mono ?_
 rintro e w' ⟨p13,c14,rfl,hw'⟩
 refine⟨_,rfl,_,back _ _ hw',?_⟩
 refine gE gY (gE lO (lE dT (lE fM (eO (s:=93) rfl (fun h=> ?_) (fun h=> ?_)))))
 exact absurd h (by decide)
 refine gE dS (eM rfl rfl rfl rfl rfl (cT (vs:=[pp H2 0]) aCn.ok rfl rfl) ?_)
 intro w hw
 replace hw:=hw.perm (L':=_::_::_::_::_::_::_::_::_::[]) (by exact(((((((((aB 8 rfl).trans (aB 8 rfl)).trans (aB 8 rfl)).trans (aB 8 rfl)).trans (aB 8 rfl)).trans (aB 8 rfl)).trans (aB 8 rfl)).trans (aB 7 rfl)).trans (aB 8 rfl)))
 obtain⟨β1,sb,kn,hw1,back⟩:=St.frame (L:=[_]) (M:=_::_::_::_::_::_::_::_::[]) hw
 refine(pD β1 w H2 b1 ((0+1)+1) ((0+494)+494) (-1) vT hw1 _ aJp).mono ?_
 rintro e w' ⟨p15,c16,rfl,hw'⟩
 refine⟨_,rfl,_,back _ _ hw',?_⟩
 refine cU (v:= .pointer (some ((ba p15).add (0*6)))) rfl rfl rfl rfl rfl (eL 0 (F:=fG) rfl rfl rfl aLx (by omega) rfl) ?_
 obtain⟨x17,hx18⟩:∃x_,[(⟨1,1,⟨50,0,0,0⟩⟩:KHo)][0]? =some x_:=⟨_,List.getElem?_eq_getElem (by first|omega|decide)⟩
 refine cU (v:= .agg #[Ix (x17.number),Ix (x17.owner),Ix (x17.a.a0),Ix (x17.a.a1),Ix (x17.a.a2),Ix (x17.a.a3)]) rfl rfl rfl rfl rfl (fV bGt.ok rfl (lF 0 (F:=fG) rfl hx18) rfl) ?_
 refine cU (v:= .agg #[.int .i64 (50),.int .i64 (0),.int .i64 (0),.int .i64 (0)]) rfl rfl rfl rfl rfl (eQ tt3.ok qY.ok (vs:=[(0,.int .i64 (50))]) (cells:= #[.int .i64 (50),.int .i64 (0),.int .i64 (0),.int .i64 (0)]) rfl rfl) ?_
 refine cU (v:= .agg #[.int .i64 (1),.int .i64 (1),.int .i64 (50),.int .i64 (0),.int .i64 (0),.int .i64 (0)]) rfl rfl rfl rfl rfl (bV aUj.ok aYt (vs:=[(0,.int .i64 (1)),(1,.int .i64 (1)),(2,.agg #[.int .i64 (50),.int .i64 (0),.int .i64 (0),.int .i64 (0)])]) (cells:= #[.int .i64 (1),.int .i64 (1),.int .i64 (50),.int .i64 (0),.int .i64 (0),.int .i64 (0)]) rfl rfl) ?_
 refine cU (v:= .bool (decide (¬(x17=(⟨1,1,(⟨50,0,0,0⟩:KAm)⟩:KHo))))) rfl rfl rfl rfl rfl (iA (xs:=hoE x17) (ys:=hoE (⟨1,1,(⟨50,0,0,0⟩:KAm)⟩:KHo)) bAu bAv bAw rfl rfl rfl rfl (not_congr (aRb (x:=x17) (y:=(⟨1,1,(⟨50,0,0,0⟩:KAm)⟩:KHo))))) ?_
 refine lE dT (aN (cN _ rfl (fun hc19=> ?_) (fun hc19=> ?_)))
 ·exact absurd hc19 (fun q=>q (by injection hx18 with e;exact e.symm))
 refine cG (aP (bA (aC (lE rF (lE aU (aH (bG (eH 1 (bD (lE gN (aN (aL (dN rfl (eB (aL (aJ (bD ?_)))))))))))))))))
 refine lE dS (lE fL (aX rfl rfl rfl (cT (vs:=[pp H2 0,.int .i64 (5),.int .i64 (1),.slice (some ⟨b8,0,none⟩) 2 2]) aAg.ok rfl rfl) ?_))
 intro w hw
 replace hw:=hw.perm (L':=[cV H2 b1 vT ((0+1)+1) ((0+494)+494) (-1),aK fG 104 p15 c16 [(⟨1,1,⟨50,0,0,0⟩⟩:KHo)],aK fG 104 p13 c14 [(⟨1,1,⟨50,0,0,0⟩⟩:KHo)],pt b12 (.cells #[.int .i64 (1)] 3),pt b11 (.cells #[.bool true,.int .i64 (0),.int .i64 (0),.slice p9 (1) c10] 37),aK aZ 3 p9 c10 [1],pt b8 (.cells #[.int .u8 (3),.int .i64 (1),.int .i64 (2),.int .i64 (0),.int .i64 (30),.int .i64 (0),.int .i64 (0),.int .i64 (0),.int .u8 (4),.int .i64 (1),.int .i64 (0),.int .i64 (0),.int .i64 (50),.int .i64 (0),.int .i64 (0),.int .i64 (0)] 47),pt b6 (.cells #[.bool true,.int .i64 (0),.int .i64 (0),.slice p4 (0) c5] 37),aK aZ 3 p4 c5 [],pt b3 (.cells #[.int .u8 (1),.int .i64 (1),.int .i64 (0),.int .i64 (0),.int .i64 (100),.int .i64 (0),.int .i64 (0),.int .i64 (0)] 47)]) (by exact(aW [1,0,2,3,4,5,6,7,8,9] 10 rfl (by kernel_rfl) (by kernel_rfl)))
 obtain⟨β1,sb,kn,hw1,back⟩:=St.frame (L:=[_]) (M:=_::_::_::_::_::_::_::_::_::[]) hw
 refine(wU β1 w H2 b1 ((0+1)+1) ((0+494)+494) vT hw1 5 1 _ [(⟨3,1,2,0,(⟨30,0,0,0⟩:KAm)⟩:KAct),(⟨4,1,0,0,(⟨50,0,0,0⟩:KAm)⟩:KAct)] (kn _ (bH.of_res 5 rfl (Sl.mono _ _ _) fun a h=>jC (gP (F:=cJ) (xs:=[(⟨3,1,2,0,(⟨30,0,0,0⟩:KAm)⟩:KAct),(⟨4,1,0,0,(⟨50,0,0,0⟩:KAm)⟩:KAct)]) rfl (by first|decide|simp) a h))) (by decide) (by decide) (by omega) bDu).mono ?_
 rintro e w' ⟨p20,c21,rfl,hw'⟩
 refine⟨_,rfl,_,back _ _ hw',?_⟩
 refine lE oM (lE rG (lE pW (gB fun b22=>lu (mS 0 (#[.bool true,.int .i64 (0),.int .i64 (0),.slice p20 (1) c21])) (lE bN (eY (lE aU ?_))))))
 refine lE lO (lE fM (gE aY (gE (olb 0) (gE mB (lE dT (lE fM (gE aY (gE (fQ 0) ?_))))))))
 refine bEr rfl rfl rfl rfl rfl (bZ rY aUk.ok (cells:= #[.int .i64 (1)]) rfl rfl rfl rfl) ?_
 rintro _ _ ⟨b23,rfl,rfl⟩
 refine eM rfl rfl rfl rfl rfl (cT (vs:=[.slice p20 (1) c21,.slice (some ⟨b23,0,none⟩) 1 1]) bAt.ok rfl rfl) ?_
 intro w hw
 obtain⟨β1,sb,kn,hw1,back⟩:=St.frame_all hw
 refine(vK β1 w hw1 _ _ [1] ([1]:List Int) (kn _ (jK 2 (F:=aZ) (m:=1) rfl rfl)) (kn _ (bH.of_res 0 rfl (Sl.mono _ _ _) fun a h=>jC (gP (F:=aZ) (xs:=([1]:List Int)) rfl (by first|decide|simp) a h)))).mono ?_
 rintro e w' ⟨rfl,hw'⟩
 refine⟨_,rfl,_,back _ _ hw',?_⟩
 refine gE ond (lE dT (lE fM (eO (s:=75) rfl (fun h=> ?_) (fun h=> ?_))))
 exact absurd h (fun q=>q rfl)
 refine gE dS (eM rfl rfl rfl rfl rfl (cT (vs:=[pp H2 0,.int .i64 (1)]) aCm.ok rfl rfl) ?_)
 intro w hw
 replace hw:=hw.perm (L':=[cV H2 b1 vT (((0+1)+1)+1) (((0+494)+494)+494) (-1),pt b23 (.cells #[.int .i64 (1)] 3),pt b22 (.cells #[.bool true,.int .i64 (0),.int .i64 (0),.slice p20 (1) c21] 37),aK aZ 3 p20 c21 [1],aK fG 104 p15 c16 [(⟨1,1,⟨50,0,0,0⟩⟩:KHo)],aK fG 104 p13 c14 [(⟨1,1,⟨50,0,0,0⟩⟩:KHo)],pt b12 (.cells #[.int .i64 (1)] 3),pt b11 (.cells #[.bool true,.int .i64 (0),.int .i64 (0),.slice p9 (1) c10] 37),aK aZ 3 p9 c10 [1],pt b8 (.cells #[.int .u8 (3),.int .i64 (1),.int .i64 (2),.int .i64 (0),.int .i64 (30),.int .i64 (0),.int .i64 (0),.int .i64 (0),.int .u8 (4),.int .i64 (1),.int .i64 (0),.int .i64 (0),.int .i64 (50),.int .i64 (0),.int .i64 (0),.int .i64 (0)] 47),pt b6 (.cells #[.bool true,.int .i64 (0),.int .i64 (0),.slice p4 (0) c5] 37),aK aZ 3 p4 c5 [],pt b3 (.cells #[.int .u8 (1),.int .i64 (1),.int .i64 (0),.int .i64 (0),.int .i64 (100),.int .i64 (0),.int .i64 (0),.int .i64 (0)] 47)]) (by exact(aW [3,0,1,2,4,5,6,7,8,9,10,11,12] 13 rfl (by kernel_rfl) (by kernel_rfl)))
 obtain⟨β1,sb,kn,hw1,back⟩:=St.frame (L:=[_]) (M:=_::_::_::_::_::_::_::_::_::_::_::_::[]) hw
 refine(pJ β1 w H2 b1 (((0+1)+1)+1) (((0+494)+494)+494) (-1) vT hw1 1 _ aZo).mono ?_
 rintro e w' ⟨rfl,hw'⟩
 refine⟨_,rfl,_,back _ _ hw',?_⟩
 refine cU (v:= .agg #[.int .i64 (20),.int .i64 (0),.int .i64 (0),.int .i64 (0)]) rfl rfl rfl rfl rfl (eQ tt3.ok qY.ok (vs:=[(0,.int .i64 (20))]) (cells:= #[.int .i64 (20),.int .i64 (0),.int .i64 (0),.int .i64 (0)]) rfl rfl) ?_
 refine cU (v:= .bool (decide (¬((⟨20,0,0,0⟩:KAm)=(⟨20,0,0,0⟩:KAm))))) rfl rfl rfl rfl rfl (iA (xs:=oT (⟨20,0,0,0⟩:KAm)) (ys:=oT (⟨20,0,0,0⟩:KAm)) xM xN xO rfl rfl rfl rfl (not_congr (kY (x:=(⟨20,0,0,0⟩:KAm)) (y:=(⟨20,0,0,0⟩:KAm))))) ?_
 refine lE dT (lE fM (eO (s:=81) rfl (fun h=> ?_) (fun h=> ?_)))
 exact absurd h (fun q=>q rfl)
 refine gE dS (eM rfl rfl rfl rfl rfl (cT (vs:=[pp H2 0,.int .i64 (2)]) aCm.ok rfl rfl) ?_)
 intro w hw
 replace hw:=hw.perm (L':=[cV H2 b1 vT (((0+1)+1)+1) (((0+494)+494)+494) (-1),pt b23 (.cells #[.int .i64 (1)] 3),pt b22 (.cells #[.bool true,.int .i64 (0),.int .i64 (0),.slice p20 (1) c21] 37),aK aZ 3 p20 c21 [1],aK fG 104 p15 c16 [(⟨1,1,⟨50,0,0,0⟩⟩:KHo)],aK fG 104 p13 c14 [(⟨1,1,⟨50,0,0,0⟩⟩:KHo)],pt b12 (.cells #[.int .i64 (1)] 3),pt b11 (.cells #[.bool true,.int .i64 (0),.int .i64 (0),.slice p9 (1) c10] 37),aK aZ 3 p9 c10 [1],pt b8 (.cells #[.int .u8 (3),.int .i64 (1),.int .i64 (2),.int .i64 (0),.int .i64 (30),.int .i64 (0),.int .i64 (0),.int .i64 (0),.int .u8 (4),.int .i64 (1),.int .i64 (0),.int .i64 (0),.int .i64 (50),.int .i64 (0),.int .i64 (0),.int .i64 (0)] 47),pt b6 (.cells #[.bool true,.int .i64 (0),.int .i64 (0),.slice p4 (0) c5] 37),aK aZ 3 p4 c5 [],pt b3 (.cells #[.int .u8 (1),.int .i64 (1),.int .i64 (0),.int .i64 (0),.int .i64 (100),.int .i64 (0),.int .i64 (0),.int .i64 (0)] 47)]) (by exact(aW [0,1,2,3,4,5,6,7,8,9,10,11,12] 13 rfl (by kernel_rfl) (by kernel_rfl)))
 obtain⟨β1,sb,kn,hw1,back⟩:=St.frame (L:=[_]) (M:=_::_::_::_::_::_::_::_::_::_::_::_::[]) hw
 refine(pJ β1 w H2 b1 (((0+1)+1)+1) (((0+494)+494)+494) (-1) vT hw1 2 _ aZp).mono ?_
 rintro e w' ⟨rfl,hw'⟩
 refine⟨_,rfl,_,back _ _ hw',?_⟩
 refine cU (v:= .agg #[.int .i64 (30),.int .i64 (0),.int .i64 (0),.int .i64 (0)]) rfl rfl rfl rfl rfl (eQ tt3.ok qY.ok (vs:=[(0,.int .i64 (30))]) (cells:= #[.int .i64 (30),.int .i64 (0),.int .i64 (0),.int .i64 (0)]) rfl rfl) ?_
 refine cU (v:= .bool (decide (¬((⟨30,0,0,0⟩:KAm)=(⟨30,0,0,0⟩:KAm))))) rfl rfl rfl rfl rfl (iA (xs:=oT (⟨30,0,0,0⟩:KAm)) (ys:=oT (⟨30,0,0,0⟩:KAm)) xM xN xO rfl rfl rfl rfl (not_congr (kY (x:=(⟨30,0,0,0⟩:KAm)) (y:=(⟨30,0,0,0⟩:KAm))))) ?_
 refine lE dT (lE fM (eO (s:=87) rfl (fun h=> ?_) (fun h=> ?_)))
 exact absurd h (fun q=>q rfl)
 refine gE dS (eM rfl rfl rfl rfl rfl (cT (vs:=[pp H2 0]) aCn.ok rfl rfl) ?_)
 intro w hw
 replace hw:=hw.perm (L':=[cV H2 b1 vT (((0+1)+1)+1) (((0+494)+494)+494) (-1),pt b23 (.cells #[.int .i64 (1)] 3),pt b22 (.cells #[.bool true,.int .i64 (0),.int .i64 (0),.slice p20 (1) c21] 37),aK aZ 3 p20 c21 [1],aK fG 104 p15 c16 [(⟨1,1,⟨50,0,0,0⟩⟩:KHo)],aK fG 104 p13 c14 [(⟨1,1,⟨50,0,0,0⟩⟩:KHo)],pt b12 (.cells #[.int .i64 (1)] 3),pt b11 (.cells #[.bool true,.int .i64 (0),.int .i64 (0),.slice p9 (1) c10] 37),aK aZ 3 p9 c10 [1],pt b8 (.cells #[.int .u8 (3),.int .i64 (1),.int .i64 (2),.int .i64 (0),.int .i64 (30),.int .i64 (0),.int .i64 (0),.int .i64 (0),.int .u8 (4),.int .i64 (1),.int .i64 (0),.int .i64 (0),.int .i64 (50),.int .i64 (0),.int .i64 (0),.int .i64 (0)] 47),pt b6 (.cells #[.bool true,.int .i64 (0),.int .i64 (0),.slice p4 (0) c5] 37),aK aZ 3 p4 c5 [],pt b3 (.cells #[.int .u8 (1),.int .i64 (1),.int .i64 (0),.int .i64 (0),.int .i64 (100),.int .i64 (0),.int .i64 (0),.int .i64 (0)] 47)]) (by exact(aW [0,1,2,3,4,5,6,7,8,9,10,11,12] 13 rfl (by kernel_rfl) (by kernel_rfl)))
 obtain⟨β1,sb,kn,hw1,back⟩:=St.frame (L:=[_]) (M:=_::_::_::_::_::_::_::_::_::_::_::_::[]) hw
 refine(pD β1 w H2 b1 (((0+1)+1)+1) (((0+494)+494)+494) (-1) vT hw1 _ aJp).mono ?_
 rintro e w' ⟨p24,c25,rfl,hw'⟩
 refine⟨_,rfl,_,back _ _ hw',?_⟩
 refine gE gY (gE lO (lE dT (lE fM (eO (s:=93) rfl (fun h=> ?_) (fun h=> ?_)))))
 exact absurd h (by decide)
 refine gE dS (eM rfl rfl rfl rfl rfl (cT (vs:=[pp H2 0]) aCn.ok rfl rfl) ?_)
 intro w hw
 replace hw:=hw.perm (L':=[cV H2 b1 vT (((0+1)+1)+1) (((0+494)+494)+494) (-1),aK fG 104 p24 c25 [(⟨1,1,⟨50,0,0,0⟩⟩:KHo)],pt b23 (.cells #[.int .i64 (1)] 3),pt b22 (.cells #[.bool true,.int .i64 (0),.int .i64 (0),.slice p20 (1) c21] 37),aK aZ 3 p20 c21 [1],aK fG 104 p15 c16 [(⟨1,1,⟨50,0,0,0⟩⟩:KHo)],aK fG 104 p13 c14 [(⟨1,1,⟨50,0,0,0⟩⟩:KHo)],pt b12 (.cells #[.int .i64 (1)] 3),pt b11 (.cells #[.bool true,.int .i64 (0),.int .i64 (0),.slice p9 (1) c10] 37),aK aZ 3 p9 c10 [1],pt b8 (.cells #[.int .u8 (3),.int .i64 (1),.int .i64 (2),.int .i64 (0),.int .i64 (30),.int .i64 (0),.int .i64 (0),.int .i64 (0),.int .u8 (4),.int .i64 (1),.int .i64 (0),.int .i64 (0),.int .i64 (50),.int .i64 (0),.int .i64 (0),.int .i64 (0)] 47),pt b6 (.cells #[.bool true,.int .i64 (0),.int .i64 (0),.slice p4 (0) c5] 37),aK aZ 3 p4 c5 [],pt b3 (.cells #[.int .u8 (1),.int .i64 (1),.int .i64 (0),.int .i64 (0),.int .i64 (100),.int .i64 (0),.int .i64 (0),.int .i64 (0)] 47)]) (by exact(aW [1,0,2,3,4,5,6,7,8,9,10,11,12,13] 14 rfl (by kernel_rfl) (by kernel_rfl)))
 obtain⟨β1,sb,kn,hw1,back⟩:=St.frame (L:=[_]) (M:=_::_::_::_::_::_::_::_::_::_::_::_::_::[]) hw
 refine(pD β1 w H2 b1 (((0+1)+1)+1) (((0+494)+494)+494) (-1) vT hw1 _ aJp).mono ?_
 rintro e w' ⟨p26,c27,rfl,hw'⟩
 refine⟨_,rfl,_,back _ _ hw',?_⟩
 refine cU (v:= .pointer (some ((ba p26).add (0*6)))) rfl rfl rfl rfl rfl (eL 0 (F:=fG) rfl rfl rfl aLx (by omega) rfl) ?_
 obtain⟨x28,hx29⟩:∃x_,[(⟨1,1,⟨50,0,0,0⟩⟩:KHo)][0]? =some x_:=⟨_,List.getElem?_eq_getElem (by first|omega|decide)⟩
 refine cU (v:= .agg #[Ix (x28.number),Ix (x28.owner),Ix (x28.a.a0),Ix (x28.a.a1),Ix (x28.a.a2),Ix (x28.a.a3)]) rfl rfl rfl rfl rfl (fV bGt.ok rfl (lF 0 (F:=fG) rfl hx29) rfl) ?_
 refine cU (v:= .agg #[.int .i64 (50),.int .i64 (0),.int .i64 (0),.int .i64 (0)]) rfl rfl rfl rfl rfl (eQ tt3.ok qY.ok (vs:=[(0,.int .i64 (50))]) (cells:= #[.int .i64 (50),.int .i64 (0),.int .i64 (0),.int .i64 (0)]) rfl rfl) ?_
 refine cU (v:= .agg #[.int .i64 (1),.int .i64 (1),.int .i64 (50),.int .i64 (0),.int .i64 (0),.int .i64 (0)]) rfl rfl rfl rfl rfl (bV aUj.ok aYt (vs:=[(0,.int .i64 (1)),(1,.int .i64 (1)),(2,.agg #[.int .i64 (50),.int .i64 (0),.int .i64 (0),.int .i64 (0)])]) (cells:= #[.int .i64 (1),.int .i64 (1),.int .i64 (50),.int .i64 (0),.int .i64 (0),.int .i64 (0)]) rfl rfl) ?_
 refine cU (v:= .bool (decide (¬(x28=(⟨1,1,(⟨50,0,0,0⟩:KAm)⟩:KHo))))) rfl rfl rfl rfl rfl (iA (xs:=hoE x28) (ys:=hoE (⟨1,1,(⟨50,0,0,0⟩:KAm)⟩:KHo)) bAu bAv bAw rfl rfl rfl rfl (not_congr (aRb (x:=x28) (y:=(⟨1,1,(⟨50,0,0,0⟩:KAm)⟩:KHo))))) ?_
 refine lE dT (aN (cN _ rfl (fun hc30=> ?_) (fun hc30=> ?_)))
 ·exact absurd hc30 (fun q=>q (by injection hx29 with e;exact e.symm))
 refine cG (aP (bA (aC (lE rF (lE aU (aH (bG (eH 0 (bD (lE gN (aN (aL (cR rfl (cK (aF ?_)))))))))))))))
 refine aF (cL (kM (lE dS (gI gH (fun w β1 sb kn hw1=>fR β1 w hw1 (6:UInt8) 0 2 1 0) ?_))))
 refine gI gH (fun w β1 sb kn hw1=>fR β1 w hw1 (3:UInt8) 1 2 0 100) ?_
 refine dA rfl rfl rfl (bZ wR aHh.ok (cells:= #[.int .u8 (6),.int .i64 (0),.int .i64 (2),.int .i64 (1),.int .i64 (0),.int .i64 (0),.int .i64 (0),.int .i64 (0),.int .u8 (3),.int .i64 (1),.int .i64 (2),.int .i64 (0),.int .i64 (100),.int .i64 (0),.int .i64 (0),.int .i64 (0)]) rfl rfl rfl (by kernel_rfl)) ?_
 rintro _ _ ⟨b31,rfl,rfl⟩
 refine aX rfl rfl rfl (cT (vs:=[pp H2 0,.int .i64 (5),.int .i64 (2),.slice (some ⟨b31,0,none⟩) 2 2]) aAg.ok rfl rfl) ?_
 intro w hw
 replace hw:=hw.perm (L':=[cV H2 b1 vT (((0+1)+1)+1) (((0+494)+494)+494) (-1),pt b31 (.cells #[.int .u8 (6),.int .i64 (0),.int .i64 (2),.int .i64 (1),.int .i64 (0),.int .i64 (0),.int .i64 (0),.int .i64 (0),.int .u8 (3),.int .i64 (1),.int .i64 (2),.int .i64 (0),.int .i64 (100),.int .i64 (0),.int .i64 (0),.int .i64 (0)] 47),aK fG 104 p26 c27 [(⟨1,1,⟨50,0,0,0⟩⟩:KHo)],aK fG 104 p24 c25 [(⟨1,1,⟨50,0,0,0⟩⟩:KHo)],pt b23 (.cells #[.int .i64 (1)] 3),pt b22 (.cells #[.bool true,.int .i64 (0),.int .i64 (0),.slice p20 (1) c21] 37),aK aZ 3 p20 c21 [1],aK fG 104 p15 c16 [(⟨1,1,⟨50,0,0,0⟩⟩:KHo)],aK fG 104 p13 c14 [(⟨1,1,⟨50,0,0,0⟩⟩:KHo)],pt b12 (.cells #[.int .i64 (1)] 3),pt b11 (.cells #[.bool true,.int .i64 (0),.int .i64 (0),.slice p9 (1) c10] 37),aK aZ 3 p9 c10 [1],pt b8 (.cells #[.int .u8 (3),.int .i64 (1),.int .i64 (2),.int .i64 (0),.int .i64 (30),.int .i64 (0),.int .i64 (0),.int .i64 (0),.int .u8 (4),.int .i64 (1),.int .i64 (0),.int .i64 (0),.int .i64 (50),.int .i64 (0),.int .i64 (0),.int .i64 (0)] 47),pt b6 (.cells #[.bool true,.int .i64 (0),.int .i64 (0),.slice p4 (0) c5] 37),aK aZ 3 p4 c5 [],pt b3 (.cells #[.int .u8 (1),.int .i64 (1),.int .i64 (0),.int .i64 (0),.int .i64 (100),.int .i64 (0),.int .i64 (0),.int .i64 (0)] 47)]) (by exact(aW [2,0,1,3,4,5,6,7,8,9,10,11,12,13,14,15] 16 rfl (by kernel_rfl) (by kernel_rfl)))
 obtain⟨β1,sb,kn,hw1,back⟩:=St.frame (L:=[_]) (M:=_::_::_::_::_::_::_::_::_::_::_::_::_::_::_::[]) hw
 refine(wU β1 w H2 b1 (((0+1)+1)+1) (((0+494)+494)+494) vT hw1 5 2 _ [(⟨6,0,2,1,zeroA⟩:KAct),(⟨3,1,2,0,(⟨100,0,0,0⟩:KAm)⟩:KAct)] (kn _ (bH.of_res 0 rfl (Sl.mono _ _ _) fun a h=>jC (gP (F:=cJ) (xs:=[(⟨6,0,2,1,zeroA⟩:KAct),(⟨3,1,2,0,(⟨100,0,0,0⟩:KAm)⟩:KAct)]) rfl (by first|decide|simp) a h))) (by decide) (by decide) (by omega) bDv).mono ?_
 rintro e w' ⟨p32,c33,rfl,hw'⟩
 refine⟨_,rfl,_,back _ _ hw',?_⟩
 refine lE oM (lE rG (lE pW (gB fun b34=>lu (mS 0 (#[.bool false,.int .i64 (1),.int .i64 (330),.slice p32 (0) c33])) (lE bN (eY (lE dS ?_))))))
 refine lE fL (aX rfl rfl rfl (cT (vs:=[pp H2 0,.int .i64 (5),.int .i64 (1),.slice (some ⟨b8,0,none⟩) 2 2]) aAg.ok rfl rfl) ?_)
 intro w hw
 replace hw:=hw.perm (L':=[cV H2 b1 aX3 ((((0+1)+1)+1)+1) ((((0+494)+494)+494)+494) (-1),pt b34 (.cells #[.bool false,.int .i64 (1),.int .i64 (330),.slice p32 (0) c33] 37),aK aZ 3 p32 c33 [],pt b31 (.cells #[.int .u8 (6),.int .i64 (0),.int .i64 (2),.int .i64 (1),.int .i64 (0),.int .i64 (0),.int .i64 (0),.int .i64 (0),.int .u8 (3),.int .i64 (1),.int .i64 (2),.int .i64 (0),.int .i64 (100),.int .i64 (0),.int .i64 (0),.int .i64 (0)] 47),aK fG 104 p26 c27 [(⟨1,1,⟨50,0,0,0⟩⟩:KHo)],aK fG 104 p24 c25 [(⟨1,1,⟨50,0,0,0⟩⟩:KHo)],pt b23 (.cells #[.int .i64 (1)] 3),pt b22 (.cells #[.bool true,.int .i64 (0),.int .i64 (0),.slice p20 (1) c21] 37),aK aZ 3 p20 c21 [1],aK fG 104 p15 c16 [(⟨1,1,⟨50,0,0,0⟩⟩:KHo)],aK fG 104 p13 c14 [(⟨1,1,⟨50,0,0,0⟩⟩:KHo)],pt b12 (.cells #[.int .i64 (1)] 3),pt b11 (.cells #[.bool true,.int .i64 (0),.int .i64 (0),.slice p9 (1) c10] 37),aK aZ 3 p9 c10 [1],pt b8 (.cells #[.int .u8 (3),.int .i64 (1),.int .i64 (2),.int .i64 (0),.int .i64 (30),.int .i64 (0),.int .i64 (0),.int .i64 (0),.int .u8 (4),.int .i64 (1),.int .i64 (0),.int .i64 (0),.int .i64 (50),.int .i64 (0),.int .i64 (0),.int .i64 (0)] 47),pt b6 (.cells #[.bool true,.int .i64 (0),.int .i64 (0),.slice p4 (0) c5] 37),aK aZ 3 p4 c5 [],pt b3 (.cells #[.int .u8 (1),.int .i64 (1),.int .i64 (0),.int .i64 (0),.int .i64 (100),.int .i64 (0),.int .i64 (0),.int .i64 (0)] 47)]) (by exact(aW [2,0,1,3,4,5,6,7,8,9,10,11,12,13,14,15,16,17] 18 rfl (by kernel_rfl) (by kernel_rfl)))
 obtain⟨β1,sb,kn,hw1,back⟩:=St.frame (L:=[_]) (M:=_::_::_::_::_::_::_::_::_::_::_::_::_::_::_::_::_::[]) hw
 refine(wU β1 w H2 b1 ((((0+1)+1)+1)+1) ((((0+494)+494)+494)+494) aX3 hw1 5 1 _ [(⟨3,1,2,0,(⟨30,0,0,0⟩:KAm)⟩:KAct),(⟨4,1,0,0,(⟨50,0,0,0⟩:KAm)⟩:KAct)] (kn _ (bH.of_res 13 rfl (Sl.mono _ _ _) fun a h=>jC (gP (F:=cJ) (xs:=[(⟨3,1,2,0,(⟨30,0,0,0⟩:KAm)⟩:KAct),(⟨4,1,0,0,(⟨50,0,0,0⟩:KAm)⟩:KAct)]) rfl (by first|decide|simp) a h))) (by decide) (by decide) (by omega) bDw).mono ?_
 rintro e w' ⟨p35,c36,rfl,hw'⟩
 refine⟨_,rfl,_,back _ _ hw',?_⟩
 refine lE oM (lE rG (lE pW (gB fun b37=>lu (mS 0 (#[.bool false,.int .i64 (0),.int .i64 (0),.slice p35 (0) c36])) (lE bN (eY (lE dS ?_))))))
 refine lE fL (aX rfl rfl rfl (cT (vs:=[pp H2 0,.int .i64 (5),.int .i64 (2),.slice (some ⟨b8,0,none⟩) 2 2]) aAg.ok rfl rfl) ?_)
 intro w hw
 replace hw:=hw.perm (L':=[cV H2 b1 aX3 (((((0+1)+1)+1)+1)+1) (((((0+494)+494)+494)+494)+494) (-1),pt b37 (.cells #[.bool false,.int .i64 (0),.int .i64 (0),.slice p35 (0) c36] 37),aK aZ 3 p35 c36 [],pt b34 (.cells #[.bool false,.int .i64 (1),.int .i64 (330),.slice p32 (0) c33] 37),aK aZ 3 p32 c33 [],pt b31 (.cells #[.int .u8 (6),.int .i64 (0),.int .i64 (2),.int .i64 (1),.int .i64 (0),.int .i64 (0),.int .i64 (0),.int .i64 (0),.int .u8 (3),.int .i64 (1),.int .i64 (2),.int .i64 (0),.int .i64 (100),.int .i64 (0),.int .i64 (0),.int .i64 (0)] 47),aK fG 104 p26 c27 [(⟨1,1,⟨50,0,0,0⟩⟩:KHo)],aK fG 104 p24 c25 [(⟨1,1,⟨50,0,0,0⟩⟩:KHo)],pt b23 (.cells #[.int .i64 (1)] 3),pt b22 (.cells #[.bool true,.int .i64 (0),.int .i64 (0),.slice p20 (1) c21] 37),aK aZ 3 p20 c21 [1],aK fG 104 p15 c16 [(⟨1,1,⟨50,0,0,0⟩⟩:KHo)],aK fG 104 p13 c14 [(⟨1,1,⟨50,0,0,0⟩⟩:KHo)],pt b12 (.cells #[.int .i64 (1)] 3),pt b11 (.cells #[.bool true,.int .i64 (0),.int .i64 (0),.slice p9 (1) c10] 37),aK aZ 3 p9 c10 [1],pt b8 (.cells #[.int .u8 (3),.int .i64 (1),.int .i64 (2),.int .i64 (0),.int .i64 (30),.int .i64 (0),.int .i64 (0),.int .i64 (0),.int .u8 (4),.int .i64 (1),.int .i64 (0),.int .i64 (0),.int .i64 (50),.int .i64 (0),.int .i64 (0),.int .i64 (0)] 47),pt b6 (.cells #[.bool true,.int .i64 (0),.int .i64 (0),.slice p4 (0) c5] 37),aK aZ 3 p4 c5 [],pt b3 (.cells #[.int .u8 (1),.int .i64 (1),.int .i64 (0),.int .i64 (0),.int .i64 (100),.int .i64 (0),.int .i64 (0),.int .i64 (0)] 47)]) (by exact(aW [2,0,1,3,4,5,6,7,8,9,10,11,12,13,14,15,16,17,18,19] 20 rfl (by kernel_rfl) (by kernel_rfl)))
 obtain⟨β1,sb,kn,hw1,back⟩:=St.frame (L:=[_]) (M:=_::_::_::_::_::_::_::_::_::_::_::_::_::_::_::_::_::_::_::[]) hw
 refine(wU β1 w H2 b1 (((((0+1)+1)+1)+1)+1) (((((0+494)+494)+494)+494)+494) aX3 hw1 5 2 _ [(⟨3,1,2,0,(⟨30,0,0,0⟩:KAm)⟩:KAct),(⟨4,1,0,0,(⟨50,0,0,0⟩:KAm)⟩:KAct)] (kn _ (bH.of_res 15 rfl (Sl.mono _ _ _) fun a h=>jC (gP (F:=cJ) (xs:=[(⟨3,1,2,0,(⟨30,0,0,0⟩:KAm)⟩:KAct),(⟨4,1,0,0,(⟨50,0,0,0⟩:KAm)⟩:KAct)]) rfl (by first|decide|simp) a h))) (by decide) (by decide) (by omega) bDx).mono ?_
 rintro e w' ⟨p38,c39,rfl,hw'⟩
 refine⟨_,rfl,_,back _ _ hw',?_⟩
 refine lE oM (lE rG (lE pW (gB fun b40=>lu (mS 0 (#[.bool false,.int .i64 (0),.int .i64 (0),.slice p38 (0) c39])) (lE bN (aN (eR ?_))))))
 refine aC (lE aU (lE lO (lE fM (gE aY (gE (olb 5) (lE dT (lE fM (gE aY (gE (cY 5) (gE lO (lE dT (lE fM (gE aY (gE (cY 5) ?_))))))))))))))
 refine gE lO (lE dT (lE fM (gE aU (gE lO (lE dT (lE fM (gE aU (gE lO (lE dT (lE fM (gE dS ?_)))))))))))
 refine eM rfl rfl rfl rfl rfl (cT (vs:=[pp H2 0]) aCn.ok rfl rfl) ?_
 intro w hw
 replace hw:=hw.perm (L':=[cV H2 b1 aX3 ((((((0+1)+1)+1)+1)+1)+1) ((((((0+494)+494)+494)+494)+494)+494) (-1),pt b40 (.cells #[.bool false,.int .i64 (0),.int .i64 (0),.slice p38 (0) c39] 37),aK aZ 3 p38 c39 [],pt b37 (.cells #[.bool false,.int .i64 (0),.int .i64 (0),.slice p35 (0) c36] 37),aK aZ 3 p35 c36 [],pt b34 (.cells #[.bool false,.int .i64 (1),.int .i64 (330),.slice p32 (0) c33] 37),aK aZ 3 p32 c33 [],pt b31 (.cells #[.int .u8 (6),.int .i64 (0),.int .i64 (2),.int .i64 (1),.int .i64 (0),.int .i64 (0),.int .i64 (0),.int .i64 (0),.int .u8 (3),.int .i64 (1),.int .i64 (2),.int .i64 (0),.int .i64 (100),.int .i64 (0),.int .i64 (0),.int .i64 (0)] 47),aK fG 104 p26 c27 [(⟨1,1,⟨50,0,0,0⟩⟩:KHo)],aK fG 104 p24 c25 [(⟨1,1,⟨50,0,0,0⟩⟩:KHo)],pt b23 (.cells #[.int .i64 (1)] 3),pt b22 (.cells #[.bool true,.int .i64 (0),.int .i64 (0),.slice p20 (1) c21] 37),aK aZ 3 p20 c21 [1],aK fG 104 p15 c16 [(⟨1,1,⟨50,0,0,0⟩⟩:KHo)],aK fG 104 p13 c14 [(⟨1,1,⟨50,0,0,0⟩⟩:KHo)],pt b12 (.cells #[.int .i64 (1)] 3),pt b11 (.cells #[.bool true,.int .i64 (0),.int .i64 (0),.slice p9 (1) c10] 37),aK aZ 3 p9 c10 [1],pt b8 (.cells #[.int .u8 (3),.int .i64 (1),.int .i64 (2),.int .i64 (0),.int .i64 (30),.int .i64 (0),.int .i64 (0),.int .i64 (0),.int .u8 (4),.int .i64 (1),.int .i64 (0),.int .i64 (0),.int .i64 (50),.int .i64 (0),.int .i64 (0),.int .i64 (0)] 47),pt b6 (.cells #[.bool true,.int .i64 (0),.int .i64 (0),.slice p4 (0) c5] 37),aK aZ 3 p4 c5 [],pt b3 (.cells #[.int .u8 (1),.int .i64 (1),.int .i64 (0),.int .i64 (0),.int .i64 (100),.int .i64 (0),.int .i64 (0),.int .i64 (0)] 47)]) (by exact(aW [2,0,1,3,4,5,6,7,8,9,10,11,12,13,14,15,16,17,18,19,20,21] 22 rfl (by kernel_rfl) (by kernel_rfl)))
 obtain⟨β1,sb,kn,hw1,back⟩:=St.frame (L:=[_]) (M:=_::_::_::_::_::_::_::_::_::_::_::_::_::_::_::_::_::_::_::_::_::[]) hw
 refine(pD β1 w H2 b1 ((((((0+1)+1)+1)+1)+1)+1) ((((((0+494)+494)+494)+494)+494)+494) (-1) aX3 hw1 _ bDz).mono ?_
 rintro e w' ⟨p41,c42,rfl,hw'⟩
 refine⟨_,rfl,_,back _ _ hw',?_⟩
 refine gE gY (gE lO (lE dT (aN (cN _ rfl (fun hc43=> ?_) (fun hc43=> ?_)))))
 ·exact absurd hc43 (by decide)
 refine eB (bD (lE dS (gI gH (fun w β1 sb kn hw1=>fR β1 w hw1 (5:UInt8) 0 0 1 0) ?_)))
 refine dA rfl rfl rfl (bZ wR aHh.ok (cells:= #[.int .u8 (5),.int .i64 (0),.int .i64 (0),.int .i64 (1),.int .i64 (0),.int .i64 (0),.int .i64 (0),.int .i64 (0)]) rfl rfl rfl (by kernel_rfl)) ?_
 rintro _ _ ⟨b44,rfl,rfl⟩
 refine aX rfl rfl rfl (cT (vs:=[pp H2 0,.int .i64 (5),.int .i64 (3),.slice (some ⟨b44,0,none⟩) 1 1]) aAg.ok rfl rfl) ?_
 intro w hw
 replace hw:=hw.perm (L':=[cV H2 b1 aX3 ((((((0+1)+1)+1)+1)+1)+1) ((((((0+494)+494)+494)+494)+494)+494) (-1),pt b44 (.cells #[.int .u8 (5),.int .i64 (0),.int .i64 (0),.int .i64 (1),.int .i64 (0),.int .i64 (0),.int .i64 (0),.int .i64 (0)] 47),aK fG 104 p41 c42 [(⟨1,1,⟨50,0,0,0⟩⟩:KHo)],pt b40 (.cells #[.bool false,.int .i64 (0),.int .i64 (0),.slice p38 (0) c39] 37),aK aZ 3 p38 c39 [],pt b37 (.cells #[.bool false,.int .i64 (0),.int .i64 (0),.slice p35 (0) c36] 37),aK aZ 3 p35 c36 [],pt b34 (.cells #[.bool false,.int .i64 (1),.int .i64 (330),.slice p32 (0) c33] 37),aK aZ 3 p32 c33 [],pt b31 (.cells #[.int .u8 (6),.int .i64 (0),.int .i64 (2),.int .i64 (1),.int .i64 (0),.int .i64 (0),.int .i64 (0),.int .i64 (0),.int .u8 (3),.int .i64 (1),.int .i64 (2),.int .i64 (0),.int .i64 (100),.int .i64 (0),.int .i64 (0),.int .i64 (0)] 47),aK fG 104 p26 c27 [(⟨1,1,⟨50,0,0,0⟩⟩:KHo)],aK fG 104 p24 c25 [(⟨1,1,⟨50,0,0,0⟩⟩:KHo)],pt b23 (.cells #[.int .i64 (1)] 3),pt b22 (.cells #[.bool true,.int .i64 (0),.int .i64 (0),.slice p20 (1) c21] 37),aK aZ 3 p20 c21 [1],aK fG 104 p15 c16 [(⟨1,1,⟨50,0,0,0⟩⟩:KHo)],aK fG 104 p13 c14 [(⟨1,1,⟨50,0,0,0⟩⟩:KHo)],pt b12 (.cells #[.int .i64 (1)] 3),pt b11 (.cells #[.bool true,.int .i64 (0),.int .i64 (0),.slice p9 (1) c10] 37),aK aZ 3 p9 c10 [1],pt b8 (.cells #[.int .u8 (3),.int .i64 (1),.int .i64 (2),.int .i64 (0),.int .i64 (30),.int .i64 (0),.int .i64 (0),.int .i64 (0),.int .u8 (4),.int .i64 (1),.int .i64 (0),.int .i64 (0),.int .i64 (50),.int .i64 (0),.int .i64 (0),.int .i64 (0)] 47),pt b6 (.cells #[.bool true,.int .i64 (0),.int .i64 (0),.slice p4 (0) c5] 37),aK aZ 3 p4 c5 [],pt b3 (.cells #[.int .u8 (1),.int .i64 (1),.int .i64 (0),.int .i64 (0),.int .i64 (100),.int .i64 (0),.int .i64 (0),.int .i64 (0)] 47)]) (by exact(aW [2,0,1,3,4,5,6,7,8,9,10,11,12,13,14,15,16,17,18,19,20,21,22,23] 24 rfl (by kernel_rfl) (by kernel_rfl)))
 obtain⟨β1,sb,kn,hw1,back⟩:=St.frame (L:=[_]) (M:=_::_::_::_::_::_::_::_::_::_::_::_::_::_::_::_::_::_::_::_::_::_::_::[]) hw
 refine(wU β1 w H2 b1 ((((((0+1)+1)+1)+1)+1)+1) ((((((0+494)+494)+494)+494)+494)+494) aX3 hw1 5 3 _ [(⟨5,0,0,1,zeroA⟩:KAct)] (kn _ (bH.of_res 0 rfl (Sl.mono _ _ _) fun a h=>jC (gP (F:=cJ) (xs:=[(⟨5,0,0,1,zeroA⟩:KAct)]) rfl (by first|decide|simp) a h))) (by decide) (by decide) (by omega) bDy).mono ?_
 rintro e w' ⟨p45,c46,rfl,hw'⟩
 refine⟨_,rfl,_,back _ _ hw',?_⟩
 refine lE oM (lE rG (lE pW (lu (mS 8 (#[.bool true,.int .i64 (0),.int .i64 (0),.slice p45 (0) c46])) (lE bN (eY (lE aU (lE fD (lE fM ?_))))))))
 refine gE aY (gE (olb 8) (lE eF (lE fM (gE dS (eM rfl rfl rfl rfl rfl (cT (vs:=[pp H2 0,.int .i64 (1)]) aCm.ok rfl rfl) ?_)))))
 intro w hw
 replace hw:=hw.perm (L':=[cV H2 b1 aX4 (((((((0+1)+1)+1)+1)+1)+1)+1) (((((((0+494)+494)+494)+494)+494)+494)+494) (-1),aK aZ 3 p45 c46 [],pt b44 (.cells #[.int .u8 (5),.int .i64 (0),.int .i64 (0),.int .i64 (1),.int .i64 (0),.int .i64 (0),.int .i64 (0),.int .i64 (0)] 47),aK fG 104 p41 c42 [(⟨1,1,⟨50,0,0,0⟩⟩:KHo)],pt b40 (.cells #[.bool false,.int .i64 (0),.int .i64 (0),.slice p38 (0) c39] 37),aK aZ 3 p38 c39 [],pt b37 (.cells #[.bool false,.int .i64 (0),.int .i64 (0),.slice p35 (0) c36] 37),aK aZ 3 p35 c36 [],pt b34 (.cells #[.bool true,.int .i64 (0),.int .i64 (0),.slice p45 (0) c46] 37),aK aZ 3 p32 c33 [],pt b31 (.cells #[.int .u8 (6),.int .i64 (0),.int .i64 (2),.int .i64 (1),.int .i64 (0),.int .i64 (0),.int .i64 (0),.int .i64 (0),.int .u8 (3),.int .i64 (1),.int .i64 (2),.int .i64 (0),.int .i64 (100),.int .i64 (0),.int .i64 (0),.int .i64 (0)] 47),aK fG 104 p26 c27 [(⟨1,1,⟨50,0,0,0⟩⟩:KHo)],aK fG 104 p24 c25 [(⟨1,1,⟨50,0,0,0⟩⟩:KHo)],pt b23 (.cells #[.int .i64 (1)] 3),pt b22 (.cells #[.bool true,.int .i64 (0),.int .i64 (0),.slice p20 (1) c21] 37),aK aZ 3 p20 c21 [1],aK fG 104 p15 c16 [(⟨1,1,⟨50,0,0,0⟩⟩:KHo)],aK fG 104 p13 c14 [(⟨1,1,⟨50,0,0,0⟩⟩:KHo)],pt b12 (.cells #[.int .i64 (1)] 3),pt b11 (.cells #[.bool true,.int .i64 (0),.int .i64 (0),.slice p9 (1) c10] 37),aK aZ 3 p9 c10 [1],pt b8 (.cells #[.int .u8 (3),.int .i64 (1),.int .i64 (2),.int .i64 (0),.int .i64 (30),.int .i64 (0),.int .i64 (0),.int .i64 (0),.int .u8 (4),.int .i64 (1),.int .i64 (0),.int .i64 (0),.int .i64 (50),.int .i64 (0),.int .i64 (0),.int .i64 (0)] 47),pt b6 (.cells #[.bool true,.int .i64 (0),.int .i64 (0),.slice p4 (0) c5] 37),aK aZ 3 p4 c5 [],pt b3 (.cells #[.int .u8 (1),.int .i64 (1),.int .i64 (0),.int .i64 (0),.int .i64 (100),.int .i64 (0),.int .i64 (0),.int .i64 (0)] 47)]) (by exact(aW [1,0,2,3,4,5,6,7,8,9,10,11,12,13,14,15,16,17,18,19,20,21,22,23,24] 25 rfl (by kernel_rfl) (by kernel_rfl)))
 obtain⟨β1,sb,kn,hw1,back⟩:=St.frame (L:=[_]) (M:=_::_::_::_::_::_::_::_::_::_::_::_::_::_::_::_::_::_::_::_::_::_::_::_::[]) hw
 refine(pJ β1 w H2 b1 (((((((0+1)+1)+1)+1)+1)+1)+1) (((((((0+494)+494)+494)+494)+494)+494)+494) (-1) aX4 hw1 1 _ bEd).mono ?_
 rintro e w' ⟨rfl,hw'⟩
 refine⟨_,rfl,_,back _ _ hw',?_⟩
 refine cU (v:= .agg #[.int .i64 (70),.int .i64 (0),.int .i64 (0),.int .i64 (0)]) rfl rfl rfl rfl rfl (eQ tt3.ok qY.ok (vs:=[(0,.int .i64 (70))]) (cells:= #[.int .i64 (70),.int .i64 (0),.int .i64 (0),.int .i64 (0)]) rfl rfl) ?_
 refine cU (v:= .bool (decide ((⟨70,0,0,0⟩:KAm)=(⟨70,0,0,0⟩:KAm)))) rfl rfl rfl rfl rfl (qF (xs:=oT (⟨70,0,0,0⟩:KAm)) (ys:=oT (⟨70,0,0,0⟩:KAm)) xM xN xO rfl rfl rfl rfl (kY (x:=(⟨70,0,0,0⟩:KAm)) (y:=(⟨70,0,0,0⟩:KAm)))) ?_
 refine lE eF (lE fM (eO (s:=172) rfl (fun h=> ?_) (fun h=> ?_)))
 rotate_left;exact absurd rfl h
 refine gE dS (eM rfl rfl rfl rfl rfl (cT (vs:=[pp H2 0]) aCn.ok rfl rfl) ?_)
 intro w hw
 replace hw:=hw.perm (L':=[cV H2 b1 aX4 (((((((0+1)+1)+1)+1)+1)+1)+1) (((((((0+494)+494)+494)+494)+494)+494)+494) (-1),aK aZ 3 p45 c46 [],pt b44 (.cells #[.int .u8 (5),.int .i64 (0),.int .i64 (0),.int .i64 (1),.int .i64 (0),.int .i64 (0),.int .i64 (0),.int .i64 (0)] 47),aK fG 104 p41 c42 [(⟨1,1,⟨50,0,0,0⟩⟩:KHo)],pt b40 (.cells #[.bool false,.int .i64 (0),.int .i64 (0),.slice p38 (0) c39] 37),aK aZ 3 p38 c39 [],pt b37 (.cells #[.bool false,.int .i64 (0),.int .i64 (0),.slice p35 (0) c36] 37),aK aZ 3 p35 c36 [],pt b34 (.cells #[.bool true,.int .i64 (0),.int .i64 (0),.slice p45 (0) c46] 37),aK aZ 3 p32 c33 [],pt b31 (.cells #[.int .u8 (6),.int .i64 (0),.int .i64 (2),.int .i64 (1),.int .i64 (0),.int .i64 (0),.int .i64 (0),.int .i64 (0),.int .u8 (3),.int .i64 (1),.int .i64 (2),.int .i64 (0),.int .i64 (100),.int .i64 (0),.int .i64 (0),.int .i64 (0)] 47),aK fG 104 p26 c27 [(⟨1,1,⟨50,0,0,0⟩⟩:KHo)],aK fG 104 p24 c25 [(⟨1,1,⟨50,0,0,0⟩⟩:KHo)],pt b23 (.cells #[.int .i64 (1)] 3),pt b22 (.cells #[.bool true,.int .i64 (0),.int .i64 (0),.slice p20 (1) c21] 37),aK aZ 3 p20 c21 [1],aK fG 104 p15 c16 [(⟨1,1,⟨50,0,0,0⟩⟩:KHo)],aK fG 104 p13 c14 [(⟨1,1,⟨50,0,0,0⟩⟩:KHo)],pt b12 (.cells #[.int .i64 (1)] 3),pt b11 (.cells #[.bool true,.int .i64 (0),.int .i64 (0),.slice p9 (1) c10] 37),aK aZ 3 p9 c10 [1],pt b8 (.cells #[.int .u8 (3),.int .i64 (1),.int .i64 (2),.int .i64 (0),.int .i64 (30),.int .i64 (0),.int .i64 (0),.int .i64 (0),.int .u8 (4),.int .i64 (1),.int .i64 (0),.int .i64 (0),.int .i64 (50),.int .i64 (0),.int .i64 (0),.int .i64 (0)] 47),pt b6 (.cells #[.bool true,.int .i64 (0),.int .i64 (0),.slice p4 (0) c5] 37),aK aZ 3 p4 c5 [],pt b3 (.cells #[.int .u8 (1),.int .i64 (1),.int .i64 (0),.int .i64 (0),.int .i64 (100),.int .i64 (0),.int .i64 (0),.int .i64 (0)] 47)]) (by exact(aW [0,1,2,3,4,5,6,7,8,9,10,11,12,13,14,15,16,17,18,19,20,21,22,23,24] 25 rfl (by kernel_rfl) (by kernel_rfl)))
 obtain⟨β1,sb,kn,hw1,back⟩:=St.frame (L:=[_]) (M:=_::_::_::_::_::_::_::_::_::_::_::_::_::_::_::_::_::_::_::_::_::_::_::_::[]) hw
 refine(pD β1 w H2 b1 (((((((0+1)+1)+1)+1)+1)+1)+1) (((((((0+494)+494)+494)+494)+494)+494)+494) (-1) aX4 hw1 _ bEa).mono ?_
 rintro e w' ⟨p47,c48,rfl,hw'⟩
 refine⟨_,rfl,_,back _ _ hw',?_⟩
 refine gE gY (gE fD (lE eF (lE dP (aN (aV (dJ Tryz.results17 rfl ?_))))))
 intro w hw
 exact⟨rfl,aG [false,false,false,false,false,false,false,false,false,false,false,false,false,false,false,false,false,false,false,false,false,false,false,false,false,false] rfl hw⟩
end Go.Proofs
