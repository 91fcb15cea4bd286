/-
 What an act does to the reference's house: walked. Printed by a program of my own.
-/
import Derived.Test.YtjejfkajcbdgjaaGreatTd27
set_option linter.all false
set_option maxHeartbeats 4000000
namespace Go.Proofs
open Go Go.Sl Go.Td Go.Jn
theorem oO{a:KAm}(h:a.within=true):a.bd 4611686018427387903:=nR (mR h) (by decide)
theorem pR{b:Bool}(h:(!b)=false):b=true:=by cases b<;>simp_all
theorem aHn{b:Bool}(h:(!b)=true):¬b=true:=by cases b<;>simp_all
theorem aBq{rh out:KRh}{x:KAct}{to:Int}{am:KAm}(m:DoMid rh x to am out)(ht:0<to)(hb:((!((dV out.ps to).plus am 1).within)||decide ((256:Int)<(((cS to ((dV out.ps to).plus am 1) false out.ps).length:Nat):Int)))=true):dY rh x=(rh,4):=
 aRz m ht fun q=>by rw[q]at hb;have:(256:Int)<(((cS to ((dV out.ps to).plus am 1) false out.ps).length:Nat):Int):=of_decide_eq_true hb;omega
theorem aKw{rh out:KRh}{x:KAct}{to:Int}{am:KAm}(m:DoMid rh x to am out)(ht:0<to)(hb:((!((dV out.ps to).plus am 1).within)||decide ((256:Int)<(((cS to ((dV out.ps to).plus am 1) false out.ps).length:Nat):Int)))=false):dY rh x=({out with ps:=cS to ((dV out.ps to).plus am 1) false out.ps},0):=by
 rw[Bool.or_eq_false_iff]at hb
 exact bCi m ht (pR hb.1) (fun q=>by have:=of_decide_eq_false hb.2;omega)
theorem aIi{x:KAct}(hx:x.formed=true):(x.kind=2∨x.kind=3∨x.kind=4)∨(x.kind=1∨x.kind=5∨x.kind=6)∨x.kind=7:=by
 have e:∀c:UInt8,(x.kind.toNat:Int)=(c.toNat:Int)→x.kind=c:=fun c h=>UInt8.toNat_inj.1 (by omega)
 rcases lT hx with h|h|h|h|h|h|h
 ·exact .inr (.inl (.inl (e 1 h)))
 ·exact .inl (.inl (e 2 h))
 ·exact .inl (.inr (.inl (e 3 h)))
 ·exact .inl (.inr (.inr (e 4 h)))
 ·exact .inr (.inl (.inr (.inl (e 5 h))))
 ·exact .inr (.inl (.inr (.inr (e 6 h))))
 exact .inr (.inr (e 7 h))
theorem wP(β:Base)(w:World)(p0:Option Addr)(c0:Nat)(xs0:List KPu)(p:Option Addr)(c:Nat)(ps:List KPu)(hw:St β [gZ kF 128 p0 c0 xs0 p c ps] w)(h0:Sl kF.R β.heap (sB p0 xs0 c0) xs0)(hps:ps.length≤100000)(q1 q2:Option Addr)(m1 d1 m2 d2:Nat)(la:Int)(su:KAm)(n:Int)(a:KAm):
  Calls Tryz.prog 124 #[.agg #[sB p ps c,.slice q1 m1 d1,Ix la,Ix su.a0,Ix su.a1,Ix su.a2,Ix su.a3,.slice q2 m2 d2],Ix n,.agg (eK a)] w fun r w'=>∃p' c',r= .returned (.agg #[sB p' (cS n a false ps) c',.slice q1 m1 d1,Ix la,Ix su.a0,Ix su.a1,Ix su.a2,Ix su.a3,.slice q2 m2 d2])∧St β [gZ kF 128 p0 c0 xs0 p' c' (cS n a false ps)] w':=by
 obtain⟨β1,sb,kn,hw1,back⟩:=St.frame_all hw
 refine(aTt β1 w hw1 _ q1 q2 m1 d1 m2 d2 ps (kn _ (yY 0 rfl h0)) hps la su n a).mono ?_
 rintro r w' ⟨p',c',h1,h2⟩
 refine⟨p',c',h1,?_⟩
 exact aG [true,false] rfl ((back _ _ h2).conseq_at (r':=gZ kF 128 p0 c0 xs0 p' c' (cS n a false ps)) 0 rfl yE)
instance ts0:ZerC Tryz.prog 62 (.agg #[.slice none 0 0,.slice none 0 0,.int .i64 (0),.int .i64 (0),.int .i64 (0),.int .i64 (0),.int .i64 (0),.slice none 0 0]):={}
instance ts1:TyC Tryz.prog 62 true 8:={}
instance ts2:FldC Tryz.prog 120 0 0 1 false:={}
instance ts3:TyC Tryz.prog 5 false 1:={}
instance ts4:FldC Tryz.prog 120 1 1 1 false:={}
instance ts5:TyC Tryz.prog 3 false 1:={}
instance ts6:CfC Tryz.prog 123:={}
instance ts7:FldC Tryz.prog 120 4 4 4 true:={}
instance ts8:TyC Tryz.prog 43 true 4:={}
instance ts9:CfC Tryz.prog 122:={}
instance ts10:ZerC Tryz.prog 43 (.agg #[.int .i64 (0),.int .i64 (0),.int .i64 (0),.int .i64 (0)]):={}
instance ts11:CfC Tryz.prog 98:={}
instance bCy:CfC Tryz.prog 124:={}
instance ts13:FldC Tryz.prog 62 3 3 4 true:={}
instance ts14:FldC Tryz.prog 120 2 2 1 false:={}
instance ts15:FldC Tryz.prog 62 1 1 1 false:={}
instance ts16:TyC Tryz.prog 59 false 1:={}
instance ts17:UndC Tryz.prog 59 130:={}
instance ts18:FldC Tryz.prog 62 2 2 1 false:={}
theorem sZ:lY Tryz.prog 59 130 6=true:=by kernel_rfl
theorem aYq:vR Tryz.prog 130 6 48=true:=by kernel_rfl
theorem bIx:xC Tryz.prog 130 [(0,1),(1,1),(2,4)]=true:=by kernel_rfl
instance aYr:ZerC Tryz.prog 130 (.agg #[.int .i64 (0),.int .i64 (0),.int .i64 (0),.int .i64 (0),.int .i64 (0),.int .i64 (0)]):={}
instance ts23:FldC Tryz.prog 62 0 0 1 false:={}
instance ts24:TyC Tryz.prog 58 false 1:={}
instance ts25:UndC Tryz.prog 58 128:={}
instance ts26:FldC Tryz.prog 130 0 0 1 false:={}
instance ts27:FldC Tryz.prog 120 3 3 1 false:={}
instance bFr:TyC Tryz.prog 130 true 6:={}
instance ts29:FldC Tryz.prog 130 1 1 1 false:={}
instance ts30:FldC Tryz.prog 130 2 2 4 true:={}
theorem bCm(β:Base)(w:World)(hw:St β [] w)(rh:KRh)(hb:RbOk rh)(hl62:rh.last≤4611686018427387904)(p1 p2 p3:Option Addr)(c1 c2 m3 c3:Nat)(hsp1:Sl kF.R β.heap (sB p1 rh.ps c1) rh.ps)(hsp2:Sl fG.R β.heap (sB p2 rh.hs c2) rh.hs)(x:KAct)(hx:x.formed=true):Calls Tryz.prog 99 #[.agg #[sB p1 rh.ps c1,sB p2 rh.hs c2,Ix rh.last,Ix rh.su.a0,Ix rh.su.a1,Ix rh.su.a2,Ix rh.su.a3,.slice p3 m3 c3],.agg #[Bx (x.kind),Ix (x.owner),Ix (x.other),Ix (x.hold),Ix (x.a.a0),Ix (x.a.a1),Ix (x.a.a2),Ix (x.a.a3)]] w fun r w'=>∃p1' c1' p2' c2',r= .returned (.tuple #[.agg #[sB p1' (dY rh x).1.ps c1',sB p2' (dY rh x).1.hs c2',Ix (dY rh x).1.last,Ix (dY rh x).1.su.a0,Ix (dY rh x).1.su.a1,Ix (dY rh x).1.su.a2,Ix (dY rh x).1.su.a3,.slice p3 m3 c3],Ix (dY rh x).2])∧St β [gZ kF 128 p1 c1 rh.ps p1' c1' (dY rh x).1.ps,gZ fG 130 p2 c2 rh.hs p2' c2' (dY rh x).1.hs] w':=by
 obtain⟨-,hsp1l,hsp1m,hsp1e⟩:=gA hsp1
 obtain⟨-,hsp2l,hsp2m,hsp2e⟩:=gA hsp2
 have hpl:=hb.pn
 have hhl:=hb.hn
 have hll0:=hb.l
 refine enter (n:=177) Tryz.func99 rfl Tryz.ntmps99 rfl ?_ hw
 refine bD (mL fun b1=> ?_)
 refine mL fun b2=> ?_
 refine gB fun b3=>lE bN (eY (lE (dK 2) (gB fun b4=> ?_)))
 refine lu (mS 0 (#[sB p1 rh.ps (c1),sB p2 rh.hs (c2),Ix (rh.last),Ix (rh.su.a0),Ix (rh.su.a1),Ix (rh.su.a2),Ix (rh.su.a3),.slice p3 (m3) c3])) ?_
 refine aN (eR (iK (r:=gZ fG 130 p2 c2 rh.hs p2 c2 rh.hs) fC (iK (r:=gZ kF 128 p1 c1 rh.ps p1 c1 rh.ps) fC ?_)))
 rcases aIi hx with hk|hk|hk
 ·refine aC (lE aY (lE (cY 4) (lE fD ?_)))
  refine bAa (decide (((x.kind).toNat:Int)=(2:Int))) (decide (((x.kind).toNat:Int)=(3:Int))) rfl (fun hb5 hk5=> ?_) (fun z6 z7 z8=> ?_)
  ·have hb5p:=of_decide_eq_false hb5
   refine gE aY (gE (cY 4) (gE fD (lE dT ?_)))
   exact hk5 _ _ _
  refine bAa ((decide (((x.kind).toNat:Int)=(2:Int)))||(decide (((x.kind).toNat:Int)=(3:Int)))) (decide (((x.kind).toNat:Int)=(4:Int))) rfl (fun hb9 hk9=> ?_) (fun z10 z11 z12=> ?_)
  ·refine gE aY (gE (cY 4) (gE fD (lE dT ?_)))
   exact hk9 _ _ _
  refine lE fM ?_
  refine zB (s:=27) (b:=(((decide (((x.kind).toNat:Int)=(2:Int)))||(decide (((x.kind).toNat:Int)=(3:Int))))||(decide (((x.kind).toNat:Int)=(4:Int))))) rfl (fun h=> ?_) (fun h=> ?_)
  rotate_left;(rw[(show((((decide (((x.kind).toNat:Int)=(2:Int)))||(decide (((x.kind).toNat:Int)=(3:Int))))||(decide (((x.kind).toNat:Int)=(4:Int)))))=true from by rcases hk with hk|hk|hk<;>rw[hk]<;>rfl)]at h;cases h)
  refine iP (iP (iP (lE eF (aN (dN rfl (aL ?_))))))
  refine jS [sv 32 (.agg #[sB p1 rh.ps (c1),sB p2 rh.hs (c2),Ix (rh.last),Ix (rh.su.a0),Ix (rh.su.a1),Ix (rh.su.a2),Ix (rh.su.a3),.slice p3 (m3) c3]) [] [] [0],sv 33 (pp b2 1) [] [] [1],sv 34 (Ix (x.owner)) [1] [1] [],sv 35 (.agg (eK (dV rh.ps x.owner))) [0,1,2] [0,2] [],sv 36 (pp b2 4) [] [] [1],sv 37 (.agg (eK x.a)) [4] [4] [],sv 38 (.agg (eK ((dV rh.ps x.owner).plus x.a (-1)))) (List.range 6) [3,5] [],⟨[],[],[],[7],fun f=>f 7= .pointer (some ⟨(bY (f 7)),0,none⟩)⟩,⟨(List.range 8),[7,6],[],[],fun _=>True⟩] [u1 [3],u0,u0,u0,u1 [2,5],u1 [0]] [⟨(some 7),(some 8),[8],[7],fun f=>pt (bY (f 7)) (.cells #[.int .i64 (0),.int .i64 (0),.int .i64 (0),.int .i64 (0)] 43)⟩,⟨(some 8),none,[],[7],fun f=>pt (bY (f 7)) (.cells (eK ((dV rh.ps x.owner).plus x.a (-1))) 43)⟩] [(2,pp b1 0),(3,pp b2 0),(4,pp b3 0),(6,pp b4 0)] [0,1,2,3] ⟨rfl,rfl,rfl,rfl,trivial⟩ ⟨?_,?_,?_,?_,?_,?_,?_,?_,?_,trivial⟩ ?_
  ·rintro f M-⟨i0,-⟩
   exact aT (dK 0)
  ·rintro f M-⟨i0,-⟩
   exact aT aY
  ·rintro f M ⟨k0,-⟩-
   exact aT (cY 0)
  ·rintro f M ⟨k0,k1,-⟩-
   refine dL (aA (d:=34) (aA (d:=32) rfl k0) k1) ?_
   refine gI gH (fun w β1 sb kn hw1=>sM β1 w hw1 _ _ _ _ _ _ _ _ (kn _ (yY 0 rfl hsp1)) (by omega) _ rh.su x.owner) (aH ?_)
   exact aO (aA (d:=34) (aA (d:=32) rfl k0) k1) rfl (aB 0 rfl)
  ·rintro f M-⟨i0,-⟩
   exact aT aY
  ·rintro f M ⟨k0,-⟩-
   exact aT (dK 0)
  ·rintro f M ⟨k0,k1,-⟩-
   refine dL (aA (d:=37) (aA (d:=35) rfl k0) k1) ?_
   refine gI gH (fun w β1 sb kn hw1=>pN β1 w hw1 (dV rh.ps x.owner) x.a (-1) (by decide) (oO (jX hb.p _)) (oO (cX hx))) ?_
   refine aH ?_
   exact aO (aA (d:=37) (aA (d:=35) rfl k0) k1) rfl (List.Perm.refl _)
  ·rintro f M- -
   refine dL rfl ?_
   refine gB fun b14=>aH ?_
   exact aO rfl rfl (aB 0 rfl)
  ·rintro f M ⟨k0,k1,-⟩-
   have hs7:f 7= .pointer (some ⟨(bY (f 7)),0,none⟩):=k0
   refine dL (aA (d:=38) (aA rfl hs7) k1) ?_
   refine lu (mS 0 (eK ((dV rh.ps x.owner).plus x.a (-1)))) (aH ?_)
   exact bC (aA (d:=38) (aA rfl hs7) k1) trivial (aB 0 rfl)
  rintro fa15 ⟨-,-,-,-,-,-,-,k7,-,-⟩ ⟨j0,j1,j2,j3,-⟩
  refine jD ?_
  refine aD (d:=2) j0 (aD (d:=3) j1 (aD (d:=4) j2 (aD (d:=6) j3 (aD (d:=7) k7 (qV (bD (lE (dK 6) ?_)))))))
  refine gI gH (fun w β1 sb kn hw1=>lI β1 w hw1 ((dV rh.ps x.owner).plus x.a (-1))) (lE mB (aN ?_))
  refine fH (!(((dV rh.ps x.owner).plus x.a (-1)).within)) rfl (fun hc16=> ?_) (fun hc16=> ?_)
  ·refine bD (lE (dK 5) ?_)
   refine lu (mS 3 (#[sB p1 rh.ps (c1),sB p2 rh.hs (c2),Ix (rh.last),Ix (rh.su.a0),Ix (rh.su.a1),Ix (rh.su.a2),Ix (rh.su.a3),.slice p3 (m3) c3])) ?_
   refine lE bN (aN (aV (aI (aI ?_))))
   refine gK (m:=[.agg #[sB p1 rh.ps (c1),sB p2 rh.hs (c2),Ix (rh.last),Ix (rh.su.a0),Ix (rh.su.a1),Ix (rh.su.a2),Ix (rh.su.a3),.slice p3 (m3) c3],.int .i64 (330)]) Tryz.results99 ⟨bS ts1.ok rfl (cD 3 rfl rfl) rfl,eP (v:= .int .i64 (330)) rfl,trivial⟩ rfl ?_
   intro w hw
   have he:dY rh x=(rh,330):=aJx hb hx (by rcases hk with hk|hk|hk<;>simp[hk]) (aHn hc16)
   rw[he]
   have hw:=(hw.emp (r:=gZ fG 130 p2 c2 rh.hs p2 c2 rh.hs) fC).emp (r:=gZ kF 128 p1 c1 rh.ps p1 c1 rh.ps) fC
   exact⟨p1,c1,p2,c2,rfl,aG [true,true,false,false,false,false,false,false,false] rfl hw⟩
  refine eB (bD (lE aY (lE (cY 4) ?_)))
  refine lv (v:= .bool true) (uM (by rcases hk with hk|hk|hk<;>rw[hk]<;>decide) (aBi (a:=((x.kind).toNat:Int)) (b:=(7:Int)) rfl rfl)) ?_
  refine aN (dN rfl (aC (lE (dK 2) (lE aY (lE (cY 4) (lE (dK 6) ?_))))))
  refine aX rfl rfl rfl (cT (vs:=[.agg #[sB p1 rh.ps (c1),sB p2 rh.hs (c2),Ix (rh.last),Ix (rh.su.a0),Ix (rh.su.a1),Ix (rh.su.a2),Ix (rh.su.a3),.slice p3 (m3) c3],Ix (x.owner),.agg (eK ((dV rh.ps x.owner).plus x.a (-1)))]) bCy.ok rfl rfl) ?_
  intro w hw
  obtain⟨β1,sb,kn,hw1,back⟩:=St.frame (L:=[_]) (M:=_::_::_::_::_::_::[]) hw
  refine(wP β1 w p1 c1 rh.ps p1 c1 rh.ps hw1 (Sl.mono _ _ _ _ _ sb hsp1) (by omega) _ _ _ _ _ _ _ rh.su x.owner ((dV rh.ps x.owner).plus x.a (-1))).mono ?_
  rintro e w' ⟨p17,c18,rfl,hw'⟩
  refine⟨_,rfl,_,back _ _ hw',?_⟩
  refine lu (mS 2 (#[sB p17 (cS x.owner ((dV rh.ps x.owner).plus x.a (-1)) false rh.ps) c18,sB p2 rh.hs (c2),Ix (rh.last),Ix (rh.su.a0),Ix (rh.su.a1),Ix (rh.su.a2),Ix (rh.su.a3),.slice p3 (m3) c3])) ?_
  refine aN (aL ?_)
  refine jS [sv 51 (pp b2 4) [] [] [0],sv 52 (.agg (eK x.a)) [0] [0] [],⟨[],[],[],[9],fun f=>f 9= .pointer (some ⟨(bY (f 9)),0,none⟩)⟩,sv 8 (.int .i64 (0)) [2] [] [],⟨[0,1,2,3],[2,1],[],[],fun _=>True⟩] [u0,u0,u0,u0,u1 [1]] [⟨(some 2),(some 4),[4],[9],fun f=>pt (bY (f 9)) (.cells #[.int .i64 (0),.int .i64 (0),.int .i64 (0),.int .i64 (0)] 43)⟩,⟨(some 4),none,[],[9],fun f=>pt (bY (f 9)) (.cells (eK x.a) 43)⟩] [(3,pp b2 0),(2,pp b1 0),(4,pp b3 0),(6,pp b4 0)] [1,0,2,3] ⟨rfl,rfl,rfl,rfl,trivial⟩ ⟨?_,?_,?_,?_,?_,trivial⟩ ?_
  ·rintro f M-⟨i0,-⟩
   exact aT aY
  ·rintro f M ⟨k0,-⟩-
   exact aT (dK 0)
  ·rintro f M- -
   refine dL rfl ?_
   refine gB fun b20=>aH ?_
   exact aO rfl rfl (aB 0 rfl)
  ·rintro f M- -
   exact aT bN
  ·rintro f M ⟨k0,k1,-⟩-
   have hs9:f 9= .pointer (some ⟨(bY (f 9)),0,none⟩):=k0
   refine dL (aA (d:=52) (aA rfl hs9) k1) ?_
   refine lu (mS 0 (eK x.a)) (aH ?_)
   exact bC (aA (d:=52) (aA rfl hs9) k1) trivial (aB 0 rfl)
  rintro fa21 ⟨-,-,k2,k3,-,-⟩ ⟨j0,j1,j2,j3,-⟩
  refine jD ?_
  refine aD (d:=2) j0 (aD (d:=3) j1 (aD (d:=4) j2 (aD (d:=6) j3 (aD (d:=8) k3 (aD (d:=9) k2 (bA ?_))))))
  refine gL (fun(f:Fm) (L:List bU)=>∃(to:Int) (am:KAm) (out:KRh) (qp:Option Addr) (pc:Nat) (hp:Option Addr) (hc:Nat),(f 2=pp b1 0∧f 4=pp b3 0∧f 6=pp b4 0∧f 8=Ix (to)∧f 9= .pointer (some ⟨(bY (fa21 9)),0,none⟩))∧L=[gZ kF 128 p1 c1 rh.ps qp pc out.ps,gZ fG 130 p2 c2 rh.hs hp hc out.hs,pt b4 (.cells #[sB qp out.ps pc,sB hp out.hs hc,Ix (out.last),Ix (out.su.a0),Ix (out.su.a1),Ix (out.su.a2),Ix (out.su.a3),.slice p3 (m3) c3] 62),pt b3 (.cells #[.slice none 0 0,.slice none 0 0,.int .i64 (0),.int .i64 (0),.int .i64 (0),.int .i64 (0),.int .i64 (0),.slice none 0 0] 62),pt b2 (.cells #[Bx (x.kind),Ix (x.owner),Ix (x.other),Ix (x.hold),Ix (x.a.a0),Ix (x.a.a1),Ix (x.a.a2),Ix (x.a.a3)] 120),pt b1 (.cells #[sB p1 rh.ps (c1),sB p2 rh.hs (c2),Ix (rh.last),Ix (rh.su.a0),Ix (rh.su.a1),Ix (rh.su.a2),Ix (rh.su.a3),.slice p3 (m3) c3] 62),pt (bY (fa21 9)) (.cells (eK am) 43)]∧(DoMid rh x to am out)) ?_ ?_
  ·refine bD (lE aY (lE (cY 4) (aN (aJ (aL ?_)))))
   rcases hk with hk|hk|hk
   ·refine aC (lv (v:= .bool false) (fZ (by rw[hk]<;>decide) (dX (a:=((x.kind).toNat:Int)) (b:=(1:Int)) rfl rfl)) (lE dP (aN ?_)))
    refine cR rfl (bD (lv (v:= .bool true) (uM (by rw[hk]<;>decide) (dX (a:=((x.kind).toNat:Int)) (b:=(2:Int)) rfl rfl)) (lE dP ?_)))
    refine aN (dN rfl (aC (lE aY (lE (dK 2) (lE aY (lE (dK 4) ?_))))))
    refine gI gH (fun w β1 sb kn hw1=>pN β1 w hw1 rh.su x.a (-1) (by decide) (nR hb.u (by decide)) (oO (cX hx))) (lE aY ?_)
    refine lu (mS 2 (#[sB p17 (cS x.owner ((dV rh.ps x.owner).plus x.a (-1)) false rh.ps) c18,sB p2 rh.hs (c2),Ix (rh.last),Ix ((rh.su.plus x.a (-1)).a0),Ix ((rh.su.plus x.a (-1)).a1),Ix ((rh.su.plus x.a (-1)).a2),Ix ((rh.su.plus x.a (-1)).a3),.slice p3 (m3) c3])) ?_
    refine aH (aP (dD [true,true,true,true,true,true,false,true] rfl ?_))
    exact bG ⟨0,x.a,{rh with ps:=cS x.owner (gU rh x) false rh.ps,su:=rh.su.plus x.a (-1)},p17,c18,p2,c2,⟨rfl,rfl,rfl,rfl,rfl⟩,rfl,bIb hb hx hk (pR hc16)⟩
   ·refine aC (lv (v:= .bool false) (fZ (by rw[hk]<;>decide) (dX (a:=((x.kind).toNat:Int)) (b:=(1:Int)) rfl rfl)) (lE dP (aN ?_)))
    refine cR rfl (bD (lv (v:= .bool false) (fZ (by rw[hk]<;>decide) (dX (a:=((x.kind).toNat:Int)) (b:=(2:Int)) rfl rfl)) (lE dP ?_)))
    refine aN (cR rfl (bD (lv (v:= .bool true) (uM (by rw[hk]<;>decide) (dX (a:=((x.kind).toNat:Int)) (b:=(3:Int)) rfl rfl)) ?_)))
    refine lE dP (aN (dN rfl (aC (lE aY (lE (cY 4) (lE bN (aH (aP (dD [true,true,true,true,true,true,false,true] rfl ?_)))))))))
    exact bG ⟨x.other,x.a,{rh with ps:=cS x.owner (gU rh x) false rh.ps},p17,c18,p2,c2,⟨rfl,rfl,rfl,rfl,rfl⟩,rfl,bIc hb hx hk (pR hc16)⟩
   refine aC (lv (v:= .bool false) (fZ (by rw[hk]<;>decide) (dX (a:=((x.kind).toNat:Int)) (b:=(1:Int)) rfl rfl)) (lE dP (aN ?_)))
   refine cR rfl (bD (lv (v:= .bool false) (fZ (by rw[hk]<;>decide) (dX (a:=((x.kind).toNat:Int)) (b:=(2:Int)) rfl rfl)) (lE dP ?_)))
   refine aN (cR rfl (bD (lv (v:= .bool false) (fZ (by rw[hk]<;>decide) (dX (a:=((x.kind).toNat:Int)) (b:=(3:Int)) rfl rfl)) ?_)))
   refine lE dP (aN (cR rfl (bD ?_)))
   refine lv (v:= .bool true) (uM (by rw[hk]<;>decide) (dX (a:=((x.kind).toNat:Int)) (b:=(4:Int)) rfl rfl)) (lE dP (aN (dN rfl ?_)))
   refine eR (aC (lE aY (lE (fQ 5) (lE gY (lE oge (aN (cN _ rfl (fun hc22=> ?_) (fun hc22=> ?_))))))))
   ·refine bD (lE (dK 5) ?_)
    refine lu (mS 3 (#[sB p1 rh.ps (c1),sB p2 rh.hs (c2),Ix (rh.last),Ix (rh.su.a0),Ix (rh.su.a1),Ix (rh.su.a2),Ix (rh.su.a3),.slice p3 (m3) c3])) ?_
    refine lE bN (aN (aV (aI (aR (aI ?_)))))
    refine gK (m:=[.agg #[sB p1 rh.ps (c1),sB p2 rh.hs (c2),Ix (rh.last),Ix (rh.su.a0),Ix (rh.su.a1),Ix (rh.su.a2),Ix (rh.su.a3),.slice p3 (m3) c3],.int .i64 (5)]) Tryz.results99 ⟨bS ts1.ok rfl (cD 3 rfl rfl) rfl,eP (v:= .int .i64 (5)) rfl,trivial⟩ rfl ?_
    intro w hw
    have he:dY rh x=(rh,5):=bEh hb hx hk (pR hc16) (by have:=hc22;omega)
    rw[he]
    have hw:=(hw.emp (r:=gZ fG 130 p2 c2 rh.hs p2 c2 rh.hs) fC).emp (r:=gZ kF 128 p1 c1 rh.ps p1 c1 rh.ps) fC
    exact⟨p1,c1,p2,c2,rfl,aG [true,true,false,false,false,false,false,false,false,false] rfl hw⟩
   refine eB (bD (lE aY (lE (cY 2) (lE rF (lE aY ?_)))))
   refine lu (mS 2 (#[sB p17 (cS x.owner ((dV rh.ps x.owner).plus x.a (-1)) false rh.ps) c18,sB p2 rh.hs (c2),Ix ((rh.last)+(1:Int)),Ix (rh.su.a0),Ix (rh.su.a1),Ix (rh.su.a2),Ix (rh.su.a3),.slice p3 (m3) c3])) ?_
   refine aN ?_
   refine jS [⟨[],[],[],[88],fun f=>f 88= .slice (some ⟨(bY (f 88)),0,none⟩) (0) 0⟩,sv 89 (pp b4 1) [] [] [0],sv 90 (sB p2 rh.hs (c2)) [1] [1] [],⟨[0,1,2],[0,2],[],[91],fun f=>f 91=sB (dC (f 91)) rh.hs (dE (f 91))⟩,sv 92 (pp b4 2) [] [] [0],sv 93 (Ix ((rh.last)+(1:Int))) [4] [4] [],sv 94 (pp b2 1) [] [] [1],sv 95 (Ix (x.owner)) [6] [6] [],sv 96 (pp b2 4) [] [] [1],sv 97 (.agg (eK x.a)) [8] [8] [],sv 98 (.agg #[Ix ((rh.last)+(1:Int)),Ix (x.owner),Ix (x.a.a0),Ix (x.a.a1),Ix (x.a.a2),Ix (x.a.a3)]) [4,5,6,7,8,9] [5,7,9] [],⟨[4,5,6,7,8,9,10],[10],[],[99],fun f=>f 99= .slice (some ⟨(bY (f 99)),0,none⟩) 1 1⟩,⟨(List.range 12),[3,11],[],[100],fun f=>f 100=sB (dC (f 100)) (rh.hs++[(⟨(rh.last)+(1:Int),x.owner,x.a⟩:KHo)]) (dE (f 100))⟩,sv 101 (pp b4 1) (List.range 13) [] [0],⟨(List.range 14),[13,12],[],[],fun _=>True⟩] [u0,u0,(some 14,[2,5,14]),u0,u1 [7,9]] [⟨(some 0),(some 3),[3],[88],fun f=>aK fG 130 (some ⟨(bY (f 88)),0,none⟩) 0 []⟩,⟨(some 3),(some 12),[12],[91],fun f=>aK fG 130 (dC (f 91)) (dE (f 91)) rh.hs⟩,⟨(some 11),none,[12],[99],fun f=>pt (bY (f 99)) (.cells #[Ix ((rh.last)+(1:Int)),Ix (x.owner),Ix (x.a.a0),Ix (x.a.a1),Ix (x.a.a2),Ix (x.a.a3)] 130)⟩,⟨(some 12),none,[],[100],fun f=>aK fG 130 (dC (f 100)) (dE (f 100)) (rh.hs++[(⟨(rh.last)+(1:Int),x.owner,x.a⟩:KHo)])⟩,⟨(some 14),none,[],[100],fun f=>pt b4 (.cells #[sB p17 (cS x.owner ((dV rh.ps x.owner).plus x.a (-1)) false rh.ps) c18,sB (dC (f 100)) (rh.hs++[(⟨(rh.last)+(1:Int),x.owner,x.a⟩:KHo)]) (dE (f 100)),Ix ((rh.last)+(1:Int)),Ix (rh.su.a0),Ix (rh.su.a1),Ix (rh.su.a2),Ix (rh.su.a3),.slice p3 (m3) c3] 62)⟩] [(6,pp b4 0),(3,pp b2 0),(2,pp b1 0),(4,pp b3 0),(8,.int .i64 (0)),(9,.pointer (some ⟨(bY (fa21 9)),0,none⟩))] [2,3,0,4,5] ⟨rfl,rfl,rfl,rfl,rfl,rfl,trivial⟩ ⟨?_,?_,?_,?_,?_,?_,?_,?_,?_,?_,?_,?_,?_,?_,?_,trivial⟩ ?_
   ·rintro f M- -
    refine dL rfl ?_
    refine dA rfl rfl rfl (pG sZ) ?_
    rintro _ _ ⟨b24,rfl,rfl⟩
    refine pE 0 rfl (r':=aK fG 130 (some ⟨b24,0,none⟩) 0 []) (fun a h=>gP (F:=fG) (xs:=[]) rfl (by decide) a h) (aH ?_)
    exact aO rfl rfl (aB 0 rfl)
   ·rintro f M-⟨i0,-⟩
    exact aT aY
   ·rintro f M ⟨k0,-⟩-
    exact aT (fQ 0)
   ·rintro f M ⟨k0,k1,-⟩-
    have hs88:f 88= .slice (some ⟨(bY (f 88)),0,none⟩) (0) 0:=k0
    refine dL (aA (d:=90) (aA rfl hs88) k1) ?_
    refine dA rfl rfl rfl (cF (F:=fG) 0 sZ aYq (p:=(some ⟨(bY (f 88)),0,none⟩)) (m:=0) (xs:=[]) (ys:=rh.hs) (ao:=p2) (k:=rh.hs.length) (c:=c2) rfl rfl rfl rfl rfl (bH.of_base (dH.mono _ _ _) hsp2e) (by first|omega|simp only[List.length_nil,List.length_cons,List.length_append,List.length_set];omega) (by first|omega|simp only[List.length_nil,List.length_cons,List.length_append,List.length_set];omega)) ?_
    rintro _ _ ⟨rp27,rc28,rfl,rfl⟩
    refine aH ?_
    exact aO (aA (d:=90) (aA rfl hs88) k1) rfl (aB 0 rfl)
   ·rintro f M-⟨i0,-⟩
    exact aT aY
   ·rintro f M ⟨k0,-⟩-
    exact aT (cY 0)
   ·rintro f M-⟨i0,-⟩
    exact aT aY
   ·rintro f M ⟨k0,-⟩-
    exact aT (cY 0)
   ·rintro f M-⟨i0,-⟩
    exact aT aY
   ·rintro f M ⟨k0,-⟩-
    exact aT (dK 0)
   ·rintro f M ⟨k0,k1,k2,-⟩-
    exact gO (aA (d:=97) (aA (d:=95) (aA (d:=93) rfl k0) k1) k2) rfl (bV aYr.ok bIx (vs:=[(0,Ix ((rh.last)+(1:Int))),(1,Ix (x.owner)),(2,.agg (eK x.a))]) (cells:= #[Ix ((rh.last)+(1:Int)),Ix (x.owner),Ix (x.a.a0),Ix (x.a.a1),Ix (x.a.a2),Ix (x.a.a3)]) rfl rfl) (.refl _)
   ·rintro f M ⟨k0,-⟩-
    refine dL (aA (d:=98) rfl k0) ?_
    refine dA rfl rfl rfl (bZ sZ aYr.ok (cells:= #[Ix ((rh.last)+(1:Int)),Ix (x.owner),Ix (x.a.a0),Ix (x.a.a1),Ix (x.a.a2),Ix (x.a.a3)]) rfl rfl rfl rfl) ?_
    rintro _ _ ⟨b30,rfl,rfl⟩
    refine aH ?_
    exact aO (aA (d:=98) rfl k0) rfl (aB 0 rfl)
   ·rintro f M ⟨k0,k1,-⟩-
    have hs91:f 91=sB (dC (f 91)) rh.hs (dE (f 91)):=k0
    have hs99:f 99= .slice (some ⟨(bY (f 99)),0,none⟩) 1 1:=k1
    refine dL (aA (aA rfl hs91) hs99) ?_
    refine dA rfl rfl rfl (cF (F:=fG) 0 sZ aYq (p:=(dC (f 91))) (m:=rh.hs.length) (xs:=rh.hs) (ys:=[(⟨(rh.last)+(1:Int),x.owner,x.a⟩:KHo)]) (ao:=(some ⟨(bY (f 99)),0,none⟩)) (k:=1) (c:=1) rfl rfl rfl rfl rfl (gX (z:=(⟨(rh.last)+(1:Int),x.owner,x.a⟩:KHo)) 1 rfl rfl) (by first|omega|simp only[List.length_nil,List.length_cons,List.length_append,List.length_set];omega) (by first|omega|simp only[List.length_nil,List.length_cons,List.length_append,List.length_set];omega)) ?_
    rintro _ _ ⟨rp33,rc34,rfl,rfl⟩
    refine aH ?_
    exact aO (aA (aA rfl hs91) hs99) rfl ((aB 0 rfl).trans (aB 1 rfl))
   ·rintro f M-⟨i0,-⟩
    exact aT aY
   ·rintro f M ⟨k0,k1,-⟩-
    have hs100:f 100=sB (dC (f 100)) (rh.hs++[(⟨(rh.last)+(1:Int),x.owner,x.a⟩:KHo)]) (dE (f 100)):=k1
    refine dL (aA (aA (d:=101) rfl k0) hs100) ?_
    refine lu (mS 0 (#[sB p17 (cS x.owner ((dV rh.ps x.owner).plus x.a (-1)) false rh.ps) c18,sB (dC (f 100)) (rh.hs++[(⟨(rh.last)+(1:Int),x.owner,x.a⟩:KHo)]) (dE (f 100)),Ix ((rh.last)+(1:Int)),Ix (rh.su.a0),Ix (rh.su.a1),Ix (rh.su.a2),Ix (rh.su.a3),.slice p3 (m3) c3])) ?_
    refine aH ?_
    exact bC (aA (aA (d:=101) rfl k0) hs100) trivial (aB 0 rfl)
   rintro fa35 ⟨-,-,-,-,-,-,-,-,-,-,-,-,-,-,-,-⟩ ⟨j0,j1,j2,j3,j4,-⟩
   refine jD ?_
   refine aD (d:=2) j0 (aD (d:=4) j1 (aD (d:=6) j2 (aD (d:=8) j3 (aD (d:=9) j4 (aP ?_)))))
   refine uN (r':=gZ fG 130 p2 c2 rh.hs (dC (fa35 100)) (dE (fa35 100)) (rh.hs++[(⟨(rh.last)+(1:Int),x.owner,x.a⟩:KHo)])) 8 rfl yE ?_
   refine tZ [0,8,9,2,3,4,6,1,5,7] 10 ?_
   refine dD [true,true,true,true,true,true,true,false,false,false] rfl ?_
   exact bG ⟨0,x.a,{rh with ps:=cS x.owner (gU rh x) false rh.ps,hs:=rh.hs++[⟨rh.last+1,x.owner,x.a⟩],last:=rh.last+1},p17,c18,(dC (fa35 100)),(dE (fa35 100)),⟨rfl,rfl,rfl,rfl,rfl⟩,rfl,bId hb hx hk (pR hc16) (by have:=hc22;omega)⟩
  rintro f0 L0 ⟨to,am,out,qp,pc,hp,hc,⟨hs2,hs4,hs6,hs8,hs9⟩,hL,hm⟩
  subst L0
  refine bJ 2 hs2 (bJ 4 hs4 (bJ 6 hs6 (bJ 8 hs8 (bJ 9 hs9 ?_))))
  have hmn:=hm.n
  refine eR (aC (lE aU (lE oQ (aN (cN _ rfl (fun hc36=> ?_) (fun hc36=> ?_))))))
  ·refine aL ?_
   refine jS [sv 157 (.agg #[sB qp out.ps pc,sB hp out.hs hc,Ix (out.last),Ix (out.su.a0),Ix (out.su.a1),Ix (out.su.a2),Ix (out.su.a3),.slice p3 (m3) c3]) [] [] [0],sv 158 (Ix (to)) [] [] [1],sv 159 (.agg (eK (dV out.ps to))) [0,1] [0,1] [],sv 160 (.agg (eK am)) [] [] [2],sv 161 (.agg (eK ((dV out.ps to).plus am (1)))) [0,1,2,3] [2,3] [],⟨[],[],[],[12],fun f=>f 12= .pointer (some ⟨(bY (f 12)),0,none⟩)⟩,⟨(List.range 6),[5,4],[],[],fun _=>True⟩] [u1 [2],u0,u1 [0],u0,u0,u0,u1 [3]] [⟨(some 5),(some 6),[6],[12],fun f=>pt (bY (f 12)) (.cells #[.int .i64 (0),.int .i64 (0),.int .i64 (0),.int .i64 (0)] 43)⟩,⟨(some 6),none,[],[12],fun f=>pt (bY (f 12)) (.cells (eK ((dV out.ps to).plus am (1))) 43)⟩] [(6,pp b4 0),(8,Ix (to)),(9,.pointer (some ⟨(bY (fa21 9)),0,none⟩)),(2,pp b1 0),(4,pp b3 0)] [3,4,0,1] ⟨rfl,rfl,rfl,rfl,rfl,trivial⟩ ⟨?_,?_,?_,?_,?_,?_,?_,trivial⟩ ?_
   ·rintro f M-⟨i0,-⟩
    exact aT (dK 0)
   ·rintro f M-⟨i0,-⟩
    exact aT aU
   ·rintro f M ⟨k0,k1,-⟩-
    refine dL (aA (d:=158) (aA (d:=157) rfl k0) k1) ?_
    refine gI gH (fun w β1 sb kn hw1=>sM β1 w hw1 _ _ _ _ _ _ _ _ (kn _ (yY 0 rfl hsp1)) (by omega) _ out.su to) (aH ?_)
    exact aO (aA (d:=158) (aA (d:=157) rfl k0) k1) rfl (aB 0 rfl)
   ·rintro f M-⟨i0,-⟩
    exact aT (dK 0)
   ·rintro f M ⟨k0,k1,-⟩-
    refine dL (aA (d:=160) (aA (d:=159) rfl k0) k1) ?_
    refine gI gH (fun w β1 sb kn hw1=>pN β1 w hw1 (dV out.ps to) am (1) (by decide) (oO (hm.w _)) (oO hm.a)) (aH ?_)
    exact aO (aA (d:=160) (aA (d:=159) rfl k0) k1) rfl (List.Perm.refl _)
   ·rintro f M- -
    refine dL rfl ?_
    refine gB fun b38=>aH ?_
    exact aO rfl rfl (aB 0 rfl)
   ·rintro f M ⟨k0,k1,-⟩-
    have hs12:f 12= .pointer (some ⟨(bY (f 12)),0,none⟩):=k0
    refine dL (aA (d:=161) (aA rfl hs12) k1) ?_
    refine lu (mS 0 (eK ((dV out.ps to).plus am (1)))) (aH ?_)
    exact bC (aA (d:=161) (aA rfl hs12) k1) trivial (aB 0 rfl)
   rintro fa39 ⟨-,-,-,-,-,k5,-,-⟩ ⟨j0,j1,j2,j3,-⟩
   refine jD ?_
   refine aD (d:=2) j0 (aD (d:=4) j1 (aD (d:=6) j2 (aD (d:=8) j3 (aD (d:=12) k5 (kM (lE (dK 2) (lE aU ?_)))))))
   refine lE (dK 7) ?_
   refine aX rfl rfl rfl (cT (vs:=[.agg #[sB qp out.ps pc,sB hp out.hs hc,Ix (out.last),Ix (out.su.a0),Ix (out.su.a1),Ix (out.su.a2),Ix (out.su.a3),.slice p3 (m3) c3],Ix (to),.agg (eK ((dV out.ps to).plus am (1)))]) bCy.ok rfl rfl) ?_
   intro w hw
   obtain⟨β1,sb,kn,hw1,back⟩:=St.frame (L:=[_]) (M:=_::_::_::_::_::_::_::[]) hw
   refine(wP β1 w p1 c1 rh.ps qp pc out.ps hw1 (Sl.mono _ _ _ _ _ sb hsp1) (by omega) _ _ _ _ _ _ _ out.su to ((dV out.ps to).plus am (1))).mono ?_
   rintro e w' ⟨p40,c41,rfl,hw'⟩
   refine⟨_,rfl,_,back _ _ hw',?_⟩
   refine lu (mS 2 (#[sB p40 (cS to ((dV out.ps to).plus am (1)) false out.ps) c41,sB hp out.hs hc,Ix (out.last),Ix (out.su.a0),Ix (out.su.a1),Ix (out.su.a2),Ix (out.su.a3),.slice p3 (m3) c3])) ?_
   refine eY (lE (dK 7) (gI gH (fun w β1 sb kn hw1=>lI β1 w hw1 ((dV out.ps to).plus am (1))) (lE mB ?_)))
   refine tE (!(((dV out.ps to).plus am (1)).within)) (decide ((256:Int)<(((cS to ((dV out.ps to).plus am (1)) false out.ps).length:Nat):Int))) rfl (fun hb42 hk42=> ?_) (fun z43 z44 z45 z46=> ?_)
   ·refine gE aY (gE (fQ 2) (gE gY (gE oQ (lE dT ?_))))
    exact hk42 _ _ _ _
   refine aN ?_
   refine fH (((!(((dV out.ps to).plus am (1)).within))||(decide ((256:Int)<(((cS to ((dV out.ps to).plus am (1)) false out.ps).length:Nat):Int))))) rfl (fun hc47=> ?_) (fun hc47=> ?_)
   ·refine bD (lE (dK 5) ?_)
    refine lu (mS 3 (#[sB p1 rh.ps (c1),sB p2 rh.hs (c2),Ix (rh.last),Ix (rh.su.a0),Ix (rh.su.a1),Ix (rh.su.a2),Ix (rh.su.a3),.slice p3 (m3) c3])) ?_
    refine lE bN (aN (aV (aI ?_)))
    refine gK (m:=[.agg #[sB p1 rh.ps (c1),sB p2 rh.hs (c2),Ix (rh.last),Ix (rh.su.a0),Ix (rh.su.a1),Ix (rh.su.a2),Ix (rh.su.a3),.slice p3 (m3) c3],.int .i64 (4)]) Tryz.results99 ⟨bS ts1.ok rfl (cD 3 rfl rfl) rfl,eP (v:= .int .i64 (4)) rfl,trivial⟩ rfl ?_
    intro w hw
    have he:dY rh x=(rh,4):=aBq hm hc36 hc47
    rw[he]
    have hw:=(hw.emp (r:=gZ fG 130 p2 c2 rh.hs p2 c2 rh.hs) fC).emp (r:=gZ kF 128 p1 c1 rh.ps p1 c1 rh.ps) fC
    exact⟨p1,c1,p2,c2,rfl,aG [true,true,false,false,false,false,false,false,false,false] rfl hw⟩
   refine eB (bD (lE (dK 2) ?_))
   refine lu (mS 3 (#[sB p40 (cS to ((dV out.ps to).plus am (1)) false out.ps) c41,sB hp out.hs hc,Ix (out.last),Ix (out.su.a0),Ix (out.su.a1),Ix (out.su.a2),Ix (out.su.a3),.slice p3 (m3) c3])) ?_
   refine lE bN (aN (aV ?_))
   refine gK (m:=[.agg #[sB p40 (cS to ((dV out.ps to).plus am (1)) false out.ps) c41,sB hp out.hs hc,Ix (out.last),Ix (out.su.a0),Ix (out.su.a1),Ix (out.su.a2),Ix (out.su.a3),.slice p3 (m3) c3],.int .i64 (0)]) Tryz.results99 ⟨bS ts1.ok rfl (cD 3 rfl rfl) rfl,eP (v:= .int .i64 (0)) rfl,trivial⟩ rfl ?_
   intro w hw
   have he:dY rh x=({out with ps:=cS to ((dV out.ps to).plus am 1) false out.ps},0):=aKw hm hc36 hc47
   rw[he]
   replace hw:=aG (L':=[gZ kF 128 p1 c1 rh.ps p40 c41 (cS to ((dV out.ps to).plus am (1)) false out.ps),gZ fG 130 p2 c2 rh.hs hp hc out.hs]) [true,true,false,false,false,false,false,false] rfl hw
   exact⟨p40,c41,hp,hc,rfl,hw⟩
  refine eB (bD (lE (dK 2) ?_))
  refine lu (mS 3 (#[sB qp out.ps pc,sB hp out.hs hc,Ix (out.last),Ix (out.su.a0),Ix (out.su.a1),Ix (out.su.a2),Ix (out.su.a3),.slice p3 (m3) c3])) ?_
  refine lE bN (aN (aV ?_))
  refine gK (m:=[.agg #[sB qp out.ps pc,sB hp out.hs hc,Ix (out.last),Ix (out.su.a0),Ix (out.su.a1),Ix (out.su.a2),Ix (out.su.a3),.slice p3 (m3) c3],.int .i64 (0)]) Tryz.results99 ⟨bS ts1.ok rfl (cD 3 rfl rfl) rfl,eP (v:= .int .i64 (0)) rfl,trivial⟩ rfl ?_
  intro w hw
  have he:dY rh x=(out,0):=aIl hm hc36
  rw[he]
  replace hw:=aG (L':=[gZ kF 128 p1 c1 rh.ps qp pc out.ps,gZ fG 130 p2 c2 rh.hs hp hc out.hs]) [true,true,false,false,false,false,false] rfl hw
  exact⟨qp,pc,hp,hc,rfl,hw⟩
 ·refine aC (lE aY (lE (cY 4) ?_))
  refine lv (v:= .bool false) (fZ (by rcases hk with hk|hk|hk<;>rw[hk]<;>decide) (dX (a:=((x.kind).toNat:Int)) (b:=(2:Int)) rfl rfl)) ?_
  refine lE fM (gE aY (gE (cY 4) ?_))
  refine cU (v:= .bool false) rfl rfl rfl rfl rfl (fZ (by rcases hk with hk|hk|hk<;>rw[hk]<;>decide) (dX (a:=((x.kind).toNat:Int)) (b:=(3:Int)) rfl rfl)) ?_
  refine lE dT (lE fM (gE aY (gE (cY 4) ?_)))
  refine cU (v:= .bool false) rfl rfl rfl rfl rfl (fZ (by rcases hk with hk|hk|hk<;>rw[hk]<;>decide) (dX (a:=((x.kind).toNat:Int)) (b:=(4:Int)) rfl rfl)) ?_
  refine lE dT (lE fM (gE aY (gE (cY 4) ?_)))
  refine cU (v:= .bool false) rfl rfl rfl rfl rfl (fZ (by rcases hk with hk|hk|hk<;>rw[hk]<;>decide) (dX (a:=((x.kind).toNat:Int)) (b:=(7:Int)) rfl rfl)) ?_
  refine lE dT (aN (cR rfl (eB (aL ?_))))
  refine jS [sv 51 (pp b2 4) [] [] [0],sv 52 (.agg (eK x.a)) [0] [0] [],⟨[],[],[],[9],fun f=>f 9= .pointer (some ⟨(bY (f 9)),0,none⟩)⟩,sv 8 (.int .i64 (0)) [2] [] [],⟨[0,1,2,3],[2,1],[],[],fun _=>True⟩] [u0,u0,u0,u0,u1 [1]] [⟨(some 2),(some 4),[4],[9],fun f=>pt (bY (f 9)) (.cells #[.int .i64 (0),.int .i64 (0),.int .i64 (0),.int .i64 (0)] 43)⟩,⟨(some 4),none,[],[9],fun f=>pt (bY (f 9)) (.cells (eK x.a) 43)⟩] [(3,pp b2 0),(2,pp b1 0),(4,pp b3 0),(6,pp b4 0)] [1,0,2,3] ⟨rfl,rfl,rfl,rfl,trivial⟩ ⟨?_,?_,?_,?_,?_,trivial⟩ ?_
  ·rintro f M-⟨i0,-⟩
   exact aT aY
  ·rintro f M ⟨k0,-⟩-
   exact aT (dK 0)
  ·rintro f M- -
   refine dL rfl ?_
   refine gB fun b49=>aH ?_
   exact aO rfl rfl (aB 0 rfl)
  ·rintro f M- -
   exact aT bN
  ·rintro f M ⟨k0,k1,-⟩-
   have hs9:f 9= .pointer (some ⟨(bY (f 9)),0,none⟩):=k0
   refine dL (aA (d:=52) (aA rfl hs9) k1) ?_
   refine lu (mS 0 (eK x.a)) (aH ?_)
   exact bC (aA (d:=52) (aA rfl hs9) k1) trivial (aB 0 rfl)
  rintro fa50 ⟨-,-,k2,k3,-,-⟩ ⟨j0,j1,j2,j3,-⟩
  refine jD ?_
  refine aD (d:=2) j0 (aD (d:=3) j1 (aD (d:=4) j2 (aD (d:=6) j3 (aD (d:=8) k3 (aD (d:=9) k2 (bA ?_))))))
  refine gL (fun(f:Fm) (L:List bU)=>∃(to:Int) (am:KAm) (out:KRh) (qp:Option Addr) (pc:Nat) (hp:Option Addr) (hc:Nat),(f 2=pp b1 0∧f 4=pp b3 0∧f 6=pp b4 0∧f 8=Ix (to)∧f 9= .pointer (some ⟨(bY (fa50 9)),0,none⟩))∧L=[gZ kF 128 p1 c1 rh.ps qp pc out.ps,gZ fG 130 p2 c2 rh.hs hp hc out.hs,pt b4 (.cells #[sB qp out.ps pc,sB hp out.hs hc,Ix (out.last),Ix (out.su.a0),Ix (out.su.a1),Ix (out.su.a2),Ix (out.su.a3),.slice p3 (m3) c3] 62),pt b3 (.cells #[.slice none 0 0,.slice none 0 0,.int .i64 (0),.int .i64 (0),.int .i64 (0),.int .i64 (0),.int .i64 (0),.slice none 0 0] 62),pt b2 (.cells #[Bx (x.kind),Ix (x.owner),Ix (x.other),Ix (x.hold),Ix (x.a.a0),Ix (x.a.a1),Ix (x.a.a2),Ix (x.a.a3)] 120),pt b1 (.cells #[sB p1 rh.ps (c1),sB p2 rh.hs (c2),Ix (rh.last),Ix (rh.su.a0),Ix (rh.su.a1),Ix (rh.su.a2),Ix (rh.su.a3),.slice p3 (m3) c3] 62),pt (bY (fa50 9)) (.cells (eK am) 43)]∧(DoMid rh x to am out)) ?_ ?_
  ·refine bD (lE aY (lE (cY 4) (aN (aJ (aL ?_)))))
   rcases hk with hk|hk|hk
   ·refine aC (lv (v:= .bool true) (uM (by rw[hk]<;>decide) (dX (a:=((x.kind).toNat:Int)) (b:=(1:Int)) rfl rfl)) (lE dP (aN ?_)))
    refine dN rfl (bD (lE aY (lE (cY 4) (lE bN (xJ (lE aY (lE (dK 2) (lE aY (lE (dK 4) ?_)))))))))
    refine gI gH (fun w β1 sb kn hw1=>pN β1 w hw1 rh.su x.a (1) (by decide) (nR hb.u (by decide)) (oO (cX hx))) (lE aY ?_)
    refine lu (mS 2 (#[sB p1 rh.ps (c1),sB p2 rh.hs (c2),Ix (rh.last),Ix ((rh.su.plus x.a (1)).a0),Ix ((rh.su.plus x.a (1)).a1),Ix ((rh.su.plus x.a (1)).a2),Ix ((rh.su.plus x.a (1)).a3),.slice p3 (m3) c3])) ?_
    refine aH (aP ?_)
    exact bG ⟨x.owner,x.a,{rh with su:=rh.su.plus x.a 1},p1,c1,p2,c2,⟨rfl,rfl,rfl,rfl,rfl⟩,rfl,bIa hb hx hk⟩
   ·refine aC (lv (v:= .bool false) (fZ (by rw[hk]<;>decide) (dX (a:=((x.kind).toNat:Int)) (b:=(1:Int)) rfl rfl)) (lE dP (aN ?_)))
    refine cR rfl (bD (lv (v:= .bool false) (fZ (by rw[hk]<;>decide) (dX (a:=((x.kind).toNat:Int)) (b:=(2:Int)) rfl rfl)) (lE dP ?_)))
    refine aN (cR rfl (bD (lv (v:= .bool false) (fZ (by rw[hk]<;>decide) (dX (a:=((x.kind).toNat:Int)) (b:=(3:Int)) rfl rfl)) ?_)))
    refine lE dP (aN (cR rfl (bD ?_)))
    refine lv (v:= .bool false) (fZ (by rw[hk]<;>decide) (dX (a:=((x.kind).toNat:Int)) (b:=(4:Int)) rfl rfl)) (lE dP (aN (cR rfl ?_)))
    refine eR (aC (lv (v:= .bool true) (uM (by rw[hk]<;>decide) (dX (a:=((x.kind).toNat:Int)) (b:=(5:Int)) rfl rfl)) (lE dP ?_)))
    refine aN (dN rfl (eB (dN rfl (bD (lE iO (aN (eR (iK (r:=aK fG 130 none 0 []) (eA _ _ _) (aC (lE bN (aN (aJ ?_))))))))))))
    refine cZ (fun(x_:Nat×List KHo×Option Addr×Nat×Int×KAm) f L=>match x_ with|(k,l,p,c,to,am)=>(f 2=pp b1 0∧f 3=pp b2 0∧f 4=pp b3 0∧f 6=pp b4 0∧f 8=Ix (to)∧f 9= .pointer (some ⟨(bY (fa50 9)),0,none⟩)∧f 10=sB p l c∧f 11=Nx (k))∧L=[aK fG 130 p c l,gZ kF 128 p1 c1 rh.ps p1 c1 rh.ps,gZ fG 130 p2 c2 rh.hs p2 c2 rh.hs,pt b4 (.cells #[sB p1 rh.ps (c1),sB p2 rh.hs (c2),Ix (rh.last),Ix (rh.su.a0),Ix (rh.su.a1),Ix (rh.su.a2),Ix (rh.su.a3),.slice p3 (m3) c3] 62),pt b3 (.cells #[.slice none 0 0,.slice none 0 0,.int .i64 (0),.int .i64 (0),.int .i64 (0),.int .i64 (0),.int .i64 (0),.slice none 0 0] 62),pt b2 (.cells #[Bx (x.kind),Ix (x.owner),Ix (x.other),Ix (x.hold),Ix (x.a.a0),Ix (x.a.a1),Ix (x.a.a2),Ix (x.a.a3)] 120),pt b1 (.cells #[sB p1 rh.ps (c1),sB p2 rh.hs (c2),Ix (rh.last),Ix (rh.su.a0),Ix (rh.su.a1),Ix (rh.su.a2),Ix (rh.su.a3),.slice p3 (m3) c3] 62),pt (bY (fa50 9)) (.cells (eK am) 43)]∧(k≤rh.hs.length∧l=mJ x.hold (rh.hs.take k)∧(to,am)=tP x.hold (rh.hs.take k) (0,x.a))) (fun(k,l,p,c,to,am)=>rh.hs.length-k) (0,[],none,0,0,x.a) ?_ ?_
    ·exact⟨⟨rfl,rfl,rfl,rfl,rfl,rfl,rfl,rfl⟩,rfl,⟨Nat.zero_le _,rfl,rfl⟩⟩
    rintro⟨k,l,p,c,to,am⟩ f0 L0 ⟨⟨hs2,hs3,hs4,hs6,hs8,hs9,hs10,hs11⟩,hL,⟨hk_,hl,hr⟩⟩
    subst L0
    refine bJ 2 hs2 (bJ 3 hs3 (bJ 4 hs4 (bJ 6 hs6 (bJ 8 hs8 (bJ 9 hs9 (bJ 10 hs10 (bJ 11 hs11 ?_)))))))
    have hll:l.length≤rh.hs.length:=by rw[hl];exact Nat.le_trans (List.length_filter_le _ _) (by rw[List.length_take];omega)
    refine eR (aC (lE aU (lE aY (lE (fQ 6) (lE gY (lE gN (aN (cN _ rfl (fun hc51=> ?_) (fun hc51=> ?_)))))))))
    ·refine eB (aL (aJ (eR (gS (by kernel_rfl) (by kernel_rfl) (qE aY (qE (fQ 6) (qE aU ?_)))))))
     obtain⟨x52,hx53⟩:=kX rh.hs k (by omega)
     obtain⟨ha54,cs55,hc56,rfl⟩:=hsp2e _ _ hx53
     refine qE (sW sZ ha54) (qE ofa ?_)
     refine dU (v:=Ix (x52.number)) rfl rfl rfl (bI ts5.ok rfl (bH.imp (kB hc56) (fun _ h=>Cs.sub (vs:=[Ix (x52.number)]) 0 h rfl))) ?_
     refine qE aY (qE (cY 5) (qE lO (lB (bA (cN _ rfl (fun hc58=> ?_) (fun hc58=> ?_))))))
     ·refine bD (lE fL (lE aY (lE (fQ 6) (lE aU (lE (sW sZ ha54) ?_)))))
      refine lv (v:= .agg #[Ix (x52.number),Ix (x52.owner),Ix (x52.a.a0),Ix (x52.a.a1),Ix (x52.a.a2),Ix (x52.a.a3)]) (fV bFr.ok rfl (kB hc56) rfl) ?_
      refine dA rfl rfl rfl (bZ sZ aYr.ok (cells:= #[Ix (x52.number),Ix (x52.owner),Ix (x52.a.a0),Ix (x52.a.a1),Ix (x52.a.a2),Ix (x52.a.a3)]) rfl rfl rfl rfl) ?_
      rintro _ _ ⟨b59,rfl,rfl⟩
      refine dA rfl rfl rfl (cF (F:=fG) 1 sZ aYq (p:=p) (m:=l.length) (xs:=l) (ys:=[x52]) (ao:=(some ⟨b59,0,none⟩)) (k:=1) (c:=1) rfl rfl rfl rfl rfl (gX (z:=x52) 0 rfl rfl) (by first|omega|simp only[List.length_nil,List.length_cons,List.length_append,List.length_set];omega) (by first|omega|simp only[List.length_nil,List.length_cons,List.length_append,List.length_set];omega)) ?_
      rintro _ _ ⟨rp60,rc61,rfl,rfl⟩
      refine lE iO (aN (cK (aF (cL (bA (aC (lE aU (lv (v:=Nx (k+1)) (bO rfl rfl (cW (by omega) (by omega))) ?_))))))))
      refine lE bN (aH (dD [false,true,true,true,true,true,true,true,true] rfl ?_))
      exact bG ⟨(k+1,(l++[x52]),rp60,rc61,to,am),⟨⟨rfl,rfl,rfl,rfl,rfl,rfl,rfl,rfl⟩,rfl,⟨by omega,by rw[hl,(xU (d:=(0,x.a)) hx53 hc58).1],by rw[hr,(xU hx53 hc58).2]⟩⟩,(show rh.hs.length-(k+1)<rh.hs.length-k from by omega)⟩
     refine eB ?_
     refine jS [sv 129 (pp b1 1) [] [] [0],sv 130 (sB p2 rh.hs (c2)) [0] [0] [],sv 131 (Nx (k)) [] [] [1],sv 132 (.pointer (some ((ba p2).add (k*6)))) [0,1,2] [1,2] [],sv 133 (.pointer (some (((ba p2).add (k*6):Addr).add 1))) [0,1,2,3] [3] [],sv 134 (Ix (x52.owner)) [0,1,2,3,4] [4] [],sv 135 (pp b1 1) [] [] [0],sv 136 (sB p2 rh.hs (c2)) [6] [6] [],sv 137 (Nx (k)) [] [] [1],sv 138 (.pointer (some ((ba p2).add (k*6)))) [6,7,8] [7,8] [],sv 139 (.pointer (some (((ba p2).add (k*6):Addr).add 2))) [6,7,8,9] [9] [],sv 140 (.agg (eK x52.a)) [6,7,8,9,10] [10] [],sv 8 (Ix (x52.owner)) (List.range 6) [5] [],⟨(List.range 13),[11],[2],[],fun _=>True⟩] [u0,u0,u0,u0,u0,u0,u1 [1,7],(some 13,[13])] [⟨(some 13),none,[],[],fun _=>pt (bY (fa50 9)) (.cells (eK x52.a) 43)⟩] [(2,pp b1 0),(11,Nx (k)),(9,.pointer (some ⟨(bY (fa50 9)),0,none⟩)),(3,pp b2 0),(4,pp b3 0),(6,pp b4 0),(10,sB p l c)] [0,3,4,5,2,6,1] ⟨rfl,rfl,rfl,rfl,rfl,rfl,rfl,trivial⟩ ⟨?_,?_,?_,?_,?_,?_,?_,?_,?_,?_,?_,?_,?_,?_,trivial⟩ ?_
     ·rintro f M-⟨i0,-⟩
      exact aT aY
     ·rintro f M ⟨k0,-⟩-
      exact aT (fQ 0)
     ·rintro f M-⟨i0,-⟩
      exact aT aU
     ·rintro f M ⟨k0,k1,-⟩-
      exact gO (aA (d:=131) (aA (d:=130) rfl k0) k1) rfl (iQ rfl rfl sZ (by omega) ha54) (.refl _)
     ·rintro f M ⟨k0,-⟩-
      exact aT ofa
     ·rintro f M ⟨k0,-⟩-
      exact gO (aA (d:=133) rfl k0) rfl (bI ts5.ok rfl (bH.imp (kB hc56) (fun _ h=>Cs.sub (vs:=[Ix (x52.owner)]) 1 h rfl))) (.refl _)
     ·rintro f M-⟨i0,-⟩
      exact aT aY
     ·rintro f M ⟨k0,-⟩-
      exact aT (fQ 0)
     ·rintro f M-⟨i0,-⟩
      exact aT aU
     ·rintro f M ⟨k0,k1,-⟩-
      exact gO (aA (d:=137) (aA (d:=136) rfl k0) k1) rfl (iQ rfl rfl sZ (by omega) ha54) (.refl _)
     ·rintro f M ⟨k0,-⟩-
      exact aT ofa
     ·rintro f M ⟨k0,-⟩-
      exact gO (aA (d:=139) rfl k0) rfl (fV ts8.ok rfl (bH.imp (kB hc56) (fun _ h=>Cs.sub (vs:=(oT x52.a)) 2 h rfl)) rfl) (.refl _)
     ·rintro f M ⟨k0,-⟩-
      exact aT bN
     ·rintro f M ⟨k0,-⟩ ⟨i0,-⟩
      refine dL (aA (d:=140) (aA (d:=9) rfl i0) k0) ?_
      refine lu (mS 0 (eK x52.a)) (aH ?_)
      exact bC (aA (d:=140) (aA (d:=9) rfl i0) k0) trivial (aB 0 rfl)
     rintro fa62 ⟨-,-,-,-,-,-,-,-,-,-,-,-,k12,-,-⟩ ⟨j0,j1,j2,j3,j4,j5,j6,-⟩
     refine jD ?_
     refine aD (d:=2) j0 (aD (d:=3) j1 (aD (d:=4) j2 (aD (d:=6) j3 (aD (d:=8) k12 (aD (d:=9) j4 ?_)))))
     refine aD (d:=10) j5 (aD (d:=11) j6 (aP (bA (aC (lE aU ?_)))))
     refine lv (v:=Nx (k+1)) (bO rfl rfl (cW (by omega) (by omega))) (lE bN (aH ?_))
     exact bG ⟨(k+1,l,p,c,x52.owner,x52.a),⟨⟨rfl,rfl,rfl,rfl,rfl,rfl,rfl,rfl⟩,rfl,⟨by omega,by rw[hl,(aDj (d:=(0,x.a)) hx53 (Decidable.not_not.1 hc58)).1],by rw[(aDj hx53 (Decidable.not_not.1 hc58)).2]⟩⟩,(show rh.hs.length-(k+1)<rh.hs.length-k from by omega)⟩
    refine cK (aF (aF (cL (qV (aL ?_)))))
    have hl:l=mJ x.hold rh.hs:=by rw[hl,List.take_of_length_le (by omega)]
    have hr:(to,am)=tP x.hold rh.hs (0,x.a):=by rw[hr,List.take_of_length_le (by omega)]
    refine aC (lE fL (lE gY (lE aY (lE (fQ 6) (lE gY (lE fD (aN (cN _ rfl (fun hc63=> ?_) (fun hc63=> ?_)))))))))
    ·refine bD (lE (dK 6) ?_)
     refine lu (mS 4 (#[sB p1 rh.ps (c1),sB p2 rh.hs (c2),Ix (rh.last),Ix (rh.su.a0),Ix (rh.su.a1),Ix (rh.su.a2),Ix (rh.su.a3),.slice p3 (m3) c3])) ?_
     refine lE bN (aN (aV (aI (aR (aI ?_)))))
     refine gK (m:=[.agg #[sB p1 rh.ps (c1),sB p2 rh.hs (c2),Ix (rh.last),Ix (rh.su.a0),Ix (rh.su.a1),Ix (rh.su.a2),Ix (rh.su.a3),.slice p3 (m3) c3],.int .i64 (6)]) Tryz.results99 ⟨bS ts1.ok rfl (cD 4 rfl rfl) rfl,eP (v:= .int .i64 (6)) rfl,trivial⟩ rfl ?_
     intro w hw
     have he:dY rh x=(rh,6):=aZv hb hx (.inl hk) (by have:=hc63;rw[←hl];omega)
     rw[he]
     have hw:=(hw.emp (r:=gZ fG 130 p2 c2 rh.hs p2 c2 rh.hs) fC).emp (r:=gZ kF 128 p1 c1 rh.ps p1 c1 rh.ps) fC
     exact⟨p1,c1,p2,c2,rfl,aG [true,true,false,false,false,false,false,false,false,false] rfl hw⟩
    refine eB (eR (aC (lE aY (lE (cY 5) ?_))))
    refine lv (v:= .bool false) (fZ (by rw[hk]<;>decide) (dX (a:=((x.kind).toNat:Int)) (b:=(6:Int)) rfl rfl)) (aN (cR rfl (eB ?_)))
    refine aC (lE fL (lE aY ?_))
    refine lu (mS 3 (#[sB p1 rh.ps (c1),sB p l c,Ix (rh.last),Ix (rh.su.a0),Ix (rh.su.a1),Ix (rh.su.a2),Ix (rh.su.a3),.slice p3 (m3) c3])) (aH ?_)
    refine aP (uN (r':=gZ fG 130 p2 c2 rh.hs p c l) 0 rfl yE (tZ [1,0,3,4,5,6,7,2] 8 ?_))
    refine dD [true,true,true,true,true,true,true,false] rfl ?_
    exact bG ⟨to,am,{rh with hs:=l},p1,c1,p,c,⟨rfl,rfl,rfl,rfl,rfl⟩,rfl,bIe hb hx hk hr hl (by have:=hc63;omega)⟩
   refine aC (lv (v:= .bool false) (fZ (by rw[hk]<;>decide) (dX (a:=((x.kind).toNat:Int)) (b:=(1:Int)) rfl rfl)) (lE dP (aN ?_)))
   refine cR rfl (bD (lv (v:= .bool false) (fZ (by rw[hk]<;>decide) (dX (a:=((x.kind).toNat:Int)) (b:=(2:Int)) rfl rfl)) (lE dP ?_)))
   refine aN (cR rfl (bD (lv (v:= .bool false) (fZ (by rw[hk]<;>decide) (dX (a:=((x.kind).toNat:Int)) (b:=(3:Int)) rfl rfl)) ?_)))
   refine lE dP (aN (cR rfl (bD ?_)))
   refine lv (v:= .bool false) (fZ (by rw[hk]<;>decide) (dX (a:=((x.kind).toNat:Int)) (b:=(4:Int)) rfl rfl)) (lE dP (aN (cR rfl ?_)))
   refine eR (aC (lv (v:= .bool false) (fZ (by rw[hk]<;>decide) (dX (a:=((x.kind).toNat:Int)) (b:=(5:Int)) rfl rfl)) (lE dP ?_)))
   refine aN (cR rfl (aC (lv (v:= .bool true) (uM (by rw[hk]<;>decide) (dX (a:=((x.kind).toNat:Int)) (b:=(6:Int)) rfl rfl)) ?_)))
   refine lE dP (aN (dN rfl (bD (lE iO (aN (eR (iK (r:=aK fG 130 none 0 []) (eA _ _ _) (aC (lE bN (aN (aJ ?_)))))))))))
   refine cZ (fun(x_:Nat×List KHo×Option Addr×Nat×Int×KAm) f L=>match x_ with|(k,l,p,c,to,am)=>(f 2=pp b1 0∧f 3=pp b2 0∧f 4=pp b3 0∧f 6=pp b4 0∧f 8=Ix (to)∧f 9= .pointer (some ⟨(bY (fa50 9)),0,none⟩)∧f 10=sB p l c∧f 11=Nx (k))∧L=[aK fG 130 p c l,gZ kF 128 p1 c1 rh.ps p1 c1 rh.ps,gZ fG 130 p2 c2 rh.hs p2 c2 rh.hs,pt b4 (.cells #[sB p1 rh.ps (c1),sB p2 rh.hs (c2),Ix (rh.last),Ix (rh.su.a0),Ix (rh.su.a1),Ix (rh.su.a2),Ix (rh.su.a3),.slice p3 (m3) c3] 62),pt b3 (.cells #[.slice none 0 0,.slice none 0 0,.int .i64 (0),.int .i64 (0),.int .i64 (0),.int .i64 (0),.int .i64 (0),.slice none 0 0] 62),pt b2 (.cells #[Bx (x.kind),Ix (x.owner),Ix (x.other),Ix (x.hold),Ix (x.a.a0),Ix (x.a.a1),Ix (x.a.a2),Ix (x.a.a3)] 120),pt b1 (.cells #[sB p1 rh.ps (c1),sB p2 rh.hs (c2),Ix (rh.last),Ix (rh.su.a0),Ix (rh.su.a1),Ix (rh.su.a2),Ix (rh.su.a3),.slice p3 (m3) c3] 62),pt (bY (fa50 9)) (.cells (eK am) 43)]∧(k≤rh.hs.length∧l=mJ x.hold (rh.hs.take k)∧(to,am)=tP x.hold (rh.hs.take k) (0,x.a))) (fun(k,l,p,c,to,am)=>rh.hs.length-k) (0,[],none,0,0,x.a) ?_ ?_
   ·exact⟨⟨rfl,rfl,rfl,rfl,rfl,rfl,rfl,rfl⟩,rfl,⟨Nat.zero_le _,rfl,rfl⟩⟩
   rintro⟨k,l,p,c,to,am⟩ f0 L0 ⟨⟨hs2,hs3,hs4,hs6,hs8,hs9,hs10,hs11⟩,hL,⟨hk_,hl,hr⟩⟩
   subst L0
   refine bJ 2 hs2 (bJ 3 hs3 (bJ 4 hs4 (bJ 6 hs6 (bJ 8 hs8 (bJ 9 hs9 (bJ 10 hs10 (bJ 11 hs11 ?_)))))))
   have hll:l.length≤rh.hs.length:=by rw[hl];exact Nat.le_trans (List.length_filter_le _ _) (by rw[List.length_take];omega)
   refine eR (aC (lE aU (lE aY (lE (fQ 6) (lE gY (lE gN (aN (cN _ rfl (fun hc64=> ?_) (fun hc64=> ?_)))))))))
   ·refine eB (aL (aJ (eR (gS (by kernel_rfl) (by kernel_rfl) (qE aY (qE (fQ 6) (qE aU ?_)))))))
    obtain⟨x65,hx66⟩:=kX rh.hs k (by omega)
    obtain⟨ha67,cs68,hc69,rfl⟩:=hsp2e _ _ hx66
    refine qE (sW sZ ha67) (qE ofa ?_)
    refine dU (v:=Ix (x65.number)) rfl rfl rfl (bI ts5.ok rfl (bH.imp (kB hc69) (fun _ h=>Cs.sub (vs:=[Ix (x65.number)]) 0 h rfl))) ?_
    refine qE aY (qE (cY 5) (qE lO (lB (bA (cN _ rfl (fun hc71=> ?_) (fun hc71=> ?_))))))
    ·refine bD (lE fL (lE aY (lE (fQ 6) (lE aU (lE (sW sZ ha67) ?_)))))
     refine lv (v:= .agg #[Ix (x65.number),Ix (x65.owner),Ix (x65.a.a0),Ix (x65.a.a1),Ix (x65.a.a2),Ix (x65.a.a3)]) (fV bFr.ok rfl (kB hc69) rfl) ?_
     refine dA rfl rfl rfl (bZ sZ aYr.ok (cells:= #[Ix (x65.number),Ix (x65.owner),Ix (x65.a.a0),Ix (x65.a.a1),Ix (x65.a.a2),Ix (x65.a.a3)]) rfl rfl rfl rfl) ?_
     rintro _ _ ⟨b72,rfl,rfl⟩
     refine dA rfl rfl rfl (cF (F:=fG) 1 sZ aYq (p:=p) (m:=l.length) (xs:=l) (ys:=[x65]) (ao:=(some ⟨b72,0,none⟩)) (k:=1) (c:=1) rfl rfl rfl rfl rfl (gX (z:=x65) 0 rfl rfl) (by first|omega|simp only[List.length_nil,List.length_cons,List.length_append,List.length_set];omega) (by first|omega|simp only[List.length_nil,List.length_cons,List.length_append,List.length_set];omega)) ?_
     rintro _ _ ⟨rp73,rc74,rfl,rfl⟩
     refine lE iO (aN (cK (aF (cL (bA (aC (lE aU (lv (v:=Nx (k+1)) (bO rfl rfl (cW (by omega) (by omega))) ?_))))))))
     refine lE bN (aH (dD [false,true,true,true,true,true,true,true,true] rfl ?_))
     exact bG ⟨(k+1,(l++[x65]),rp73,rc74,to,am),⟨⟨rfl,rfl,rfl,rfl,rfl,rfl,rfl,rfl⟩,rfl,⟨by omega,by rw[hl,(xU (d:=(0,x.a)) hx66 hc71).1],by rw[hr,(xU hx66 hc71).2]⟩⟩,(show rh.hs.length-(k+1)<rh.hs.length-k from by omega)⟩
    refine eB ?_
    refine jS [sv 129 (pp b1 1) [] [] [0],sv 130 (sB p2 rh.hs (c2)) [0] [0] [],sv 131 (Nx (k)) [] [] [1],sv 132 (.pointer (some ((ba p2).add (k*6)))) [0,1,2] [1,2] [],sv 133 (.pointer (some (((ba p2).add (k*6):Addr).add 1))) [0,1,2,3] [3] [],sv 134 (Ix (x65.owner)) [0,1,2,3,4] [4] [],sv 135 (pp b1 1) [] [] [0],sv 136 (sB p2 rh.hs (c2)) [6] [6] [],sv 137 (Nx (k)) [] [] [1],sv 138 (.pointer (some ((ba p2).add (k*6)))) [6,7,8] [7,8] [],sv 139 (.pointer (some (((ba p2).add (k*6):Addr).add 2))) [6,7,8,9] [9] [],sv 140 (.agg (eK x65.a)) [6,7,8,9,10] [10] [],sv 8 (Ix (x65.owner)) (List.range 6) [5] [],⟨(List.range 13),[11],[2],[],fun _=>True⟩] [u0,u0,u0,u0,u0,u0,u1 [1,7],(some 13,[13])] [⟨(some 13),none,[],[],fun _=>pt (bY (fa50 9)) (.cells (eK x65.a) 43)⟩] [(2,pp b1 0),(11,Nx (k)),(9,.pointer (some ⟨(bY (fa50 9)),0,none⟩)),(3,pp b2 0),(4,pp b3 0),(6,pp b4 0),(10,sB p l c)] [0,3,4,5,2,6,1] ⟨rfl,rfl,rfl,rfl,rfl,rfl,rfl,trivial⟩ ⟨?_,?_,?_,?_,?_,?_,?_,?_,?_,?_,?_,?_,?_,?_,trivial⟩ ?_
    ·rintro f M-⟨i0,-⟩
     exact aT aY
    ·rintro f M ⟨k0,-⟩-
     exact aT (fQ 0)
    ·rintro f M-⟨i0,-⟩
     exact aT aU
    ·rintro f M ⟨k0,k1,-⟩-
     exact gO (aA (d:=131) (aA (d:=130) rfl k0) k1) rfl (iQ rfl rfl sZ (by omega) ha67) (.refl _)
    ·rintro f M ⟨k0,-⟩-
     exact aT ofa
    ·rintro f M ⟨k0,-⟩-
     exact gO (aA (d:=133) rfl k0) rfl (bI ts5.ok rfl (bH.imp (kB hc69) (fun _ h=>Cs.sub (vs:=[Ix (x65.owner)]) 1 h rfl))) (.refl _)
    ·rintro f M-⟨i0,-⟩
     exact aT aY
    ·rintro f M ⟨k0,-⟩-
     exact aT (fQ 0)
    ·rintro f M-⟨i0,-⟩
     exact aT aU
    ·rintro f M ⟨k0,k1,-⟩-
     exact gO (aA (d:=137) (aA (d:=136) rfl k0) k1) rfl (iQ rfl rfl sZ (by omega) ha67) (.refl _)
    ·rintro f M ⟨k0,-⟩-
     exact aT ofa
    ·rintro f M ⟨k0,-⟩-
     exact gO (aA (d:=139) rfl k0) rfl (fV ts8.ok rfl (bH.imp (kB hc69) (fun _ h=>Cs.sub (vs:=(oT x65.a)) 2 h rfl)) rfl) (.refl _)
    ·rintro f M ⟨k0,-⟩-
     exact aT bN
    ·rintro f M ⟨k0,-⟩ ⟨i0,-⟩
     refine dL (aA (d:=140) (aA (d:=9) rfl i0) k0) ?_
     refine lu (mS 0 (eK x65.a)) (aH ?_)
     exact bC (aA (d:=140) (aA (d:=9) rfl i0) k0) trivial (aB 0 rfl)
    rintro fa75 ⟨-,-,-,-,-,-,-,-,-,-,-,-,k12,-,-⟩ ⟨j0,j1,j2,j3,j4,j5,j6,-⟩
    refine jD ?_
    refine aD (d:=2) j0 (aD (d:=3) j1 (aD (d:=4) j2 (aD (d:=6) j3 (aD (d:=8) k12 (aD (d:=9) j4 ?_)))))
    refine aD (d:=10) j5 (aD (d:=11) j6 (aP (bA (aC (lE aU ?_)))))
    refine lv (v:=Nx (k+1)) (bO rfl rfl (cW (by omega) (by omega))) (lE bN (aH ?_))
    exact bG ⟨(k+1,l,p,c,x65.owner,x65.a),⟨⟨rfl,rfl,rfl,rfl,rfl,rfl,rfl,rfl⟩,rfl,⟨by omega,by rw[hl,(aDj (d:=(0,x.a)) hx66 (Decidable.not_not.1 hc71)).1],by rw[(aDj hx66 (Decidable.not_not.1 hc71)).2]⟩⟩,(show rh.hs.length-(k+1)<rh.hs.length-k from by omega)⟩
   refine cK (aF (aF (cL (qV (aL ?_)))))
   have hl:l=mJ x.hold rh.hs:=by rw[hl,List.take_of_length_le (by omega)]
   have hr:(to,am)=tP x.hold rh.hs (0,x.a):=by rw[hr,List.take_of_length_le (by omega)]
   refine aC (lE fL (lE gY (lE aY (lE (fQ 6) (lE gY (lE fD (aN (cN _ rfl (fun hc76=> ?_) (fun hc76=> ?_)))))))))
   ·refine bD (lE (dK 6) ?_)
    refine lu (mS 4 (#[sB p1 rh.ps (c1),sB p2 rh.hs (c2),Ix (rh.last),Ix (rh.su.a0),Ix (rh.su.a1),Ix (rh.su.a2),Ix (rh.su.a3),.slice p3 (m3) c3])) ?_
    refine lE bN (aN (aV (aI (aR (aI ?_)))))
    refine gK (m:=[.agg #[sB p1 rh.ps (c1),sB p2 rh.hs (c2),Ix (rh.last),Ix (rh.su.a0),Ix (rh.su.a1),Ix (rh.su.a2),Ix (rh.su.a3),.slice p3 (m3) c3],.int .i64 (6)]) Tryz.results99 ⟨bS ts1.ok rfl (cD 4 rfl rfl) rfl,eP (v:= .int .i64 (6)) rfl,trivial⟩ rfl ?_
    intro w hw
    have he:dY rh x=(rh,6):=aZv hb hx (.inr hk) (by have:=hc76;rw[←hl];omega)
    rw[he]
    have hw:=(hw.emp (r:=gZ fG 130 p2 c2 rh.hs p2 c2 rh.hs) fC).emp (r:=gZ kF 128 p1 c1 rh.ps p1 c1 rh.ps) fC
    exact⟨p1,c1,p2,c2,rfl,aG [true,true,false,false,false,false,false,false,false,false] rfl hw⟩
   refine eB (eR (aC (lE aY (lE (cY 5) ?_))))
   refine lv (v:= .bool true) (uM (by rw[hk]<;>decide) (dX (a:=((x.kind).toNat:Int)) (b:=(6:Int)) rfl rfl)) (aN (dN rfl ?_))
   refine aC (lE aY (lE (cY 5) (lE bN (xJ (lE fL (lE aY ?_))))))
   refine lu (mS 3 (#[sB p1 rh.ps (c1),sB p l c,Ix (rh.last),Ix (rh.su.a0),Ix (rh.su.a1),Ix (rh.su.a2),Ix (rh.su.a3),.slice p3 (m3) c3])) (aH ?_)
   refine aP (uN (r':=gZ fG 130 p2 c2 rh.hs p c l) 0 rfl yE (tZ [1,0,3,4,5,6,7,2] 8 ?_))
   refine dD [true,true,true,true,true,true,true,false] rfl ?_
   exact bG ⟨x.other,am,{rh with hs:=l},p1,c1,p,c,⟨rfl,rfl,rfl,rfl,rfl⟩,rfl,bIf hb hx hk hr hl (by have:=hc76;omega)⟩
  rintro f0 L0 ⟨to,am,out,qp,pc,hp,hc,⟨hs2,hs4,hs6,hs8,hs9⟩,hL,hm⟩
  subst L0
  refine bJ 2 hs2 (bJ 4 hs4 (bJ 6 hs6 (bJ 8 hs8 (bJ 9 hs9 ?_))))
  have hmn:=hm.n
  refine eR (aC (lE aU (lE oQ (aN (cN _ rfl (fun hc77=> ?_) (fun hc77=> ?_))))))
  ·refine aL ?_
   refine jS [sv 157 (.agg #[sB qp out.ps pc,sB hp out.hs hc,Ix (out.last),Ix (out.su.a0),Ix (out.su.a1),Ix (out.su.a2),Ix (out.su.a3),.slice p3 (m3) c3]) [] [] [0],sv 158 (Ix (to)) [] [] [1],sv 159 (.agg (eK (dV out.ps to))) [0,1] [0,1] [],sv 160 (.agg (eK am)) [] [] [2],sv 161 (.agg (eK ((dV out.ps to).plus am (1)))) [0,1,2,3] [2,3] [],⟨[],[],[],[12],fun f=>f 12= .pointer (some ⟨(bY (f 12)),0,none⟩)⟩,⟨(List.range 6),[5,4],[],[],fun _=>True⟩] [u1 [2],u0,u1 [0],u0,u0,u0,u1 [3]] [⟨(some 5),(some 6),[6],[12],fun f=>pt (bY (f 12)) (.cells #[.int .i64 (0),.int .i64 (0),.int .i64 (0),.int .i64 (0)] 43)⟩,⟨(some 6),none,[],[12],fun f=>pt (bY (f 12)) (.cells (eK ((dV out.ps to).plus am (1))) 43)⟩] [(6,pp b4 0),(8,Ix (to)),(9,.pointer (some ⟨(bY (fa50 9)),0,none⟩)),(2,pp b1 0),(4,pp b3 0)] [3,4,0,1] ⟨rfl,rfl,rfl,rfl,rfl,trivial⟩ ⟨?_,?_,?_,?_,?_,?_,?_,trivial⟩ ?_
   ·rintro f M-⟨i0,-⟩
    exact aT (dK 0)
   ·rintro f M-⟨i0,-⟩
    exact aT aU
   ·rintro f M ⟨k0,k1,-⟩-
    refine dL (aA (d:=158) (aA (d:=157) rfl k0) k1) ?_
    refine gI gH (fun w β1 sb kn hw1=>sM β1 w hw1 _ _ _ _ _ _ _ _ (kn _ (yY 0 rfl hsp1)) (by omega) _ out.su to) (aH ?_)
    exact aO (aA (d:=158) (aA (d:=157) rfl k0) k1) rfl (aB 0 rfl)
   ·rintro f M-⟨i0,-⟩
    exact aT (dK 0)
   ·rintro f M ⟨k0,k1,-⟩-
    refine dL (aA (d:=160) (aA (d:=159) rfl k0) k1) ?_
    refine gI gH (fun w β1 sb kn hw1=>pN β1 w hw1 (dV out.ps to) am (1) (by decide) (oO (hm.w _)) (oO hm.a)) (aH ?_)
    exact aO (aA (d:=160) (aA (d:=159) rfl k0) k1) rfl (List.Perm.refl _)
   ·rintro f M- -
    refine dL rfl ?_
    refine gB fun b79=>aH ?_
    exact aO rfl rfl (aB 0 rfl)
   ·rintro f M ⟨k0,k1,-⟩-
    have hs12:f 12= .pointer (some ⟨(bY (f 12)),0,none⟩):=k0
    refine dL (aA (d:=161) (aA rfl hs12) k1) ?_
    refine lu (mS 0 (eK ((dV out.ps to).plus am (1)))) (aH ?_)
    exact bC (aA (d:=161) (aA rfl hs12) k1) trivial (aB 0 rfl)
   rintro fa80 ⟨-,-,-,-,-,k5,-,-⟩ ⟨j0,j1,j2,j3,-⟩
   refine jD ?_
   refine aD (d:=2) j0 (aD (d:=4) j1 (aD (d:=6) j2 (aD (d:=8) j3 (aD (d:=12) k5 (kM (lE (dK 2) (lE aU ?_)))))))
   refine lE (dK 7) ?_
   refine aX rfl rfl rfl (cT (vs:=[.agg #[sB qp out.ps pc,sB hp out.hs hc,Ix (out.last),Ix (out.su.a0),Ix (out.su.a1),Ix (out.su.a2),Ix (out.su.a3),.slice p3 (m3) c3],Ix (to),.agg (eK ((dV out.ps to).plus am (1)))]) bCy.ok rfl rfl) ?_
   intro w hw
   obtain⟨β1,sb,kn,hw1,back⟩:=St.frame (L:=[_]) (M:=_::_::_::_::_::_::_::[]) hw
   refine(wP β1 w p1 c1 rh.ps qp pc out.ps hw1 (Sl.mono _ _ _ _ _ sb hsp1) (by omega) _ _ _ _ _ _ _ out.su to ((dV out.ps to).plus am (1))).mono ?_
   rintro e w' ⟨p81,c82,rfl,hw'⟩
   refine⟨_,rfl,_,back _ _ hw',?_⟩
   refine lu (mS 2 (#[sB p81 (cS to ((dV out.ps to).plus am (1)) false out.ps) c82,sB hp out.hs hc,Ix (out.last),Ix (out.su.a0),Ix (out.su.a1),Ix (out.su.a2),Ix (out.su.a3),.slice p3 (m3) c3])) ?_
   refine eY (lE (dK 7) (gI gH (fun w β1 sb kn hw1=>lI β1 w hw1 ((dV out.ps to).plus am (1))) (lE mB ?_)))
   refine tE (!(((dV out.ps to).plus am (1)).within)) (decide ((256:Int)<(((cS to ((dV out.ps to).plus am (1)) false out.ps).length:Nat):Int))) rfl (fun hb83 hk83=> ?_) (fun z84 z85 z86 z87=> ?_)
   ·refine gE aY (gE (fQ 2) (gE gY (gE oQ (lE dT ?_))))
    exact hk83 _ _ _ _
   refine aN ?_
   refine fH (((!(((dV out.ps to).plus am (1)).within))||(decide ((256:Int)<(((cS to ((dV out.ps to).plus am (1)) false out.ps).length:Nat):Int))))) rfl (fun hc88=> ?_) (fun hc88=> ?_)
   ·refine bD (lE (dK 5) ?_)
    refine lu (mS 3 (#[sB p1 rh.ps (c1),sB p2 rh.hs (c2),Ix (rh.last),Ix (rh.su.a0),Ix (rh.su.a1),Ix (rh.su.a2),Ix (rh.su.a3),.slice p3 (m3) c3])) ?_
    refine lE bN (aN (aV (aI ?_)))
    refine gK (m:=[.agg #[sB p1 rh.ps (c1),sB p2 rh.hs (c2),Ix (rh.last),Ix (rh.su.a0),Ix (rh.su.a1),Ix (rh.su.a2),Ix (rh.su.a3),.slice p3 (m3) c3],.int .i64 (4)]) Tryz.results99 ⟨bS ts1.ok rfl (cD 3 rfl rfl) rfl,eP (v:= .int .i64 (4)) rfl,trivial⟩ rfl ?_
    intro w hw
    have he:dY rh x=(rh,4):=aBq hm hc77 hc88
    rw[he]
    have hw:=(hw.emp (r:=gZ fG 130 p2 c2 rh.hs p2 c2 rh.hs) fC).emp (r:=gZ kF 128 p1 c1 rh.ps p1 c1 rh.ps) fC
    exact⟨p1,c1,p2,c2,rfl,aG [true,true,false,false,false,false,false,false,false,false] rfl hw⟩
   refine eB (bD (lE (dK 2) ?_))
   refine lu (mS 3 (#[sB p81 (cS to ((dV out.ps to).plus am (1)) false out.ps) c82,sB hp out.hs hc,Ix (out.last),Ix (out.su.a0),Ix (out.su.a1),Ix (out.su.a2),Ix (out.su.a3),.slice p3 (m3) c3])) ?_
   refine lE bN (aN (aV ?_))
   refine gK (m:=[.agg #[sB p81 (cS to ((dV out.ps to).plus am (1)) false out.ps) c82,sB hp out.hs hc,Ix (out.last),Ix (out.su.a0),Ix (out.su.a1),Ix (out.su.a2),Ix (out.su.a3),.slice p3 (m3) c3],.int .i64 (0)]) Tryz.results99 ⟨bS ts1.ok rfl (cD 3 rfl rfl) rfl,eP (v:= .int .i64 (0)) rfl,trivial⟩ rfl ?_
   intro w hw
   have he:dY rh x=({out with ps:=cS to ((dV out.ps to).plus am 1) false out.ps},0):=aKw hm hc77 hc88
   rw[he]
   replace hw:=aG (L':=[gZ kF 128 p1 c1 rh.ps p81 c82 (cS to ((dV out.ps to).plus am (1)) false out.ps),gZ fG 130 p2 c2 rh.hs hp hc out.hs]) [true,true,false,false,false,false,false,false] rfl hw
   exact⟨p81,c82,hp,hc,rfl,hw⟩
  refine eB (bD (lE (dK 2) ?_))
  refine lu (mS 3 (#[sB qp out.ps pc,sB hp out.hs hc,Ix (out.last),Ix (out.su.a0),Ix (out.su.a1),Ix (out.su.a2),Ix (out.su.a3),.slice p3 (m3) c3])) ?_
  refine lE bN (aN (aV ?_))
  refine gK (m:=[.agg #[sB qp out.ps pc,sB hp out.hs hc,Ix (out.last),Ix (out.su.a0),Ix (out.su.a1),Ix (out.su.a2),Ix (out.su.a3),.slice p3 (m3) c3],.int .i64 (0)]) Tryz.results99 ⟨bS ts1.ok rfl (cD 3 rfl rfl) rfl,eP (v:= .int .i64 (0)) rfl,trivial⟩ rfl ?_
  intro w hw
  have he:dY rh x=(out,0):=aIl hm hc77
  rw[he]
  replace hw:=aG (L':=[gZ kF 128 p1 c1 rh.ps qp pc out.ps,gZ fG 130 p2 c2 rh.hs hp hc out.hs]) [true,true,false,false,false,false,false] rfl hw
  exact⟨qp,pc,hp,hc,rfl,hw⟩
 refine aC (lE aY (lE (cY 4) ?_))
 refine lv (v:= .bool false) (fZ (by rw[hk]<;>decide) (dX (a:=((x.kind).toNat:Int)) (b:=(2:Int)) rfl rfl)) (lE fM (gE aY ?_))
 refine gE (cY 4) ?_
 refine cU (v:= .bool false) rfl rfl rfl rfl rfl (fZ (by rw[hk]<;>decide) (dX (a:=((x.kind).toNat:Int)) (b:=(3:Int)) rfl rfl)) ?_
 refine lE dT (lE fM (gE aY (gE (cY 4) ?_)))
 refine cU (v:= .bool false) rfl rfl rfl rfl rfl (fZ (by rw[hk]<;>decide) (dX (a:=((x.kind).toNat:Int)) (b:=(4:Int)) rfl rfl)) ?_
 refine lE dT (lE fM (gE aY (gE (cY 4) ?_)))
 refine cU (v:= .bool true) rfl rfl rfl rfl rfl (uM (by rw[hk]<;>decide) (dX (a:=((x.kind).toNat:Int)) (b:=(7:Int)) rfl rfl)) ?_
 refine lE dT (aN (dN rfl (aL ?_)))
 refine jS [sv 32 (.agg #[sB p1 rh.ps (c1),sB p2 rh.hs (c2),Ix (rh.last),Ix (rh.su.a0),Ix (rh.su.a1),Ix (rh.su.a2),Ix (rh.su.a3),.slice p3 (m3) c3]) [] [] [0],sv 33 (pp b2 1) [] [] [1],sv 34 (Ix (x.owner)) [1] [1] [],sv 35 (.agg (eK (dV rh.ps x.owner))) [0,1,2] [0,2] [],sv 36 (pp b2 4) [] [] [1],sv 37 (.agg (eK x.a)) [4] [4] [],sv 38 (.agg (eK ((dV rh.ps x.owner).plus x.a (-1)))) (List.range 6) [3,5] [],⟨[],[],[],[7],fun f=>f 7= .pointer (some ⟨(bY (f 7)),0,none⟩)⟩,⟨(List.range 8),[7,6],[],[],fun _=>True⟩] [u1 [3],u0,u0,u0,u1 [2,5],u1 [0]] [⟨(some 7),(some 8),[8],[7],fun f=>pt (bY (f 7)) (.cells #[.int .i64 (0),.int .i64 (0),.int .i64 (0),.int .i64 (0)] 43)⟩,⟨(some 8),none,[],[7],fun f=>pt (bY (f 7)) (.cells (eK ((dV rh.ps x.owner).plus x.a (-1))) 43)⟩] [(2,pp b1 0),(3,pp b2 0),(4,pp b3 0),(6,pp b4 0)] [0,1,2,3] ⟨rfl,rfl,rfl,rfl,trivial⟩ ⟨?_,?_,?_,?_,?_,?_,?_,?_,?_,trivial⟩ ?_
 ·rintro f M-⟨i0,-⟩
  exact aT (dK 0)
 ·rintro f M-⟨i0,-⟩
  exact aT aY
 ·rintro f M ⟨k0,-⟩-
  exact aT (cY 0)
 ·rintro f M ⟨k0,k1,-⟩-
  refine dL (aA (d:=34) (aA (d:=32) rfl k0) k1) ?_
  refine gI gH (fun w β1 sb kn hw1=>sM β1 w hw1 _ _ _ _ _ _ _ _ (kn _ (yY 0 rfl hsp1)) (by omega) _ rh.su x.owner) (aH ?_)
  exact aO (aA (d:=34) (aA (d:=32) rfl k0) k1) rfl (aB 0 rfl)
 ·rintro f M-⟨i0,-⟩
  exact aT aY
 ·rintro f M ⟨k0,-⟩-
  exact aT (dK 0)
 ·rintro f M ⟨k0,k1,-⟩-
  refine dL (aA (d:=37) (aA (d:=35) rfl k0) k1) ?_
  refine gI gH (fun w β1 sb kn hw1=>pN β1 w hw1 (dV rh.ps x.owner) x.a (-1) (by decide) (oO (jX hb.p _)) (oO (cX hx))) ?_
  refine aH ?_
  exact aO (aA (d:=37) (aA (d:=35) rfl k0) k1) rfl (List.Perm.refl _)
 ·rintro f M- -
  refine dL rfl ?_
  refine gB fun b90=>aH ?_
  exact aO rfl rfl (aB 0 rfl)
 ·rintro f M ⟨k0,k1,-⟩-
  have hs7:f 7= .pointer (some ⟨(bY (f 7)),0,none⟩):=k0
  refine dL (aA (d:=38) (aA rfl hs7) k1) ?_
  refine lu (mS 0 (eK ((dV rh.ps x.owner).plus x.a (-1)))) (aH ?_)
  exact bC (aA (d:=38) (aA rfl hs7) k1) trivial (aB 0 rfl)
 rintro fa91 ⟨-,-,-,-,-,-,-,k7,-,-⟩ ⟨j0,j1,j2,j3,-⟩
 refine jD ?_
 refine aD (d:=2) j0 (aD (d:=3) j1 (aD (d:=4) j2 (aD (d:=6) j3 (aD (d:=7) k7 (qV (bD (lE (dK 6) ?_)))))))
 refine gI gH (fun w β1 sb kn hw1=>lI β1 w hw1 ((dV rh.ps x.owner).plus x.a (-1))) (lE mB (aN ?_))
 refine fH (!(((dV rh.ps x.owner).plus x.a (-1)).within)) rfl (fun hc92=> ?_) (fun hc92=> ?_)
 ·refine bD (lE (dK 5) ?_)
  refine lu (mS 3 (#[sB p1 rh.ps (c1),sB p2 rh.hs (c2),Ix (rh.last),Ix (rh.su.a0),Ix (rh.su.a1),Ix (rh.su.a2),Ix (rh.su.a3),.slice p3 (m3) c3])) ?_
  refine lE bN (aN (aV (aI (aI ?_))))
  refine gK (m:=[.agg #[sB p1 rh.ps (c1),sB p2 rh.hs (c2),Ix (rh.last),Ix (rh.su.a0),Ix (rh.su.a1),Ix (rh.su.a2),Ix (rh.su.a3),.slice p3 (m3) c3],.int .i64 (330)]) Tryz.results99 ⟨bS ts1.ok rfl (cD 3 rfl rfl) rfl,eP (v:= .int .i64 (330)) rfl,trivial⟩ rfl ?_
  intro w hw
  have he:dY rh x=(rh,330):=aJx hb hx (.inr (.inr (.inr hk))) (aHn hc92)
  rw[he]
  have hw:=(hw.emp (r:=gZ fG 130 p2 c2 rh.hs p2 c2 rh.hs) fC).emp (r:=gZ kF 128 p1 c1 rh.ps p1 c1 rh.ps) fC
  exact⟨p1,c1,p2,c2,rfl,aG [true,true,false,false,false,false,false,false,false] rfl hw⟩
 refine eB (bD (lE aY (lE (cY 4) ?_)))
 refine lv (v:= .bool false) (fZ (by rw[hk]<;>decide) (aBi (a:=((x.kind).toNat:Int)) (b:=(7:Int)) rfl rfl)) (aN (cR rfl (eB ?_)))
 refine aL ?_
 refine jS [sv 51 (pp b2 4) [] [] [0],sv 52 (.agg (eK x.a)) [0] [0] [],⟨[],[],[],[9],fun f=>f 9= .pointer (some ⟨(bY (f 9)),0,none⟩)⟩,sv 8 (.int .i64 (0)) [2] [] [],⟨[0,1,2,3],[2,1],[],[],fun _=>True⟩] [u0,u0,u0,u0,u1 [1]] [⟨(some 2),(some 4),[4],[9],fun f=>pt (bY (f 9)) (.cells #[.int .i64 (0),.int .i64 (0),.int .i64 (0),.int .i64 (0)] 43)⟩,⟨(some 4),none,[],[9],fun f=>pt (bY (f 9)) (.cells (eK x.a) 43)⟩] [(3,pp b2 0),(2,pp b1 0),(4,pp b3 0),(6,pp b4 0)] [1,0,2,3] ⟨rfl,rfl,rfl,rfl,trivial⟩ ⟨?_,?_,?_,?_,?_,trivial⟩ ?_
 ·rintro f M-⟨i0,-⟩
  exact aT aY
 ·rintro f M ⟨k0,-⟩-
  exact aT (dK 0)
 ·rintro f M- -
  refine dL rfl ?_
  refine gB fun b94=>aH ?_
  exact aO rfl rfl (aB 0 rfl)
 ·rintro f M- -
  exact aT bN
 ·rintro f M ⟨k0,k1,-⟩-
  have hs9:f 9= .pointer (some ⟨(bY (f 9)),0,none⟩):=k0
  refine dL (aA (d:=52) (aA rfl hs9) k1) ?_
  refine lu (mS 0 (eK x.a)) (aH ?_)
  exact bC (aA (d:=52) (aA rfl hs9) k1) trivial (aB 0 rfl)
 rintro fa95 ⟨-,-,k2,k3,-,-⟩ ⟨j0,j1,j2,j3,-⟩
 refine jD ?_
 refine aD (d:=2) j0 (aD (d:=3) j1 (aD (d:=4) j2 (aD (d:=6) j3 (aD (d:=8) k3 (aD (d:=9) k2 (qV ?_))))))
 refine bD (lE aY (lE (cY 4) (aN (aJ (bD ?_)))))
 refine lv (v:= .bool false) (fZ (by rw[hk]<;>decide) (dX (a:=((x.kind).toNat:Int)) (b:=(1:Int)) rfl rfl)) (lE dP (aN (cR rfl ?_)))
 refine bD (lv (v:= .bool false) (fZ (by rw[hk]<;>decide) (dX (a:=((x.kind).toNat:Int)) (b:=(2:Int)) rfl rfl)) (lE dP (aN ?_)))
 refine cR rfl (bD (lv (v:= .bool false) (fZ (by rw[hk]<;>decide) (dX (a:=((x.kind).toNat:Int)) (b:=(3:Int)) rfl rfl)) (lE dP ?_)))
 refine aN (cR rfl (bD (lv (v:= .bool false) (fZ (by rw[hk]<;>decide) (dX (a:=((x.kind).toNat:Int)) (b:=(4:Int)) rfl rfl)) ?_)))
 refine lE dP (aN (cR rfl (eR (aC ?_))))
 refine lv (v:= .bool false) (fZ (by rw[hk]<;>decide) (dX (a:=((x.kind).toNat:Int)) (b:=(5:Int)) rfl rfl)) (lE dP (aN (cR rfl ?_)))
 refine aC (lv (v:= .bool false) (fZ (by rw[hk]<;>decide) (dX (a:=((x.kind).toNat:Int)) (b:=(6:Int)) rfl rfl)) (lE dP (aN ?_)))
 refine cR rfl (cG (aP (qV (bD (lE aU (lE oQ (aN (cR rfl (eB (bD (lE (dK 2) ?_)))))))))))
 refine lu (mS 3 (#[sB p1 rh.ps (c1),sB p2 rh.hs (c2),Ix (rh.last),Ix (rh.su.a0),Ix (rh.su.a1),Ix (rh.su.a2),Ix (rh.su.a3),.slice p3 (m3) c3])) ?_
 refine lE bN (aN (aV ?_))
 refine gK (m:=[.agg #[sB p1 rh.ps (c1),sB p2 rh.hs (c2),Ix (rh.last),Ix (rh.su.a0),Ix (rh.su.a1),Ix (rh.su.a2),Ix (rh.su.a3),.slice p3 (m3) c3],.int .i64 (0)]) Tryz.results99 ⟨bS ts1.ok rfl (cD 3 rfl rfl) rfl,eP (v:= .int .i64 (0)) rfl,trivial⟩ rfl ?_
 intro w hw
 have he:dY rh x=(rh,0):=(aIl (bIg hb hx hk (pR hc92)) (by decide))
 rw[he]
 have hw:=(hw.emp (r:=gZ fG 130 p2 c2 rh.hs p2 c2 rh.hs) fC).emp (r:=gZ kF 128 p1 c1 rh.ps p1 c1 rh.ps) fC
 exact⟨p1,c1,p2,c2,rfl,aG [true,true,false,false,false,false,false,false,false,false] rfl hw⟩
end Go.Proofs
