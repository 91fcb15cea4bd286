/-
  Own work; plain Lean (Td30, Td8).
-/
import Derived.Test.YtjejfkajcbdgjaaGreatTd29
set_option linter.all false
set_option maxHeartbeats 4000000
namespace Go.Proofs
open Go Go.Sl Go.Td Go.Jn
instance tx0:ZerC Tryz.prog 62 (.agg #[.slice none 0 0,.slice none 0 0,.int .i64 (0),.int .i64 (0),.int .i64 (0),.int .i64 (0),.int .i64 (0),.slice none 0 0]):={}
instance tx1:ZerC Tryz.prog 66 (.agg #[.bool false,.int .i64 (0),.int .i64 (0),.slice none 0 0]):={}
instance tx2:UndC Tryz.prog 69 120:={}
theorem tx3:mF Tryz.prog 69 120 8=true:=by kernel_rfl
instance tx4:TyC Tryz.prog 120 true 8:={}
instance tx5:CfC Tryz.prog 50:={}
instance tx6:TyC Tryz.prog 62 true 8:={}
theorem tx7:xP Tryz.prog 66 [(0,1),(1,1),(2,1),(3,1)]=true:=by kernel_rfl
instance tx8:TyC Tryz.prog 66 true 4:={}
instance tx9:CfC Tryz.prog 51:={}
instance tx10:ZerC Tryz.prog 122 (.agg #[.int .i64 (0),.int .i64 (0),.slice none 0 0,.bool false,.int .i64 (0),.int .i64 (0),.slice none 0 0]):={}
instance tx11:TyC Tryz.prog 122 true 7:={}
instance bGm:CfC Tryz.prog 52:={}
instance tx13:FldC Tryz.prog 122 1 1 1 false:={}
instance tx14:TyC Tryz.prog 3 false 1:={}
instance tx15:FldC Tryz.prog 122 2 2 1 false:={}
instance tx16:TyC Tryz.prog 69 false 1:={}
theorem bIu:yO Tryz.prog 10000 120=some [.int .u8,.int .i64,.int .i64,.int .i64,.int .i64,.int .i64,.int .i64,.int .i64]:=by kernel_rfl
theorem bIv:gC Tryz.prog 120=true:=by kernel_rfl
theorem bIw:Tryz.prog.eqGuardType Tryz.prog.depth 120=false:=by kernel_rfl
instance tx20:FldC Tryz.prog 122 3 3 4 true:={}
theorem aWx(β:Base)(w:World)(hw:St β [] w)(rh:KRh)(p1 p2 p3:Option Addr)(c1 c2 c3:Nat)(hd:List KMh)(hsp1:Sl jW.R β.heap (sB p1 rh.ps c1) rh.ps)(hsp2:Sl fD.R β.heap (sB p2 rh.hs c2) rh.hs)(hsp3:Sl wR.R β.heap (sB p3 hd c3) hd)(hdn:hd.length≤100000)(s0:KSt)(hr0:RelS s0 rh)(hg0:Good2 s0)(hl62:rh.last+16≤4611686018427387904)(au nu:Int)(pa:Option Addr)(ca:Nat)(al:List KAct)(hsa:Sl dI.R β.heap (sB pa al ca) al)(zs:List (KMh×KMem))(hz:∀z∈zs,HdOf z)(hpool:∀z∈zs,MOk β.heap z)(hhd:hd=zs.map (·.1))(hds:rh.ds=zs.map (·.2))(hal:al.length≤100000):Calls Tryz.prog 24 #[.agg #[sB p1 rh.ps c1,sB p2 rh.hs c2,Ix rh.last,Ix rh.su.a0,Ix rh.su.a1,Ix rh.su.a2,Ix rh.su.a3,sB p3 hd c3],Ix au,Ix nu,sB pa al ca] w fun r w'=>(∃R e q k,jT rh au nu al=(rh,R,e)∧r= .returned (.tuple #[.agg #[sB p1 rh.ps c1,sB p2 rh.hs c2,Ix rh.last,Ix rh.su.a0,Ix rh.su.a1,Ix rh.su.a2,Ix rh.su.a3,sB p3 hd c3],.agg #[.bool R.done,Ix R.at_,Ix R.e,sB q R.holds k],Ix e])∧YIn zs q k R.holds∧St β [] w')∨(jT rh au nu al=((eP rh au nu al).1,(eP rh au nu al).2,0)∧cE au nu al=true∧∃p1' c1' p2' c2' p3' c3' q k,r= .returned (.tuple #[.agg #[sB p1' (aS rh rh [] 0 al).1.ps c1',sB p2' (aS rh rh [] 0 al).1.hs c2',Ix (aS rh rh [] 0 al).1.last,Ix (aS rh rh [] 0 al).1.su.a0,Ix (aS rh rh [] 0 al).1.su.a1,Ix (aS rh rh [] 0 al).1.su.a2,Ix (aS rh rh [] 0 al).1.su.a3,sB p3' (⟨au,nu,pa,al.length,ca,(aS rh rh [] 0 al).2.done,(aS rh rh [] 0 al).2.at_,(aS rh rh [] 0 al).2.e,q,(aS rh rh [] 0 al).2.holds.length,k⟩::fX au hd:List KMh) c3'],.agg #[.bool (aS rh rh [] 0 al).2.done,Ix (aS rh rh [] 0 al).2.at_,Ix (aS rh rh [] 0 al).2.e,sB q (aS rh rh [] 0 al).2.holds k],Ix 0])∧St β [gP jW 128 p1 c1 rh.ps p1' c1' (aS rh rh [] 0 al).1.ps,gP fD 130 p2 c2 rh.hs p2' c2' (aS rh rh [] 0 al).1.hs,aM wR 122 p3' c3' (⟨au,nu,pa,al.length,ca,(aS rh rh [] 0 al).2.done,(aS rh rh [] 0 al).2.at_,(aS rh rh [] 0 al).2.e,q,(aS rh rh [] 0 al).2.holds.length,k⟩::fX au hd:List KMh),aM bA 3 q k (aS rh rh [] 0 al).2.holds] w'):=by
 obtain⟨-,hsp1l,hsp1m,hsp1e⟩:=gF hsp1
 obtain⟨-,hsp2l,hsp2m,hsp2e⟩:=gF hsp2
 obtain⟨-,hsp3l,hsp3m,hsp3e⟩:=gF hsp3
 obtain⟨-,hsal,hsam,hsae⟩:=gF hsa
 refine enter (n:=124) Tryz.func24 rfl Tryz.ntmps24 rfl ?_ hw
 refine bE (mA fun b1=> ?_)
 refine gB fun b2=>gB fun b3=>lE bN (eY (lE aX (lE oge ?_)))
 refine yM (decide ((1:Int)≤(au))) (decide ((au)≤(64:Int))) rfl (fun hb4 hk4=> ?_) (fun z5 z6=> ?_)
 ·have hb4p:=of_decide_eq_true hb4
  refine gE aX (gE ole (lE eC ?_))
  exact hk4 _ _
 refine yM ((decide ((1:Int)≤(au)))&&(decide ((au)≤(64:Int)))) (decide ((1:Int)≤(nu))) rfl (fun hb7 hk7=> ?_) (fun z8 z9=> ?_)
 ·refine gE aX (gE oge (lE eC ?_))
  exact hk7 _ _
 refine yM (((decide ((1:Int)≤(au)))&&(decide ((au)≤(64:Int))))&&(decide ((1:Int)≤(nu)))) (decide ((nu)≤(1099511627776:Int))) rfl (fun hb10 hk10=> ?_) (fun z11 z12=> ?_)
 ·refine gE aX (gE ole (lE eC ?_))
  exact hk10 _ _
 refine fY ((((decide ((1:Int)≤(au)))&&(decide ((au)≤(64:Int))))&&(decide ((1:Int)≤(nu))))&&(decide ((nu)≤(1099511627776:Int)))) (decide ((1:Int)≤((al.length:Nat):Int))) rfl (fun hb13 hk13=> ?_) (fun z14 z15 z16=> ?_)
 ·refine gE fN (gE gO (gE oge (lE eC ?_)))
  exact hk13 _ _ _
 refine fY (((((decide ((1:Int)≤(au)))&&(decide ((au)≤(64:Int))))&&(decide ((1:Int)≤(nu))))&&(decide ((nu)≤(1099511627776:Int))))&&(decide ((1:Int)≤((al.length:Nat):Int)))) (decide (((al.length:Nat):Int)≤(16:Int))) rfl (fun hb17 hk17=> ?_) (fun z18 z19 z20=> ?_)
 ·refine gE fN (gE gO (gE ole (lE eC ?_)))
  exact hk17 _ _ _
 refine lE dW (aN (eS ?_))
 obtain⟨E,hE⟩:∃E:Bool,E=((((((decide ((1:Int)≤(au)))&&(decide ((au)≤(64:Int))))&&(decide ((1:Int)≤(nu))))&&(decide ((nu)≤(1099511627776:Int))))&&(decide ((1:Int)≤((al.length:Nat):Int))))&&(decide (((al.length:Nat):Int)≤(16:Int)))):=⟨_,rfl⟩
 refine bM 11 (v:= .bool E) (by rw[hE];rfl) (aC (lE bN (aN (aK ?_))))
 refine dB (fun(x_:Nat×Bool) f L=>match x_ with|(k,ok)=>(f 1=Ix (au)∧f 2=Ix (nu)∧f 3=sB pa al (ca)∧f 4=pp b1 0∧f 8=pp b2 0∧f 9=pp b3 0∧f 11= .bool (ok)∧f 12=Nx (k))∧L=[pt b3 (.cells #[.bool false,.int .i64 (0),.int .i64 (0),.slice none 0 0] 66),pt b2 (.cells #[.slice none 0 0,.slice none 0 0,.int .i64 (0),.int .i64 (0),.int .i64 (0),.int .i64 (0),.int .i64 (0),.slice none 0 0] 62),pt b1 (.cells #[sB p1 rh.ps (c1),sB p2 rh.hs (c2),Ix (rh.last),Ix (rh.su.a0),Ix (rh.su.a1),Ix (rh.su.a2),Ix (rh.su.a3),sB p3 hd (c3)] 62)]∧(k≤al.length∧ok=(E&& !(al.take k).any fun z=> !z.formed))) (fun(k,ok)=>al.length-k) (0,E) ?_ ?_
 ·exact⟨⟨rfl,rfl,rfl,rfl,rfl,rfl,rfl,rfl⟩,rfl,⟨Nat.zero_le _,by simp⟩⟩
 rintro⟨k,ok⟩ f0 L0 ⟨⟨hs1,hs2,hs3,hs4,hs8,hs9,hs11,hs12⟩,hL,⟨hk,hok⟩⟩
 subst L0
 refine bM 1 hs1 (bM 2 hs2 (bM 3 hs3 (bM 4 hs4 (bM 8 hs8 (bM 9 hs9 (bM 11 hs11 (bM 12 hs12 (eS (aC (lE aX (lE fN (lE gO (lE gH ?_)))))))))))))
 refine aN (cG _ rfl (fun hc21=> ?_) (fun hc21=> ?_))
 ·refine eF (aL (aK ?_))
  obtain⟨x22,hx23⟩:=kO al k (by omega)
  obtain⟨ha24,cs25,hc26,rfl⟩:=hsae _ _ hx23
  refine aC (lE fJ (oD ok x22.formed rfl (fun hb28 hk28=> ?_) (fun z29 z30 z31 z32 z33=> ?_)))
  ·refine gE fN (gE aX (gE (sJ tx3 ha24) ?_))
   refine cL (v:= .agg #[Bx (x22.kind),Ix (x22.owner),Ix (x22.other),Ix (x22.hold),Ix (x22.a.a0),Ix (x22.a.a1),Ix (x22.a.a2),Ix (x22.a.a3)]) rfl rfl rfl rfl rfl (fS tx4.ok rfl (kB hc26) rfl) ?_
   refine eK rfl rfl rfl rfl rfl (cK (vs:=[.agg #[Bx (x22.kind),Ix (x22.owner),Ix (x22.other),Ix (x22.hold),Ix (x22.a.a0),Ix (x22.a.a1),Ix (x22.a.a2),Ix (x22.a.a3)]]) tx5.ok rfl rfl) ?_
   intro w hw
   obtain⟨β1,sb,kn,hw1,back⟩:=St.frame_all hw
   refine(aIl β1 w hw1 x22).mono ?_
   rintro e w' ⟨rfl,hw'⟩
   refine⟨_,rfl,_,back _ _ hw',?_⟩
   refine lE eC ?_
   exact hk28 _ _ _ _ _
  refine lE dW (aH (aR (bD (aC (lE aX (lv (v:=Nx (k+1)) (bX rfl rfl (dA (by omega) (by omega))) (lE bN (aH ?_))))))))
  exact bI ⟨(k+1,(ok&&x22.formed)),⟨⟨rfl,rfl,rfl,rfl,rfl,rfl,rfl,rfl⟩,rfl,⟨by omega,by rw[aOu hx23,hok,Bool.and_assoc]⟩⟩,(show al.length-(k+1)<al.length-k from by omega)⟩
 refine cM (aG (aG (cN (rT (aL ?_)))))
 have hdf:ok=cE au nu al:=by rw[hok,List.take_of_length_le (by omega),hE];rfl
 refine aC (lE fJ (lE lX (aN (fE (!ok) rfl (fun hc34=> ?_) (fun hc34=> ?_)))))
 ·refine bE (lE (dD 2) ?_)
  refine lv (v:= .agg #[.bool false,.int .i64 (0),.int .i64 (0),.slice none 0 0]) (cR tx1.ok tx7 (vs:=[]) (cells:= #[.bool false,.int .i64 (0),.int .i64 (0),.slice none 0 0]) rfl rfl) ?_
  refine lu (mS 1 (#[sB p1 rh.ps (c1),sB p2 rh.hs (c2),Ix (rh.last),Ix (rh.su.a0),Ix (rh.su.a1),Ix (rh.su.a2),Ix (rh.su.a3),sB p3 hd (c3)])) ?_
  refine lu (mS 0 (#[.bool false,.int .i64 (0),.int .i64 (0),.slice none 0 0])) (lE bN (aN (aT (aI ?_))))
  refine gA (m:=[.agg #[sB p1 rh.ps (c1),sB p2 rh.hs (c2),Ix (rh.last),Ix (rh.su.a0),Ix (rh.su.a1),Ix (rh.su.a2),Ix (rh.su.a3),sB p3 hd (c3)],.agg #[.bool false,.int .i64 (0),.int .i64 (0),.slice none 0 0],.int .i64 (2)]) Tryz.results24 ⟨bQ tx6.ok rfl (bY 1 rfl rfl) rfl,bQ tx8.ok rfl (bY 0 rfl rfl) rfl,eL (v:= .int .i64 (2)) rfl,trivial⟩ rfl ?_
  intro w hw
  refine .inl ⟨dK,2,none,0,aUr (by rw[←hdf];cases ok<;>simp_all),?_,.inl ⟨rfl,rfl,rfl⟩,aF [false,false,false] rfl hw⟩
  rfl
 refine eF (aL ?_)
 have hfm:cE au nu al=true:=by rw[←hdf];cases ok<;>simp_all
 obtain⟨-,-,han,hfa⟩:=fG.1 hfm
 rcases hfz:lS hd au with _|m
 ·have hrf:=aJt hz (hhd▸hfz)
  rw[←hds]at hrf
  refine aC (lE (dD 2) (lE aX ?_))
  refine iF iE (fun w β1 sb kn hw1=>uR β1 w hw1 _ _ _ _ _ _ _ _ _ hd (Sl.mono _ _ _ _ _ sb hsp3) (by omega) au wQ false (by rw[hfz];rfl) (by rw[hfz];rfl)) ?_
  refine lE oE (lE qS (lE xK (gB fun b35=> ?_)))
  refine lu (mS 0 (#[.int .i64 (0),.int .i64 (0),.slice none 0 0,.bool false,.int .i64 (0),.int .i64 (0),.slice none 0 0])) (lE dW (aN (eS ?_)))
  refine aC (lE fJ (lE fJ (iG (iG (iG (iG (lE dP (aN (cY rfl (eF (eS (aC (lE fJ (lE fJ (iG (iG (iG (iG (lE dP (aN ?_))))))))))))))))))))
  refine cY rfl (eF (bE (lE (dD 3) (lE aX (lE aX (lE fN ?_))))))
  refine pN (cK (vs:=[.agg #[sB p1 rh.ps (c1),sB p2 rh.hs (c2),Ix (rh.last),Ix (rh.su.a0),Ix (rh.su.a1),Ix (rh.su.a2),Ix (rh.su.a3),sB p3 hd (c3)],Ix (au),Ix (nu),sB pa al (ca)]) bGm.ok rfl rfl) rfl fun w β1 sb kn hw1 back=>(aBm β1 w hw1 rh p1 p2 p3 c1 c2 c3 hd (Sl.mono _ _ _ _ _ sb hsp1) (Sl.mono _ _ _ _ _ sb hsp2) (Sl.mono _ _ _ _ _ sb hsp3) hdn s0 hr0 hg0 hl62 au nu pa ca al (Sl.mono _ _ _ _ _ sb hsa) hfa (by omega) (aS rh rh [] 0 al) rfl).mono ?_
  rintro e w' ⟨pp36,pc37,hp38,hc39,dp40,dc41,q42,qk43,rfl,hw'⟩
  refine⟨_,rfl,_,back _ _ hw',?_⟩
  refine lE oE (lE qS (lE qS (gB fun b44=>gB fun b45=> ?_)))
  refine lu (mS 1 (#[sB pp36 (aS rh rh [] 0 al).1.ps pc37,sB hp38 (aS rh rh [] 0 al).1.hs hc39,Ix ((aS rh rh [] 0 al).1.last),Ix ((aS rh rh [] 0 al).1.su.a0),Ix ((aS rh rh [] 0 al).1.su.a1),Ix ((aS rh rh [] 0 al).1.su.a2),Ix ((aS rh rh [] 0 al).1.su.a3),sB dp40 (⟨au,nu,pa,al.length,ca,(aS rh rh [] 0 al).2.done,(aS rh rh [] 0 al).2.at_,(aS rh rh [] 0 al).2.e,q42,(aS rh rh [] 0 al).2.holds.length,qk43⟩::fX au hd:List KMh) dc41])) ?_
  refine lu (mS 0 (#[.bool ((aS rh rh [] 0 al).2.done),Ix ((aS rh rh [] 0 al).2.at_),Ix ((aS rh rh [] 0 al).2.e),sB q42 (aS rh rh [] 0 al).2.holds qk43])) ?_
  refine aN (aL ?_)
  refine jH [sv 122 (.agg #[sB pp36 (aS rh rh [] 0 al).1.ps pc37,sB hp38 (aS rh rh [] 0 al).1.hs hc39,Ix ((aS rh rh [] 0 al).1.last),Ix ((aS rh rh [] 0 al).1.su.a0),Ix ((aS rh rh [] 0 al).1.su.a1),Ix ((aS rh rh [] 0 al).1.su.a2),Ix ((aS rh rh [] 0 al).1.su.a3),sB dp40 (⟨au,nu,pa,al.length,ca,(aS rh rh [] 0 al).2.done,(aS rh rh [] 0 al).2.at_,(aS rh rh [] 0 al).2.e,q42,(aS rh rh [] 0 al).2.holds.length,qk43⟩::fX au hd:List KMh) dc41]) [] [] [0],sv 123 (.agg #[.bool ((aS rh rh [] 0 al).2.done),Ix ((aS rh rh [] 0 al).2.at_),Ix ((aS rh rh [] 0 al).2.e),sB q42 (aS rh rh [] 0 al).2.holds qk43]) [] [] [1],⟨[0],[0],[2],[],fun _=>True⟩,⟨[0,1,2],[1],[3],[],fun _=>True⟩,sv 10 (.int .i64 (0)) [0,1,2,3] [] []] [u1 [1],u1 [0],u0,u0,u0,u0,u0,(some 3,[3]),(some 2,[2])] [⟨(some 2),none,[],[],fun _=>pt b2 (.cells #[sB pp36 (aS rh rh [] 0 al).1.ps pc37,sB hp38 (aS rh rh [] 0 al).1.hs hc39,Ix ((aS rh rh [] 0 al).1.last),Ix ((aS rh rh [] 0 al).1.su.a0),Ix ((aS rh rh [] 0 al).1.su.a1),Ix ((aS rh rh [] 0 al).1.su.a2),Ix ((aS rh rh [] 0 al).1.su.a3),sB dp40 (⟨au,nu,pa,al.length,ca,(aS rh rh [] 0 al).2.done,(aS rh rh [] 0 al).2.at_,(aS rh rh [] 0 al).2.e,q42,(aS rh rh [] 0 al).2.holds.length,qk43⟩::fX au hd:List KMh) dc41] 62)⟩,⟨(some 3),none,[],[],fun _=>pt b3 (.cells #[.bool ((aS rh rh [] 0 al).2.done),Ix ((aS rh rh [] 0 al).2.at_),Ix ((aS rh rh [] 0 al).2.e),sB q42 (aS rh rh [] 0 al).2.holds qk43] 66)⟩] [(17,pp b44 0),(18,pp b45 0),(8,pp b2 0),(9,pp b3 0)] [2,3] ⟨rfl,rfl,rfl,rfl,trivial⟩ ⟨?_,?_,?_,?_,?_,trivial⟩ ?_
  ·rintro f M-⟨i0,-⟩
   exact aU (dD 0)
  ·rintro f M-⟨i0,-⟩
   exact aU (dD 0)
  ·rintro f M ⟨k0,-⟩ ⟨i0,-⟩
   refine dU (aB (d:=122) (aB (d:=8) rfl i0) k0) ?_
   refine lu (mS 0 (#[sB pp36 (aS rh rh [] 0 al).1.ps pc37,sB hp38 (aS rh rh [] 0 al).1.hs hc39,Ix ((aS rh rh [] 0 al).1.last),Ix ((aS rh rh [] 0 al).1.su.a0),Ix ((aS rh rh [] 0 al).1.su.a1),Ix ((aS rh rh [] 0 al).1.su.a2),Ix ((aS rh rh [] 0 al).1.su.a3),sB dp40 (⟨au,nu,pa,al.length,ca,(aS rh rh [] 0 al).2.done,(aS rh rh [] 0 al).2.at_,(aS rh rh [] 0 al).2.e,q42,(aS rh rh [] 0 al).2.holds.length,qk43⟩::fX au hd:List KMh) dc41])) ?_
   refine aH ?_
   exact bB (aB (d:=122) (aB (d:=8) rfl i0) k0) trivial (aA 0 rfl)
  ·rintro f M ⟨k0,-⟩ ⟨i0,-⟩
   refine dU (aB (d:=123) (aB (d:=9) rfl i0) k0) ?_
   refine lu (mS 0 (#[.bool ((aS rh rh [] 0 al).2.done),Ix ((aS rh rh [] 0 al).2.at_),Ix ((aS rh rh [] 0 al).2.e),sB q42 (aS rh rh [] 0 al).2.holds qk43])) ?_
   refine aH ?_
   exact bB (aB (d:=123) (aB (d:=9) rfl i0) k0) trivial (aA 0 rfl)
  ·rintro f M- -
   exact aU bN
  rintro fa46 ⟨-,-,-,-,k4,-⟩ ⟨j0,j1,-⟩
  refine jI ?_
  refine aD (d:=8) j0 (aD (d:=9) j1 (aD (d:=10) k4 (ftr ?_)))
  refine gA (m:=[.agg #[sB pp36 (aS rh rh [] 0 al).1.ps pc37,sB hp38 (aS rh rh [] 0 al).1.hs hc39,Ix ((aS rh rh [] 0 al).1.last),Ix ((aS rh rh [] 0 al).1.su.a0),Ix ((aS rh rh [] 0 al).1.su.a1),Ix ((aS rh rh [] 0 al).1.su.a2),Ix ((aS rh rh [] 0 al).1.su.a3),sB dp40 (⟨au,nu,pa,al.length,ca,(aS rh rh [] 0 al).2.done,(aS rh rh [] 0 al).2.at_,(aS rh rh [] 0 al).2.e,q42,(aS rh rh [] 0 al).2.holds.length,qk43⟩::fX au hd:List KMh) dc41],.agg #[.bool ((aS rh rh [] 0 al).2.done),Ix ((aS rh rh [] 0 al).2.at_),Ix ((aS rh rh [] 0 al).2.e),sB q42 (aS rh rh [] 0 al).2.holds qk43],.int .i64 (0)]) Tryz.results24 ⟨bQ tx6.ok rfl (bY 8 rfl rfl) rfl,bQ tx8.ok rfl (bY 9 rfl rfl) rfl,eL (v:= .int .i64 (0)) rfl,trivial⟩ rfl ?_
  intro w hw
  replace hw:=hw.perm (L':=[gP jW 128 p1 c1 rh.ps pp36 pc37 ((aS rh rh [] 0 al).1.ps),gP fD 130 p2 c2 rh.hs hp38 hc39 ((aS rh rh [] 0 al).1.hs),aM wR 122 dp40 dc41 (⟨au,nu,pa,al.length,ca,(aS rh rh [] 0 al).2.done,(aS rh rh [] 0 al).2.at_,(aS rh rh [] 0 al).2.e,q42,(aS rh rh [] 0 al).2.holds.length,qk43⟩::fX au hd:List KMh),aM bA 3 q42 qk43 ((aS rh rh [] 0 al).2.holds),pt b45 (.cells #[.bool ((aS rh rh [] 0 al).2.done),Ix ((aS rh rh [] 0 al).2.at_),Ix ((aS rh rh [] 0 al).2.e),sB q42 (aS rh rh [] 0 al).2.holds qk43] 66),pt b44 (.cells #[sB pp36 (aS rh rh [] 0 al).1.ps pc37,sB hp38 (aS rh rh [] 0 al).1.hs hc39,Ix ((aS rh rh [] 0 al).1.last),Ix ((aS rh rh [] 0 al).1.su.a0),Ix ((aS rh rh [] 0 al).1.su.a1),Ix ((aS rh rh [] 0 al).1.su.a2),Ix ((aS rh rh [] 0 al).1.su.a3),sB dp40 (⟨au,nu,pa,al.length,ca,(aS rh rh [] 0 al).2.done,(aS rh rh [] 0 al).2.at_,(aS rh rh [] 0 al).2.e,q42,(aS rh rh [] 0 al).2.holds.length,qk43⟩::fX au hd:List KMh) dc41] 62),pt b35 (.cells #[.int .i64 (0),.int .i64 (0),.slice none 0 0,.bool false,.int .i64 (0),.int .i64 (0),.slice none 0 0] 122),pt b1 (.cells #[sB p1 rh.ps (c1),sB p2 rh.hs (c2),Ix (rh.last),Ix (rh.su.a0),Ix (rh.su.a1),Ix (rh.su.a2),Ix (rh.su.a3),sB p3 hd (c3)] 62),pt b2 (.cells #[sB pp36 (aS rh rh [] 0 al).1.ps pc37,sB hp38 (aS rh rh [] 0 al).1.hs hc39,Ix ((aS rh rh [] 0 al).1.last),Ix ((aS rh rh [] 0 al).1.su.a0),Ix ((aS rh rh [] 0 al).1.su.a1),Ix ((aS rh rh [] 0 al).1.su.a2),Ix ((aS rh rh [] 0 al).1.su.a3),sB dp40 (⟨au,nu,pa,al.length,ca,(aS rh rh [] 0 al).2.done,(aS rh rh [] 0 al).2.at_,(aS rh rh [] 0 al).2.e,q42,(aS rh rh [] 0 al).2.holds.length,qk43⟩::fX au hd:List KMh) dc41] 62),pt b3 (.cells #[.bool ((aS rh rh [] 0 al).2.done),Ix ((aS rh rh [] 0 al).2.at_),Ix ((aS rh rh [] 0 al).2.e),sB q42 (aS rh rh [] 0 al).2.holds qk43] 66)]) (by exact(aV [2,3,4,5,0,1,6,7,8,9] 10 rfl (by kernel_rfl) (by kernel_rfl)))
  replace hw:=aF (L':=[gP jW 128 p1 c1 rh.ps pp36 pc37 ((aS rh rh [] 0 al).1.ps),gP fD 130 p2 c2 rh.hs hp38 hc39 ((aS rh rh [] 0 al).1.hs),aM wR 122 dp40 dc41 (⟨au,nu,pa,al.length,ca,(aS rh rh [] 0 al).2.done,(aS rh rh [] 0 al).2.at_,(aS rh rh [] 0 al).2.e,q42,(aS rh rh [] 0 al).2.holds.length,qk43⟩::fX au hd:List KMh),aM bA 3 q42 qk43 ((aS rh rh [] 0 al).2.holds)]) [true,true,true,true,false,false,false,false,false,false] rfl hw
  exact .inr ⟨aLq hfm hrf,hfm,pp36,pc37,hp38,hc39,dp40,dc41,q42,qk43,rfl,hw⟩
 obtain⟨mm,hmz,hrf⟩:=aJu hz (hhd▸hfz)
 rw[←hds]at hrf
 have hmo:=hpool _ hmz
 have hmnu:=hmo.nu
 have hma:=hmo.acts
 obtain⟨hmn,hml,hmx,hme⟩:=gF hma
 have hmh:=(gF hmo.holds).1
 simp only[]at hmnu hmn hml hmx hme hma hmh
 refine aC (lE (dD 2) (lE aX ?_))
 refine iF iE (fun w β1 sb kn hw1=>uR β1 w hw1 _ _ _ _ _ _ _ _ _ hd (Sl.mono _ _ _ _ _ sb hsp3) (by omega) au m true (by rw[hfz];rfl) (by rw[hfz];rfl)) ?_
 refine lE oE (lE qS (lE xK (gB fun b47=> ?_)))
 refine lu (mS 0 (#[Ix (m.author),Ix (m.number),.slice m.p (m.n) m.c,.bool (m.done),Ix (m.at_),Ix (m.e),.slice m.q (m.m) m.k])) (lE dW (aN (eS ?_)))
 refine aC (lE fJ (lE fJ (gE aY (gE (cQ 0) (gE aX (gE eZ (lE eC (aN (cG _ rfl (fun hc48=> ?_) (fun hc48=> ?_))))))))))
 ·refine bE (lE aY (lE (fR 0) (lE gO (lE fN (lE gO (lE eZ (lE dW (aN (eS ?_)))))))))
  refine bM 15 (v:= .bool (decide (mm.d.acts.length=al.length))) (congrArg Value.bool (decide_eq_decide.2 (by omega))) (aC (lE bN (aN ?_)))
  refine aK ?_
  refine dB (fun(x_:Nat×Bool) f L=>match x_ with|(j,sm)=>(f 3=sB pa al (ca)∧f 4=pp b1 0∧f 8=pp b2 0∧f 9=pp b3 0∧f 13=pp b47 0∧f 15= .bool (sm)∧f 16=Nx (j))∧L=[pt b47 (.cells #[Ix (m.author),Ix (m.number),.slice m.p (m.n) (m.c),.bool (m.done),Ix (m.at_),Ix (m.e),.slice m.q (m.m) m.k] 122),pt b3 (.cells #[.bool false,.int .i64 (0),.int .i64 (0),.slice none 0 0] 66),pt b2 (.cells #[.slice none 0 0,.slice none 0 0,.int .i64 (0),.int .i64 (0),.int .i64 (0),.int .i64 (0),.int .i64 (0),.slice none 0 0] 62),pt b1 (.cells #[sB p1 rh.ps (c1),sB p2 rh.hs (c2),Ix (rh.last),Ix (rh.su.a0),Ix (rh.su.a1),Ix (rh.su.a2),Ix (rh.su.a3),sB p3 hd (c3)] 62)]∧(j≤al.length∧sm=decide (mm.d.acts.length=al.length∧mm.d.acts.take j=al.take j))) (fun(j,sm)=>al.length-j) (0,(decide (mm.d.acts.length=al.length))) ?_ ?_
  ·exact⟨⟨rfl,rfl,rfl,rfl,rfl,rfl,rfl⟩,rfl,⟨Nat.zero_le _,aPq⟩⟩
  rintro⟨j,sm⟩ f0 L0 ⟨⟨hs3,hs4,hs8,hs9,hs13,hs15,hs16⟩,hL,⟨hj,hsm⟩⟩
  subst L0
  refine bM 3 hs3 (bM 4 hs4 (bM 8 hs8 (bM 9 hs9 (bM 13 hs13 (bM 15 hs15 (bM 16 hs16 (eS (aC (lE aX (lE fN (lE gO (lE gH ?_))))))))))))
  refine bBm (decide (((j:Nat):Int)<((al.length:Nat):Int))) sm rfl (fun hb49 hk49=> ?_) (fun z50=> ?_)
  ·have hb49p:=of_decide_eq_true hb49
   refine gE fJ (lE eC ?_)
   exact hk49 _
  refine aN (fE (((decide (((j:Nat):Int)<((al.length:Nat):Int)))&&sm)) rfl (fun hc51=> ?_) (fun hc51=> ?_))
  ·refine eF (aL (aK ?_))
   have hand:=hc51
   rw[Bool.and_eq_true]at hand
   have hkl:j<al.length:=by have:=of_decide_eq_true hand.1;omega
   have hsmt:=hand.2
   subst hsmt
   have hlen:=(of_decide_eq_true hsm.symm).1
   refine gK (by kernel_rfl) (by kernel_rfl) (qE aY (qE (fR 0) (qE aX ?_)))
   obtain⟨x52,hx53⟩:=kO mm.d.acts j (by omega)
   obtain⟨ha54,cs55,hc56,rfl⟩:=hme _ _ hx53
   refine qE (sJ tx3 ha54) ?_
   refine dQ (v:= .agg #[Bx (x52.kind),Ix (x52.owner),Ix (x52.other),Ix (x52.hold),Ix (x52.a.a0),Ix (x52.a.a1),Ix (x52.a.a2),Ix (x52.a.a3)]) rfl rfl rfl (fS tx4.ok rfl (kB hc56) rfl) ?_
   refine qE fN (qE aX ?_)
   obtain⟨x58,hx59⟩:=kO al j (by omega)
   obtain⟨ha60,cs61,hc62,rfl⟩:=hsae _ _ hx59
   refine qE (sJ tx3 ha60) ?_
   refine dQ (v:= .agg #[Bx (x58.kind),Ix (x58.owner),Ix (x58.other),Ix (x58.hold),Ix (x58.a.a0),Ix (x58.a.a1),Ix (x58.a.a2),Ix (x58.a.a3)]) rfl rfl rfl (fS tx4.ok rfl (kB hc62) rfl) ?_
   refine dQ (v:= .bool (decide (x52=x58))) rfl rfl rfl (pU (xs:=vB x52) (ys:=vB x58) bIu bIv bIw rfl rfl rfl rfl (aHd (x:=x52) (y:=x58))) ?_
   refine qE dW (kS (aR (bD (aC (lE aX (lv (v:=Nx (j+1)) (bX rfl rfl (dA (by omega) (by omega))) (lE bN (aH ?_))))))))
   exact bI ⟨(j+1,decide (x52=x58)),⟨⟨rfl,rfl,rfl,rfl,rfl,rfl,rfl⟩,rfl,⟨by omega,aPp hx53 hx59 hsm⟩⟩,(show al.length-(j+1)<al.length-j from by omega)⟩
  refine cM (aG (aG (cN (rT (aL ?_)))))
  have hsd:sm=decide (mm.d.acts=al):=by
   rcases Bool.and_eq_false_iff.1 (show(decide (((j:Nat):Int)<((al.length:Nat):Int))&&sm)=false from hc51)with h1|h1
   ·exact aPo (by have:=of_decide_eq_false h1;omega) hsm
   ·exact aUz h1 hsm
  refine aC (lE fJ (aN (fE (sm) rfl (fun hc64=> ?_) (fun hc64=> ?_))))
  ·refine aL ?_
   refine jH [sv 100 (.agg #[sB p1 rh.ps (c1),sB p2 rh.hs (c2),Ix (rh.last),Ix (rh.su.a0),Ix (rh.su.a1),Ix (rh.su.a2),Ix (rh.su.a3),sB p3 hd (c3)]) [] [] [0],sv 101 (pp b47 3) [] [] [1],sv 102 (.agg #[.bool (m.done),Ix (m.at_),Ix (m.e),.slice m.q (m.m) m.k]) [1] [1] [],⟨[0],[0],[2],[],fun _=>True⟩,⟨[0,1,2,3],[2],[3],[],fun _=>True⟩,sv 10 (.int .i64 (0)) [0,1,2,3,4] [] []] [u1 [2],(some 4,[4]),(some 3,[3]),u1 [0]] [⟨(some 3),none,[],[],fun _=>pt b2 (.cells #[sB p1 rh.ps (c1),sB p2 rh.hs (c2),Ix (rh.last),Ix (rh.su.a0),Ix (rh.su.a1),Ix (rh.su.a2),Ix (rh.su.a3),sB p3 hd (c3)] 62)⟩,⟨(some 4),none,[],[],fun _=>pt b3 (.cells #[.bool (m.done),Ix (m.at_),Ix (m.e),.slice m.q (m.m) m.k] 66)⟩] [(4,pp b1 0),(13,pp b47 0),(8,pp b2 0),(9,pp b3 0)] [2,3] ⟨rfl,rfl,rfl,rfl,trivial⟩ ⟨?_,?_,?_,?_,?_,?_,trivial⟩ ?_
   ·rintro f M-⟨i0,-⟩
    exact aU (dD 0)
   ·rintro f M-⟨i0,-⟩
    exact aU aY
   ·rintro f M ⟨k0,-⟩-
    exact aU (dD 0)
   ·rintro f M ⟨k0,-⟩ ⟨i0,-⟩
    refine dU (aB (d:=100) (aB (d:=8) rfl i0) k0) ?_
    refine lu (mS 0 (#[sB p1 rh.ps (c1),sB p2 rh.hs (c2),Ix (rh.last),Ix (rh.su.a0),Ix (rh.su.a1),Ix (rh.su.a2),Ix (rh.su.a3),sB p3 hd (c3)])) (aH ?_)
    exact bB (aB (d:=100) (aB (d:=8) rfl i0) k0) trivial (aA 0 rfl)
   ·rintro f M ⟨k0,-⟩ ⟨i0,-⟩
    refine dU (aB (d:=102) (aB (d:=9) rfl i0) k0) ?_
    refine lu (mS 0 (#[.bool (m.done),Ix (m.at_),Ix (m.e),.slice m.q (m.m) m.k])) (aH ?_)
    exact bB (aB (d:=102) (aB (d:=9) rfl i0) k0) trivial (aA 0 rfl)
   ·rintro f M- -
    exact aU bN
   rintro fa65 ⟨-,-,-,-,-,k5,-⟩ ⟨j0,j1,-⟩
   refine jI ?_
   refine aD (d:=8) j0 (aD (d:=9) j1 (aD (d:=10) k5 (ftr (aI (aI ?_)))))
   refine gA (m:=[.agg #[sB p1 rh.ps (c1),sB p2 rh.hs (c2),Ix (rh.last),Ix (rh.su.a0),Ix (rh.su.a1),Ix (rh.su.a2),Ix (rh.su.a3),sB p3 hd (c3)],.agg #[.bool (m.done),Ix (m.at_),Ix (m.e),.slice m.q (m.m) m.k],.int .i64 (0)]) Tryz.results24 ⟨bQ tx6.ok rfl (bY 2 rfl rfl) rfl,bQ tx8.ok rfl (bY 3 rfl rfl) rfl,eL (v:= .int .i64 (0)) rfl,trivial⟩ rfl ?_
   intro w hw
   refine .inl ⟨mm.r,0,m.q,m.k,aOw hfm hrf (by omega) (of_decide_eq_true (hsd.symm.trans hc64)),?_,.inr ⟨_,hmz,rfl,rfl,rfl⟩,aF [false,false,false,false] rfl hw⟩
   unfold sB rsv;rw[←show m.done=mm.r.done from hmo.dn,←show m.at_=mm.r.at_ from hmo.at_,←show m.e=mm.r.e from hmo.e,←hmh];try rfl
  refine eF (bE (lE (dD 3) ?_))
  refine lv (v:= .agg #[.bool false,.int .i64 (0),.int .i64 (0),.slice none 0 0]) (cR tx1.ok tx7 (vs:=[]) (cells:= #[.bool false,.int .i64 (0),.int .i64 (0),.slice none 0 0]) rfl rfl) ?_
  refine lu (mS 2 (#[sB p1 rh.ps (c1),sB p2 rh.hs (c2),Ix (rh.last),Ix (rh.su.a0),Ix (rh.su.a1),Ix (rh.su.a2),Ix (rh.su.a3),sB p3 hd (c3)])) ?_
  refine lu (mS 1 (#[.bool false,.int .i64 (0),.int .i64 (0),.slice none 0 0])) (lE bN (aN (aT (aI ?_))))
  refine gA (m:=[.agg #[sB p1 rh.ps (c1),sB p2 rh.hs (c2),Ix (rh.last),Ix (rh.su.a0),Ix (rh.su.a1),Ix (rh.su.a2),Ix (rh.su.a3),sB p3 hd (c3)],.agg #[.bool false,.int .i64 (0),.int .i64 (0),.slice none 0 0],.int .i64 (331)]) Tryz.results24 ⟨bQ tx6.ok rfl (bY 2 rfl rfl) rfl,bQ tx8.ok rfl (bY 1 rfl rfl) rfl,eL (v:= .int .i64 (331)) rfl,trivial⟩ rfl ?_
  intro w hw
  refine .inl ⟨dK,331,none,0,aLr hfm hrf (by omega) (of_decide_eq_false (hsd.symm.trans hc64)),?_,.inl ⟨rfl,rfl,rfl⟩,aF [false,false,false,false] rfl hw⟩
  rfl
 refine eF (eS (aC (lE fJ (lE fJ (gE aY (gE (cQ 0) (gE aX (gE oG (lE eC (aN (cG _ rfl (fun hc66=> ?_) (fun hc66=> ?_))))))))))))
 ·refine bE (lE (dD 3) ?_)
  refine lv (v:= .agg #[.bool false,.int .i64 (0),.int .i64 (0),.slice none 0 0]) (cR tx1.ok tx7 (vs:=[]) (cells:= #[.bool false,.int .i64 (0),.int .i64 (0),.slice none 0 0]) rfl rfl) ?_
  refine lu (mS 2 (#[sB p1 rh.ps (c1),sB p2 rh.hs (c2),Ix (rh.last),Ix (rh.su.a0),Ix (rh.su.a1),Ix (rh.su.a2),Ix (rh.su.a3),sB p3 hd (c3)])) ?_
  refine lu (mS 1 (#[.bool false,.int .i64 (0),.int .i64 (0),.slice none 0 0])) (lE bN (aN (aT (aI ?_))))
  refine gA (m:=[.agg #[sB p1 rh.ps (c1),sB p2 rh.hs (c2),Ix (rh.last),Ix (rh.su.a0),Ix (rh.su.a1),Ix (rh.su.a2),Ix (rh.su.a3),sB p3 hd (c3)],.agg #[.bool false,.int .i64 (0),.int .i64 (0),.slice none 0 0],.int .i64 (332)]) Tryz.results24 ⟨bQ tx6.ok rfl (bY 2 rfl rfl) rfl,bQ tx8.ok rfl (bY 1 rfl rfl) rfl,eL (v:= .int .i64 (332)) rfl,trivial⟩ rfl ?_
  intro w hw
  refine .inl ⟨dK,332,none,0,aUt hfm hrf (by omega) (by omega),?_,.inl ⟨rfl,rfl,rfl⟩,aF [false,false,false,false] rfl hw⟩
  rfl
 refine eF (bE (lE (dD 3) (lE aX (lE aX (lE fN ?_)))))
 refine pN (cK (vs:=[.agg #[sB p1 rh.ps (c1),sB p2 rh.hs (c2),Ix (rh.last),Ix (rh.su.a0),Ix (rh.su.a1),Ix (rh.su.a2),Ix (rh.su.a3),sB p3 hd (c3)],Ix (au),Ix (nu),sB pa al (ca)]) bGm.ok rfl rfl) rfl fun w β1 sb kn hw1 back=>(aBm β1 w hw1 rh p1 p2 p3 c1 c2 c3 hd (Sl.mono _ _ _ _ _ sb hsp1) (Sl.mono _ _ _ _ _ sb hsp2) (Sl.mono _ _ _ _ _ sb hsp3) hdn s0 hr0 hg0 hl62 au nu pa ca al (Sl.mono _ _ _ _ _ sb hsa) hfa (by omega) (aS rh rh [] 0 al) rfl).mono ?_
 rintro e w' ⟨pp67,pc68,hp69,hc70,dp71,dc72,q73,qk74,rfl,hw'⟩
 refine⟨_,rfl,_,back _ _ hw',?_⟩
 refine lE oE (lE qS (lE qS (gB fun b75=>gB fun b76=> ?_)))
 refine lu (mS 1 (#[sB pp67 (aS rh rh [] 0 al).1.ps pc68,sB hp69 (aS rh rh [] 0 al).1.hs hc70,Ix ((aS rh rh [] 0 al).1.last),Ix ((aS rh rh [] 0 al).1.su.a0),Ix ((aS rh rh [] 0 al).1.su.a1),Ix ((aS rh rh [] 0 al).1.su.a2),Ix ((aS rh rh [] 0 al).1.su.a3),sB dp71 (⟨au,nu,pa,al.length,ca,(aS rh rh [] 0 al).2.done,(aS rh rh [] 0 al).2.at_,(aS rh rh [] 0 al).2.e,q73,(aS rh rh [] 0 al).2.holds.length,qk74⟩::fX au hd:List KMh) dc72])) ?_
 refine lu (mS 0 (#[.bool ((aS rh rh [] 0 al).2.done),Ix ((aS rh rh [] 0 al).2.at_),Ix ((aS rh rh [] 0 al).2.e),sB q73 (aS rh rh [] 0 al).2.holds qk74])) ?_
 refine aN (aL ?_)
 refine jH [sv 122 (.agg #[sB pp67 (aS rh rh [] 0 al).1.ps pc68,sB hp69 (aS rh rh [] 0 al).1.hs hc70,Ix ((aS rh rh [] 0 al).1.last),Ix ((aS rh rh [] 0 al).1.su.a0),Ix ((aS rh rh [] 0 al).1.su.a1),Ix ((aS rh rh [] 0 al).1.su.a2),Ix ((aS rh rh [] 0 al).1.su.a3),sB dp71 (⟨au,nu,pa,al.length,ca,(aS rh rh [] 0 al).2.done,(aS rh rh [] 0 al).2.at_,(aS rh rh [] 0 al).2.e,q73,(aS rh rh [] 0 al).2.holds.length,qk74⟩::fX au hd:List KMh) dc72]) [] [] [0],sv 123 (.agg #[.bool ((aS rh rh [] 0 al).2.done),Ix ((aS rh rh [] 0 al).2.at_),Ix ((aS rh rh [] 0 al).2.e),sB q73 (aS rh rh [] 0 al).2.holds qk74]) [] [] [1],⟨[0],[0],[2],[],fun _=>True⟩,⟨[0,1,2],[1],[3],[],fun _=>True⟩,sv 10 (.int .i64 (0)) [0,1,2,3] [] []] [u1 [1],u1 [0],u0,u0,u0,u0,u0,(some 3,[3]),(some 2,[2])] [⟨(some 2),none,[],[],fun _=>pt b2 (.cells #[sB pp67 (aS rh rh [] 0 al).1.ps pc68,sB hp69 (aS rh rh [] 0 al).1.hs hc70,Ix ((aS rh rh [] 0 al).1.last),Ix ((aS rh rh [] 0 al).1.su.a0),Ix ((aS rh rh [] 0 al).1.su.a1),Ix ((aS rh rh [] 0 al).1.su.a2),Ix ((aS rh rh [] 0 al).1.su.a3),sB dp71 (⟨au,nu,pa,al.length,ca,(aS rh rh [] 0 al).2.done,(aS rh rh [] 0 al).2.at_,(aS rh rh [] 0 al).2.e,q73,(aS rh rh [] 0 al).2.holds.length,qk74⟩::fX au hd:List KMh) dc72] 62)⟩,⟨(some 3),none,[],[],fun _=>pt b3 (.cells #[.bool ((aS rh rh [] 0 al).2.done),Ix ((aS rh rh [] 0 al).2.at_),Ix ((aS rh rh [] 0 al).2.e),sB q73 (aS rh rh [] 0 al).2.holds qk74] 66)⟩] [(17,pp b75 0),(18,pp b76 0),(8,pp b2 0),(9,pp b3 0)] [2,3] ⟨rfl,rfl,rfl,rfl,trivial⟩ ⟨?_,?_,?_,?_,?_,trivial⟩ ?_
 ·rintro f M-⟨i0,-⟩
  exact aU (dD 0)
 ·rintro f M-⟨i0,-⟩
  exact aU (dD 0)
 ·rintro f M ⟨k0,-⟩ ⟨i0,-⟩
  refine dU (aB (d:=122) (aB (d:=8) rfl i0) k0) ?_
  refine lu (mS 0 (#[sB pp67 (aS rh rh [] 0 al).1.ps pc68,sB hp69 (aS rh rh [] 0 al).1.hs hc70,Ix ((aS rh rh [] 0 al).1.last),Ix ((aS rh rh [] 0 al).1.su.a0),Ix ((aS rh rh [] 0 al).1.su.a1),Ix ((aS rh rh [] 0 al).1.su.a2),Ix ((aS rh rh [] 0 al).1.su.a3),sB dp71 (⟨au,nu,pa,al.length,ca,(aS rh rh [] 0 al).2.done,(aS rh rh [] 0 al).2.at_,(aS rh rh [] 0 al).2.e,q73,(aS rh rh [] 0 al).2.holds.length,qk74⟩::fX au hd:List KMh) dc72])) ?_
  refine aH ?_
  exact bB (aB (d:=122) (aB (d:=8) rfl i0) k0) trivial (aA 0 rfl)
 ·rintro f M ⟨k0,-⟩ ⟨i0,-⟩
  refine dU (aB (d:=123) (aB (d:=9) rfl i0) k0) ?_
  refine lu (mS 0 (#[.bool ((aS rh rh [] 0 al).2.done),Ix ((aS rh rh [] 0 al).2.at_),Ix ((aS rh rh [] 0 al).2.e),sB q73 (aS rh rh [] 0 al).2.holds qk74])) ?_
  refine aH ?_
  exact bB (aB (d:=123) (aB (d:=9) rfl i0) k0) trivial (aA 0 rfl)
 ·rintro f M- -
  exact aU bN
 rintro fa77 ⟨-,-,-,-,k4,-⟩ ⟨j0,j1,-⟩
 refine jI ?_
 refine aD (d:=8) j0 (aD (d:=9) j1 (aD (d:=10) k4 (ftr ?_)))
 refine gA (m:=[.agg #[sB pp67 (aS rh rh [] 0 al).1.ps pc68,sB hp69 (aS rh rh [] 0 al).1.hs hc70,Ix ((aS rh rh [] 0 al).1.last),Ix ((aS rh rh [] 0 al).1.su.a0),Ix ((aS rh rh [] 0 al).1.su.a1),Ix ((aS rh rh [] 0 al).1.su.a2),Ix ((aS rh rh [] 0 al).1.su.a3),sB dp71 (⟨au,nu,pa,al.length,ca,(aS rh rh [] 0 al).2.done,(aS rh rh [] 0 al).2.at_,(aS rh rh [] 0 al).2.e,q73,(aS rh rh [] 0 al).2.holds.length,qk74⟩::fX au hd:List KMh) dc72],.agg #[.bool ((aS rh rh [] 0 al).2.done),Ix ((aS rh rh [] 0 al).2.at_),Ix ((aS rh rh [] 0 al).2.e),sB q73 (aS rh rh [] 0 al).2.holds qk74],.int .i64 (0)]) Tryz.results24 ⟨bQ tx6.ok rfl (bY 8 rfl rfl) rfl,bQ tx8.ok rfl (bY 9 rfl rfl) rfl,eL (v:= .int .i64 (0)) rfl,trivial⟩ rfl ?_
 intro w hw
 replace hw:=hw.perm (L':=[gP jW 128 p1 c1 rh.ps pp67 pc68 ((aS rh rh [] 0 al).1.ps),gP fD 130 p2 c2 rh.hs hp69 hc70 ((aS rh rh [] 0 al).1.hs),aM wR 122 dp71 dc72 (⟨au,nu,pa,al.length,ca,(aS rh rh [] 0 al).2.done,(aS rh rh [] 0 al).2.at_,(aS rh rh [] 0 al).2.e,q73,(aS rh rh [] 0 al).2.holds.length,qk74⟩::fX au hd:List KMh),aM bA 3 q73 qk74 ((aS rh rh [] 0 al).2.holds),pt b76 (.cells #[.bool ((aS rh rh [] 0 al).2.done),Ix ((aS rh rh [] 0 al).2.at_),Ix ((aS rh rh [] 0 al).2.e),sB q73 (aS rh rh [] 0 al).2.holds qk74] 66),pt b75 (.cells #[sB pp67 (aS rh rh [] 0 al).1.ps pc68,sB hp69 (aS rh rh [] 0 al).1.hs hc70,Ix ((aS rh rh [] 0 al).1.last),Ix ((aS rh rh [] 0 al).1.su.a0),Ix ((aS rh rh [] 0 al).1.su.a1),Ix ((aS rh rh [] 0 al).1.su.a2),Ix ((aS rh rh [] 0 al).1.su.a3),sB dp71 (⟨au,nu,pa,al.length,ca,(aS rh rh [] 0 al).2.done,(aS rh rh [] 0 al).2.at_,(aS rh rh [] 0 al).2.e,q73,(aS rh rh [] 0 al).2.holds.length,qk74⟩::fX au hd:List KMh) dc72] 62),pt b47 (.cells #[Ix (m.author),Ix (m.number),.slice m.p (m.n) (m.c),.bool (m.done),Ix (m.at_),Ix (m.e),.slice m.q (m.m) m.k] 122),pt b1 (.cells #[sB p1 rh.ps (c1),sB p2 rh.hs (c2),Ix (rh.last),Ix (rh.su.a0),Ix (rh.su.a1),Ix (rh.su.a2),Ix (rh.su.a3),sB p3 hd (c3)] 62),pt b2 (.cells #[sB pp67 (aS rh rh [] 0 al).1.ps pc68,sB hp69 (aS rh rh [] 0 al).1.hs hc70,Ix ((aS rh rh [] 0 al).1.last),Ix ((aS rh rh [] 0 al).1.su.a0),Ix ((aS rh rh [] 0 al).1.su.a1),Ix ((aS rh rh [] 0 al).1.su.a2),Ix ((aS rh rh [] 0 al).1.su.a3),sB dp71 (⟨au,nu,pa,al.length,ca,(aS rh rh [] 0 al).2.done,(aS rh rh [] 0 al).2.at_,(aS rh rh [] 0 al).2.e,q73,(aS rh rh [] 0 al).2.holds.length,qk74⟩::fX au hd:List KMh) dc72] 62),pt b3 (.cells #[.bool ((aS rh rh [] 0 al).2.done),Ix ((aS rh rh [] 0 al).2.at_),Ix ((aS rh rh [] 0 al).2.e),sB q73 (aS rh rh [] 0 al).2.holds qk74] 66)]) (by exact(aV [2,3,4,5,0,1,6,7,8,9] 10 rfl (by kernel_rfl) (by kernel_rfl)))
 replace hw:=aF (L':=[gP jW 128 p1 c1 rh.ps pp67 pc68 ((aS rh rh [] 0 al).1.ps),gP fD 130 p2 c2 rh.hs hp69 hc70 ((aS rh rh [] 0 al).1.hs),aM wR 122 dp71 dc72 (⟨au,nu,pa,al.length,ca,(aS rh rh [] 0 al).2.done,(aS rh rh [] 0 al).2.at_,(aS rh rh [] 0 al).2.e,q73,(aS rh rh [] 0 al).2.holds.length,qk74⟩::fX au hd:List KMh),aM bA 3 q73 qk74 ((aS rh rh [] 0 al).2.holds)]) [true,true,true,true,false,false,false,false,false,false] rfl hw
 exact .inr ⟨aUs hfm hrf (by omega) (by omega),hfm,pp67,pc68,hp69,hc70,dp71,dc72,q73,qk74,rfl,hw⟩
open Go Go.Sl Go.Td
theorem jF(xs:List Int):(sortI xs).length=xs.length:=(sortI_perm xs).length_eq
theorem vS{ν:Type}{pre ks:List (Int×ν)}{x:Int×ν}(h:∃rs,(pre++[x]++rs).Perm ks):∃l:List Int,l.Perm (ks.map (·.1))∧pre.map (·.1)++[x.1]<+:l:=by
 obtain⟨rs,h⟩:=h
 exact⟨(pre++[x]++rs).map (·.1),h.map _,by rw[List.map_append,List.map_append];exact List.prefix_append _ _⟩
theorem aDm{α:Type}{pre ks:List α}{x:α}(h:∃rs,(pre++[x]++rs).Perm ks):(pre++[x]).length≤ks.length:=by
 obtain⟨rs,h⟩:=h;rw[←h.length_eq];simp only[List.length_append,List.length_singleton];omega
theorem aIc{α:Type}{pre ks:List α}{x:α}(h:∃rs,(pre++[x]++rs).Perm ks):ks.length-(pre++[x]).length<ks.length-pre.length:=by
 have:=aDm h;simp at this⊢;omega
instance bEx:CfC Tryz.prog 111:={}
instance bEy:CfC Tryz.prog 77:={}
instance bEz:CfC Tryz.prog 78:={}
theorem aFu(β:Base)(w:World)(hw:St β [] w)(m:Nat):Calls Tryz.prog 43 #[.map (some m)] w fun r w'=>∃b,r= .returned (.func (.func 80) #[] #[pp b 0])∧St β [pt b (.cells #[.map (some m)] 84)] w':=by
 refine enter (n:=4) Tryz.func43 rfl Tryz.ntmps43 rfl ?_ hw
 refine bE (dX rfl rfl rfl (yQ (v:= .map (some m)) rfl) ?_)
 rintro _ _ ⟨b1,rfl,rfl⟩
 refine lv dY (eY (lv (v:= .func (.func 80) #[] #[pp b1 0]) (mM (u:=[]) (v:=[pp b1 0]) rfl rfl) (lE oaf (aN (aT ?_)))))
 refine cZ Tryz.results43 rfl ?_
 intro w hw
 exact⟨b1,rfl,aF [true] rfl hw⟩
theorem aBe(β:Base)(b m:Nat)(ks:List (Int×KAm))(hm:aZ bW m ks β.heap):aCi Tryz.prog β (.func (.func 80) #[] #[pp b 0]) (fun z:Int=>[Ix z]) (fun l=>l.Perm (ks.map (·.1))) [pt b (.cells #[.map (some m)] 84)]:=by
 refine⟨80,[],[pp b 0],rfl,by kernel_rfl,fun β₁ ext l J X hY M w hJ hw=> ?_⟩
 replace hw:=hw.perm (List.perm_append_comm)
 have hm:=aZ.mono _ _ _ _ _ ext.1 hm
 refine enter (n:=14) Tryz.func80 rfl Tryz.ntmps80 rfl ?_ hw
 refine bE (lv (v:= .map (some m)) (bH rL.ok rfl (bY 0 rfl rfl)) (dX rfl rfl rfl (yR (K:=bW) (b:=m) (ks:=ks) rfl rfl hm) ?_))
 rintro _ _ ⟨it1,rfl,rfl⟩
 refine aN (aK ?_)
 refine dB (fun(x_:List (Int×KAm)×List bU) f L=>match x_ with|(pre,M)=>(f 0=yfn l∧f 5=pp it1 0)∧L=(itR bW β₁ m it1 ks pre::pt b (.cells #[.map (some m)] 84)::M)∧(pre.length≤ks.length∧J (pre.map (·.1)) M)) (fun(pre,M)=>ks.length-pre.length) ([],M) ?_ ?_
 ·exact⟨⟨rfl,rfl⟩,rfl,⟨Nat.zero_le _,hJ⟩⟩
 rintro⟨pre,M⟩ f0 L0 ⟨⟨hs0,hs5⟩,hL,⟨hpl,hJ⟩⟩
 subst L0
 refine bM 0 hs0 (bM 5 hs5 (bE (dX rfl rfl rfl (aDf (K:=bW) (b:=m) (r:=it1) (ks:=ks) (pre:=pre) 0 rfl rfl) ?_)))
 rintro _ _ (⟨rfl,he4,rfl⟩|⟨x2,rfl,hx3,rfl⟩)
 ·refine lE xK (aN (aL (cY rfl (cM (aG (aG (cN (mQ Tryz.results80 ?_))))))))
  intro w hw
  exact⟨⟨_,rfl⟩,.inl ⟨_,M,he4.map _,hJ,aF [false,false] rfl hw⟩⟩
 refine lE xK (aN (aL (dL rfl (eF (aK (bE ?_))))))
 refine lv (v:= .tuple #[Ix (x2.1),.agg (eI x2.2)]) (yC (K:=bW) (b:=m) (r:=it1) (ks:=ks) (pre:=pre) (y:=x2) 0 rfl rfl) (lE pO ?_)
 refine lE bN (eY (lv cC (lE aX ?_)))
 refine xG (own:=[itR bW β₁ m it1 ks (pre++[x2]),pt b (.cells #[.map (some m)] 84)]) (M:=M) (d:=12) (enc:=fun z:Int=>[Ix z]) (pre:=pre.map (·.1)) (x:=x2.1) rfl rfl rfl rfl hY (vS hx3) hJ (fun M1 hJ1=> ?_) (fun M1 hX1=> ?_)
 ·refine lE lX (aN (cY rfl (cD (aR ?_))))
  exact bI ⟨((pre++[x2]),M1),⟨⟨rfl,rfl⟩,rfl,⟨aDm hx3,by rw[List.map_append];exact hJ1⟩⟩,(aIc hx3)⟩
 refine lE lX (aN (dL rfl (aT (aQ (aI (aQ (aXf Tryz.results80 ?_)))))))
 intro w hw
 exact⟨⟨_,rfl⟩,.inr ⟨_,M1,hX1,aF [false,false] rfl hw⟩⟩
theorem aFt(β:Base)(w:World)(hw:St β [] w)(m:Nat):Calls Tryz.prog 42 #[.map (some m)] w fun r w'=>∃b,r= .returned (.func (.func 79) #[] #[pp b 0])∧St β [pt b (.cells #[.map (some m)] 85)] w':=by
 refine enter (n:=4) Tryz.func42 rfl Tryz.ntmps42 rfl ?_ hw
 refine bE (dX rfl rfl rfl (yQ (v:= .map (some m)) rfl) ?_)
 rintro _ _ ⟨b1,rfl,rfl⟩
 refine lv dY (eY (lv (v:= .func (.func 79) #[] #[pp b1 0]) (mM (u:=[]) (v:=[pp b1 0]) rfl rfl) (lE oaf (aN (aT ?_)))))
 refine cZ Tryz.results42 rfl ?_
 intro w hw
 exact⟨b1,rfl,aF [true] rfl hw⟩
theorem aBd(β:Base)(b m:Nat)(ks:List (Int×KHo))(hm:aZ bK m ks β.heap):aCi Tryz.prog β (.func (.func 79) #[] #[pp b 0]) (fun z:Int=>[Ix z]) (fun l=>l.Perm (ks.map (·.1))) [pt b (.cells #[.map (some m)] 85)]:=by
 refine⟨79,[],[pp b 0],rfl,by kernel_rfl,fun β₁ ext l J X hY M w hJ hw=> ?_⟩
 replace hw:=hw.perm (List.perm_append_comm)
 have hm:=aZ.mono _ _ _ _ _ ext.1 hm
 refine enter (n:=14) Tryz.func79 rfl Tryz.ntmps79 rfl ?_ hw
 refine bE (lv (v:= .map (some m)) (bH uZ.ok rfl (bY 0 rfl rfl)) (dX rfl rfl rfl (yR (K:=bK) (b:=m) (ks:=ks) rfl rfl hm) ?_))
 rintro _ _ ⟨it1,rfl,rfl⟩
 refine aN (aK ?_)
 refine dB (fun(x_:List (Int×KHo)×List bU) f L=>match x_ with|(pre,M)=>(f 0=yfn l∧f 5=pp it1 0)∧L=(itR bK β₁ m it1 ks pre::pt b (.cells #[.map (some m)] 85)::M)∧(pre.length≤ks.length∧J (pre.map (·.1)) M)) (fun(pre,M)=>ks.length-pre.length) ([],M) ?_ ?_
 ·exact⟨⟨rfl,rfl⟩,rfl,⟨Nat.zero_le _,hJ⟩⟩
 rintro⟨pre,M⟩ f0 L0 ⟨⟨hs0,hs5⟩,hL,⟨hpl,hJ⟩⟩
 subst L0
 refine bM 0 hs0 (bM 5 hs5 (bE (dX rfl rfl rfl (aDf (K:=bK) (b:=m) (r:=it1) (ks:=ks) (pre:=pre) 0 rfl rfl) ?_)))
 rintro _ _ (⟨rfl,he4,rfl⟩|⟨x2,rfl,hx3,rfl⟩)
 ·refine lE xK (aN (aL (cY rfl (cM (aG (aG (cN (mQ Tryz.results79 ?_))))))))
  intro w hw
  exact⟨⟨_,rfl⟩,.inl ⟨_,M,he4.map _,hJ,aF [false,false] rfl hw⟩⟩
 refine lE xK (aN (aL (dL rfl (eF (aK (bE ?_))))))
 refine lv (v:= .tuple #[Ix (x2.1),.agg #[Ix (x2.2.number),Ix (x2.2.owner),Ix (x2.2.a.a0),Ix (x2.2.a.a1),Ix (x2.2.a.a2),Ix (x2.2.a.a3)]]) (yC (K:=bK) (b:=m) (r:=it1) (ks:=ks) (pre:=pre) (y:=x2) 0 rfl rfl) ?_
 refine lE pO (lE bN (eY (lv cC (lE aX ?_))))
 refine xG (own:=[itR bK β₁ m it1 ks (pre++[x2]),pt b (.cells #[.map (some m)] 85)]) (M:=M) (d:=12) (enc:=fun z:Int=>[Ix z]) (pre:=pre.map (·.1)) (x:=x2.1) rfl rfl rfl rfl hY (vS hx3) hJ (fun M1 hJ1=> ?_) (fun M1 hX1=> ?_)
 ·refine lE lX (aN (cY rfl (cD (aR ?_))))
  exact bI ⟨((pre++[x2]),M1),⟨⟨rfl,rfl⟩,rfl,⟨aDm hx3,by rw[List.map_append];exact hJ1⟩⟩,(aIc hx3)⟩
 refine lE lX (aN (dL rfl (aT (aQ (aI (aQ (aXf Tryz.results79 ?_)))))))
 intro w hw
 exact⟨⟨_,rfl⟩,.inr ⟨_,M1,hX1,aF [false,false] rfl hw⟩⟩
theorem aRc(β:Base)(w:World)(hw:St β [] w)(m:Nat):Calls Tryz.prog 96 #[.map (some m)] w fun r w'=>∃b,r= .returned (.func (.func 121) #[] #[pp b 0])∧St β [pt b (.cells #[.map (some m)] 86)] w':=by
 refine enter (n:=4) Tryz.func96 rfl Tryz.ntmps96 rfl ?_ hw
 refine bE (dX rfl rfl rfl (yQ (v:= .map (some m)) rfl) ?_)
 rintro _ _ ⟨b1,rfl,rfl⟩
 refine lv dY (eY (lv (v:= .func (.func 121) #[] #[pp b1 0]) (mM (u:=[]) (v:=[pp b1 0]) rfl rfl) (lE oaf (aN (aT ?_)))))
 refine cZ Tryz.results96 rfl ?_
 intro w hw
 exact⟨b1,rfl,aF [true] rfl hw⟩
theorem aMt(β:Base)(b m:Nat)(ks:List (Int×KMh))(hm:aZ dS m ks β.heap):aCi Tryz.prog β (.func (.func 121) #[] #[pp b 0]) (fun z:Int=>[Ix z]) (fun l=>l.Perm (ks.map (·.1))) [pt b (.cells #[.map (some m)] 86)]:=by
 refine⟨121,[],[pp b 0],rfl,by kernel_rfl,fun β₁ ext l J X hY M w hJ hw=> ?_⟩
 replace hw:=hw.perm (List.perm_append_comm)
 have hm:=aZ.mono _ _ _ _ _ ext.1 hm
 refine enter (n:=14) Tryz.func121 rfl Tryz.ntmps121 rfl ?_ hw
 refine bE (lv (v:= .map (some m)) (bH aEc.ok rfl (bY 0 rfl rfl)) (dX rfl rfl rfl (yR (K:=dS) (b:=m) (ks:=ks) rfl rfl hm) ?_))
 rintro _ _ ⟨it1,rfl,rfl⟩
 refine aN (aK ?_)
 refine dB (fun(x_:List (Int×KMh)×List bU) f L=>match x_ with|(pre,M)=>(f 0=yfn l∧f 5=pp it1 0)∧L=(itR dS β₁ m it1 ks pre::pt b (.cells #[.map (some m)] 86)::M)∧(pre.length≤ks.length∧J (pre.map (·.1)) M)) (fun(pre,M)=>ks.length-pre.length) ([],M) ?_ ?_
 ·exact⟨⟨rfl,rfl⟩,rfl,⟨Nat.zero_le _,hJ⟩⟩
 rintro⟨pre,M⟩ f0 L0 ⟨⟨hs0,hs5⟩,hL,⟨hpl,hJ⟩⟩
 subst L0
 refine bM 0 hs0 (bM 5 hs5 (bE (dX rfl rfl rfl (aDf (K:=dS) (b:=m) (r:=it1) (ks:=ks) (pre:=pre) 0 rfl rfl) ?_)))
 rintro _ _ (⟨rfl,he4,rfl⟩|⟨x2,rfl,hx3,rfl⟩)
 ·refine lE xK (aN (aL (cY rfl (cM (aG (aG (cN (mQ Tryz.results121 ?_))))))))
  intro w hw
  exact⟨⟨_,rfl⟩,.inl ⟨_,M,he4.map _,hJ,aF [false,false] rfl hw⟩⟩
 refine lE xK (aN (aL (dL rfl (eF (aK (bE ?_))))))
 refine lv (v:= .tuple #[Ix (x2.1),.agg #[Ix (x2.2.author),Ix (x2.2.number),.slice x2.2.p (x2.2.n) x2.2.c,.bool (x2.2.done),Ix (x2.2.at_),Ix (x2.2.e),.slice x2.2.q (x2.2.m) x2.2.k]]) (yC (K:=dS) (b:=m) (r:=it1) (ks:=ks) (pre:=pre) (y:=x2) 0 rfl rfl) ?_
 refine lE pO (lE bN (eY (lv cC (lE aX ?_))))
 refine xG (own:=[itR dS β₁ m it1 ks (pre++[x2]),pt b (.cells #[.map (some m)] 86)]) (M:=M) (d:=12) (enc:=fun z:Int=>[Ix z]) (pre:=pre.map (·.1)) (x:=x2.1) rfl rfl rfl rfl hY (vS hx3) hJ (fun M1 hJ1=> ?_) (fun M1 hX1=> ?_)
 ·refine lE lX (aN (cY rfl (cD (aR ?_))))
  exact bI ⟨((pre++[x2]),M1),⟨⟨rfl,rfl⟩,rfl,⟨aDm hx3,by rw[List.map_append];exact hJ1⟩⟩,(aIc hx3)⟩
 refine lE lX (aN (dL rfl (aT (aQ (aI (aQ (aXf Tryz.results121 ?_)))))))
 intro w hw
 exact⟨⟨_,rfl⟩,.inr ⟨_,M1,hX1,aF [false,false] rfl hw⟩⟩
theorem aAb(β:Base)(w:World)(fn:Value)(S:List Int→Prop)(K:List bU)(hs:aCi Tryz.prog β fn (fun z:Int=>[Ix z]) S K)(hB:∀l,S l→l.length≤1048576)(hw:St β K w):Calls Tryz.prog 111 #[.slice none 0 0,fn] w fun r w'=>∃p c xs,S xs∧r= .returned (sB p xs c)∧St β [aM bA 3 p c xs] w':=by
 refine aQd (n:=13) Tryz.func111 rfl Tryz.ntmps111 rfl ?_ hw
 refine bE (bxs fun b1=> ?_)
 refine lE iT (aN (eS (jN (r:=aM bA 3 none 0 []) (eG _ _ _) (aC (lv cC (aN (aK ?_)))))))
 refine aEr (L:=[aM bA 3 none 0 [],pt b1 (.cells #[.slice none 0 0] 35)]) (K:=K) (α:=Int) (enc:=fun z:Int=>[Ix z]) (S:=S) (ps:=[7]) (I:=fun(pre:List (Int)) (L:List bU)=>∃(p:Option Addr),∃(c:Nat),L=[aM bA 3 p c pre,pt b1 (.cells #[sB p pre c] 35)]∧(True)) (X:=fun _ _ _=>False) rfl (hs) (fun _=>rfl) rfl ⟨none,0,rfl,trivial⟩ ?_ ?_ ?_
 ·rintro l β1 pre x M ext hpre ⟨p,c,rfl,-⟩
  have hpl:pre.length≤1048576:=by obtain⟨l,h1,h2⟩:=hpre;have h3:=h2.length_le;have h4:=hB l h1;rw[List.length_append]at h3;omega
  refine aC (lE bN (aH (bI (fun β2 ext2=> ?_))))
  refine aK (aC (lE (fR 1) (lE aX (dX rfl rfl rfl (dO rK aTu.ok (cells:= #[Ix (x)]) rfl rfl rfl rfl) ?_))))
  rintro _ _ ⟨b2,rfl,rfl⟩
  refine dX rfl rfl rfl (dF (F:=bA) 1 rK aYc (p:=p) (m:=pre.length) (xs:=pre) (ys:=[x]) (ao:=(some ⟨b2,0,none⟩)) (k:=1) (c:=1) rfl rfl rfl rfl rfl (jM (z:=x) 0 rfl rfl) (by first|omega|simp only[List.length_nil,List.length_cons,List.length_append,List.length_set];omega) (by first|omega|simp only[List.length_nil,List.length_cons,List.length_append,List.length_set];omega)) ?_
  rintro _ _ ⟨rp3,rc4,rfl,rfl⟩
  refine lu (mS 2 (#[sB rp3 (pre++[x]) rc4])) (aH (aR (dM [false,true,true] rfl ?_)))
  exact fun a w ha hw=>⟨_,⟨rp3,rc4,rfl,trivial⟩,hw⟩
 ·rintro D1 ys1 M hS1 ⟨p,c,rfl,-⟩
  refine aR (kM (lE (fR 1) (lE iT (aN (aT (bEj 2 rfl Tryz.results111 (v:=sB p ys1 c) rfl ?_))))))
  intro w hw
  exact⟨p,c,ys1,hS1,rfl,aF [true,false,false] rfl hw⟩
 intro D c pre M h;exact h.elim
theorem aFb(β:Base)(w:World)(fn:Value)(S:List Int→Prop)(K:List bU)(hs:aCi Tryz.prog β fn (fun z:Int=>[Ix z]) S K)(hB:∀l,S l→l.length≤1048576)(hw:St β K w):Calls Tryz.prog 77 #[fn] w fun r w'=>∃p c xs,S xs∧r= .returned (sB p xs c)∧St β [aM bA 3 p c xs] w':=by
 refine enter (n:=5) Tryz.func77 rfl Tryz.ntmps77 rfl ?_ hw
 refine bE (lE iT (eY (lv cC (aW rfl rfl rfl (cK (vs:=[.slice none 0 0,fn]) bEx.ok rfl rfl) ?_))))
 intro w hw
 refine(aAb β w fn S K hs hB hw).mono ?_
 rintro e w' ⟨p,c,xs,hS,rfl,hw'⟩
 refine⟨_,rfl,_,hw',?_⟩
 clear hw hw'
 refine lE iT (aN (aT (cZ Tryz.results77 rfl ?_)))
 intro w hw
 exact⟨p,c,xs,hS,rfl,aF [true] rfl hw⟩
theorem aIn(β:Base)(w:World)(fn:Value)(S:List Int→Prop)(K:List bU)(hs:aCi Tryz.prog β fn (fun z:Int=>[Ix z]) S K)(hB:∀l,S l→l.length≤1048576)(hw:St β K w):Calls Tryz.prog 41 #[fn] w fun r w'=>∃p c xs,S xs∧r= .returned (sB p (sortI xs) c)∧St β [aM bA 3 p c (sortI xs)] w':=by
 refine enter (n:=9) Tryz.func41 rfl Tryz.ntmps41 rfl ?_ hw
 refine bE (lE iT (eY (lv cC (aW rfl rfl rfl (cK (vs:=[fn]) bEy.ok rfl rfl) ?_))))
 intro w hw
 refine(aFb β w fn S K hs hB hw).mono ?_
 rintro e w' ⟨p,c,xs,hS,rfl,hw'⟩
 refine⟨_,rfl,_,hw',?_⟩
 clear hw hw'
 refine lE iT (aN (aL ?_))
 have hxl:=hB _ hS
 refine aC (lE fN (aW rfl rfl rfl (cK (vs:=[sB p xs c]) bEz.ok rfl rfl) ?_))
 intro w hw
 obtain⟨β1,sb,kn,hw1,back⟩:=St.frame (L:=[_]) (M:=[]) hw
 refine(aTi β1 w _ _ xs hw1 (by omega)).mono ?_
 rintro e w' ⟨rfl,hw'⟩
 refine⟨_,rfl,_,back _ _ hw',?_⟩
 refine eY (lE fN (lE iT (aN (aT (cZ Tryz.results41 (v:=sB p xs c) rfl ?_)))))
 intro w hw
 exact⟨p,c,xs,hS,by unfold sB;rw[jF],aF [true] rfl hw⟩
end Go.Proofs
