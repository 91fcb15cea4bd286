/-
  Own work; plain Lean (Td30, Td8).
-/
import Derived.Test.YtjejfkajcbdgjaaGreatTd29
set_option linter.all false
set_option maxHeartbeats 4000000
namespace Go.Proofs
open Go Go.Sl Go.Td Go.Jn
instance tx0:ZerC Tryz.prog 62 (.agg #[.slice none 0 0,.slice none 0 0,.int .i64 (0),.int .i64 (0),.int .i64 (0),.int .i64 (0),.int .i64 (0),.slice none 0 0]):={}
instance tx1:ZerC Tryz.prog 66 (.agg #[.bool false,.int .i64 (0),.int .i64 (0),.slice none 0 0]):={}
instance tx2:UndC Tryz.prog 69 120:={}
theorem tx3:lY Tryz.prog 69 120 8=true:=by kernel_rfl
instance tx4:TyC Tryz.prog 120 true 8:={}
instance tx5:CfC Tryz.prog 50:={}
instance tx6:TyC Tryz.prog 62 true 8:={}
theorem tx7:xC Tryz.prog 66 [(0,1),(1,1),(2,1),(3,1)]=true:=by kernel_rfl
instance tx8:TyC Tryz.prog 66 true 4:={}
instance tx9:CfC Tryz.prog 51:={}
instance tx10:ZerC Tryz.prog 122 (.agg #[.int .i64 (0),.int .i64 (0),.slice none 0 0,.bool false,.int .i64 (0),.int .i64 (0),.slice none 0 0]):={}
instance tx11:TyC Tryz.prog 122 true 7:={}
instance bHj:CfC Tryz.prog 52:={}
instance tx13:FldC Tryz.prog 122 1 1 1 false:={}
instance tx14:TyC Tryz.prog 3 false 1:={}
instance tx15:FldC Tryz.prog 122 2 2 1 false:={}
instance tx16:TyC Tryz.prog 69 false 1:={}
theorem bJv:zC Tryz.prog 10000 120=some [.int .u8,.int .i64,.int .i64,.int .i64,.int .i64,.int .i64,.int .i64,.int .i64]:=by kernel_rfl
theorem bJw:gM Tryz.prog 120=true:=by kernel_rfl
theorem bJx:Tryz.prog.eqGuardType Tryz.prog.depth 120=false:=by kernel_rfl
instance tx20:FldC Tryz.prog 122 3 3 4 true:={}
theorem aXn(β:Base)(w:World)(hw:St β [] w)(rh:KRh)(p1 p2 p3:Option Addr)(c1 c2 c3:Nat)(hd:List KMh)(hsp1:Sl kF.R β.heap (sB p1 rh.ps c1) rh.ps)(hsp2:Sl fG.R β.heap (sB p2 rh.hs c2) rh.hs)(hsp3:Sl xF.R β.heap (sB p3 hd c3) hd)(hdn:hd.length≤100000)(s0:KSt)(hr0:RelS s0 rh)(hg0:Good2 s0)(hl62:rh.last+16≤4611686018427387904)(au nu:Int)(pa:Option Addr)(ca:Nat)(al:List KAct)(hsa:Sl cJ.R β.heap (sB pa al ca) al)(zs:List (KMh×KMem))(hz:∀z∈zs,HdOf z)(hpool:∀z∈zs,MOk β.heap z)(hhd:hd=zs.map (·.1))(hds:rh.ds=zs.map (·.2))(hal:al.length≤100000):Calls Tryz.prog 24 #[.agg #[sB p1 rh.ps c1,sB p2 rh.hs c2,Ix rh.last,Ix rh.su.a0,Ix rh.su.a1,Ix rh.su.a2,Ix rh.su.a3,sB p3 hd c3],Ix au,Ix nu,sB pa al ca] w fun r w'=>(∃R e q k,kC rh au nu al=(rh,R,e)∧r= .returned (.tuple #[.agg #[sB p1 rh.ps c1,sB p2 rh.hs c2,Ix rh.last,Ix rh.su.a0,Ix rh.su.a1,Ix rh.su.a2,Ix rh.su.a3,sB p3 hd c3],.agg #[.bool R.done,Ix R.at_,Ix R.e,sB q R.holds k],Ix e])∧YIn zs q k R.holds∧St β [] w')∨(kC rh au nu al=((eU rh au nu al).1,(eU rh au nu al).2,0)∧cO au nu al=true∧∃p1' c1' p2' c2' p3' c3' q k,r= .returned (.tuple #[.agg #[sB p1' (aS rh rh [] 0 al).1.ps c1',sB p2' (aS rh rh [] 0 al).1.hs c2',Ix (aS rh rh [] 0 al).1.last,Ix (aS rh rh [] 0 al).1.su.a0,Ix (aS rh rh [] 0 al).1.su.a1,Ix (aS rh rh [] 0 al).1.su.a2,Ix (aS rh rh [] 0 al).1.su.a3,sB p3' (⟨au,nu,pa,al.length,ca,(aS rh rh [] 0 al).2.done,(aS rh rh [] 0 al).2.at_,(aS rh rh [] 0 al).2.e,q,(aS rh rh [] 0 al).2.holds.length,k⟩::gD au hd:List KMh) c3'],.agg #[.bool (aS rh rh [] 0 al).2.done,Ix (aS rh rh [] 0 al).2.at_,Ix (aS rh rh [] 0 al).2.e,sB q (aS rh rh [] 0 al).2.holds k],Ix 0])∧St β [gZ kF 128 p1 c1 rh.ps p1' c1' (aS rh rh [] 0 al).1.ps,gZ fG 130 p2 c2 rh.hs p2' c2' (aS rh rh [] 0 al).1.hs,aK xF 122 p3' c3' (⟨au,nu,pa,al.length,ca,(aS rh rh [] 0 al).2.done,(aS rh rh [] 0 al).2.at_,(aS rh rh [] 0 al).2.e,q,(aS rh rh [] 0 al).2.holds.length,k⟩::gD au hd:List KMh),aK aZ 3 q k (aS rh rh [] 0 al).2.holds] w'):=by
 obtain⟨-,hsp1l,hsp1m,hsp1e⟩:=gA hsp1
 obtain⟨-,hsp2l,hsp2m,hsp2e⟩:=gA hsp2
 obtain⟨-,hsp3l,hsp3m,hsp3e⟩:=gA hsp3
 obtain⟨-,hsal,hsam,hsae⟩:=gA hsa
 refine enter (n:=124) Tryz.func24 rfl Tryz.ntmps24 rfl ?_ hw
 refine bD (mL fun b1=> ?_)
 refine gB fun b2=>gB fun b3=>lE bN (eY (lE aU (lE oge ?_)))
 refine zA (decide ((1:Int)≤(au))) (decide ((au)≤(64:Int))) rfl (fun hb4 hk4=> ?_) (fun z5 z6=> ?_)
 ·have hb4p:=of_decide_eq_true hb4
  refine gE aU (gE ole (lE eF ?_))
  exact hk4 _ _
 refine zA ((decide ((1:Int)≤(au)))&&(decide ((au)≤(64:Int)))) (decide ((1:Int)≤(nu))) rfl (fun hb7 hk7=> ?_) (fun z8 z9=> ?_)
 ·refine gE aU (gE oge (lE eF ?_))
  exact hk7 _ _
 refine zA (((decide ((1:Int)≤(au)))&&(decide ((au)≤(64:Int))))&&(decide ((1:Int)≤(nu)))) (decide ((nu)≤(1099511627776:Int))) rfl (fun hb10 hk10=> ?_) (fun z11 z12=> ?_)
 ·refine gE aU (gE ole (lE eF ?_))
  exact hk10 _ _
 refine gF ((((decide ((1:Int)≤(au)))&&(decide ((au)≤(64:Int))))&&(decide ((1:Int)≤(nu))))&&(decide ((nu)≤(1099511627776:Int)))) (decide ((1:Int)≤((al.length:Nat):Int))) rfl (fun hb13 hk13=> ?_) (fun z14 z15 z16=> ?_)
 ·refine gE fL (gE gY (gE oge (lE eF ?_)))
  exact hk13 _ _ _
 refine gF (((((decide ((1:Int)≤(au)))&&(decide ((au)≤(64:Int))))&&(decide ((1:Int)≤(nu))))&&(decide ((nu)≤(1099511627776:Int))))&&(decide ((1:Int)≤((al.length:Nat):Int)))) (decide (((al.length:Nat):Int)≤(16:Int))) rfl (fun hb17 hk17=> ?_) (fun z18 z19 z20=> ?_)
 ·refine gE fL (gE gY (gE ole (lE eF ?_)))
  exact hk17 _ _ _
 refine lE dP (aN (eR ?_))
 obtain⟨E,hE⟩:∃E:Bool,E=((((((decide ((1:Int)≤(au)))&&(decide ((au)≤(64:Int))))&&(decide ((1:Int)≤(nu))))&&(decide ((nu)≤(1099511627776:Int))))&&(decide ((1:Int)≤((al.length:Nat):Int))))&&(decide (((al.length:Nat):Int)≤(16:Int)))):=⟨_,rfl⟩
 refine bJ 11 (v:= .bool E) (by rw[hE];rfl) (aC (lE bN (aN (aJ ?_))))
 refine cZ (fun(x_:Nat×Bool) f L=>match x_ with|(k,ok)=>(f 1=Ix (au)∧f 2=Ix (nu)∧f 3=sB pa al (ca)∧f 4=pp b1 0∧f 8=pp b2 0∧f 9=pp b3 0∧f 11= .bool (ok)∧f 12=Nx (k))∧L=[pt b3 (.cells #[.bool false,.int .i64 (0),.int .i64 (0),.slice none 0 0] 66),pt b2 (.cells #[.slice none 0 0,.slice none 0 0,.int .i64 (0),.int .i64 (0),.int .i64 (0),.int .i64 (0),.int .i64 (0),.slice none 0 0] 62),pt b1 (.cells #[sB p1 rh.ps (c1),sB p2 rh.hs (c2),Ix (rh.last),Ix (rh.su.a0),Ix (rh.su.a1),Ix (rh.su.a2),Ix (rh.su.a3),sB p3 hd (c3)] 62)]∧(k≤al.length∧ok=(E&& !(al.take k).any fun z=> !z.formed))) (fun(k,ok)=>al.length-k) (0,E) ?_ ?_
 ·exact⟨⟨rfl,rfl,rfl,rfl,rfl,rfl,rfl,rfl⟩,rfl,⟨Nat.zero_le _,by simp⟩⟩
 rintro⟨k,ok⟩ f0 L0 ⟨⟨hs1,hs2,hs3,hs4,hs8,hs9,hs11,hs12⟩,hL,⟨hk,hok⟩⟩
 subst L0
 refine bJ 1 hs1 (bJ 2 hs2 (bJ 3 hs3 (bJ 4 hs4 (bJ 8 hs8 (bJ 9 hs9 (bJ 11 hs11 (bJ 12 hs12 (eR (aC (lE aU (lE fL (lE gY (lE gN ?_)))))))))))))
 refine aN (cN _ rfl (fun hc21=> ?_) (fun hc21=> ?_))
 ·refine eB (aL (aJ ?_))
  obtain⟨x22,hx23⟩:=kX al k (by omega)
  obtain⟨ha24,cs25,hc26,rfl⟩:=hsae _ _ hx23
  refine aC (lE fM (oL ok x22.formed rfl (fun hb28 hk28=> ?_) (fun z29 z30 z31 z32 z33=> ?_)))
  ·refine gE fL (gE aU (gE (sW tx3 ha24) ?_))
   refine cU (v:= .agg #[Bx (x22.kind),Ix (x22.owner),Ix (x22.other),Ix (x22.hold),Ix (x22.a.a0),Ix (x22.a.a1),Ix (x22.a.a2),Ix (x22.a.a3)]) rfl rfl rfl rfl rfl (fV tx4.ok rfl (kB hc26) rfl) ?_
   refine eM rfl rfl rfl rfl rfl (cT (vs:=[.agg #[Bx (x22.kind),Ix (x22.owner),Ix (x22.other),Ix (x22.hold),Ix (x22.a.a0),Ix (x22.a.a1),Ix (x22.a.a2),Ix (x22.a.a3)]]) tx5.ok rfl rfl) ?_
   intro w hw
   obtain⟨β1,sb,kn,hw1,back⟩:=St.frame_all hw
   refine(aIz β1 w hw1 x22).mono ?_
   rintro e w' ⟨rfl,hw'⟩
   refine⟨_,rfl,_,back _ _ hw',?_⟩
   refine lE eF ?_
   exact hk28 _ _ _ _ _
  refine lE dP (aH (aP (bA (aC (lE aU (lv (v:=Nx (k+1)) (bO rfl rfl (cW (by omega) (by omega))) (lE bN (aH ?_))))))))
  exact bG ⟨(k+1,(ok&&x22.formed)),⟨⟨rfl,rfl,rfl,rfl,rfl,rfl,rfl,rfl⟩,rfl,⟨by omega,by rw[aPi hx23,hok,Bool.and_assoc]⟩⟩,(show al.length-(k+1)<al.length-k from by omega)⟩
 refine cK (aF (aF (cL (qV (aL ?_)))))
 have hdf:ok=cO au nu al:=by rw[hok,List.take_of_length_le (by omega),hE];rfl
 refine aC (lE fM (lE mB (aN (fH (!ok) rfl (fun hc34=> ?_) (fun hc34=> ?_)))))
 ·refine bD (lE (dK 2) ?_)
  refine lv (v:= .agg #[.bool false,.int .i64 (0),.int .i64 (0),.slice none 0 0]) (bV tx1.ok tx7 (vs:=[]) (cells:= #[.bool false,.int .i64 (0),.int .i64 (0),.slice none 0 0]) rfl rfl) ?_
  refine lu (mS 1 (#[sB p1 rh.ps (c1),sB p2 rh.hs (c2),Ix (rh.last),Ix (rh.su.a0),Ix (rh.su.a1),Ix (rh.su.a2),Ix (rh.su.a3),sB p3 hd (c3)])) ?_
  refine lu (mS 0 (#[.bool false,.int .i64 (0),.int .i64 (0),.slice none 0 0])) (lE bN (aN (aV (aI ?_))))
  refine gK (m:=[.agg #[sB p1 rh.ps (c1),sB p2 rh.hs (c2),Ix (rh.last),Ix (rh.su.a0),Ix (rh.su.a1),Ix (rh.su.a2),Ix (rh.su.a3),sB p3 hd (c3)],.agg #[.bool false,.int .i64 (0),.int .i64 (0),.slice none 0 0],.int .i64 (2)]) Tryz.results24 ⟨bS tx6.ok rfl (cD 1 rfl rfl) rfl,bS tx8.ok rfl (cD 0 rfl rfl) rfl,eP (v:= .int .i64 (2)) rfl,trivial⟩ rfl ?_
  intro w hw
  refine .inl ⟨dR,2,none,0,aVg (by rw[←hdf];cases ok<;>simp_all),?_,.inl ⟨rfl,rfl,rfl⟩,aG [false,false,false] rfl hw⟩
  rfl
 refine eB (aL ?_)
 have hfm:cO au nu al=true:=by rw[←hdf];cases ok<;>simp_all
 obtain⟨-,-,han,hfa⟩:=fJ.1 hfm
 rcases hfz:mE hd au with _|m
 ·have hrf:=aKj hz (hhd▸hfz)
  rw[←hds]at hrf
  refine aC (lE (dK 2) (lE aU ?_))
  refine gI gH (fun w β1 sb kn hw1=>vH β1 w hw1 _ _ _ _ _ _ _ _ _ hd (Sl.mono _ _ _ _ _ sb hsp3) (by omega) au xE false (by rw[hfz];rfl) (by rw[hfz];rfl)) ?_
  refine lE oM (lE rG (lE yA (gB fun b35=> ?_)))
  refine lu (mS 0 (#[.int .i64 (0),.int .i64 (0),.slice none 0 0,.bool false,.int .i64 (0),.int .i64 (0),.slice none 0 0])) (lE dP (aN (eR ?_)))
  refine aC (lE fM (lE fM (iP (iP (iP (iP (lE dT (aN (cR rfl (eB (eR (aC (lE fM (lE fM (iP (iP (iP (iP (lE dT (aN ?_))))))))))))))))))))
  refine cR rfl (eB (bD (lE (dK 3) (lE aU (lE aU (lE fL ?_))))))
  refine pV (cT (vs:=[.agg #[sB p1 rh.ps (c1),sB p2 rh.hs (c2),Ix (rh.last),Ix (rh.su.a0),Ix (rh.su.a1),Ix (rh.su.a2),Ix (rh.su.a3),sB p3 hd (c3)],Ix (au),Ix (nu),sB pa al (ca)]) bHj.ok rfl rfl) rfl fun w β1 sb kn hw1 back=>(aBx β1 w hw1 rh p1 p2 p3 c1 c2 c3 hd (Sl.mono _ _ _ _ _ sb hsp1) (Sl.mono _ _ _ _ _ sb hsp2) (Sl.mono _ _ _ _ _ sb hsp3) hdn s0 hr0 hg0 hl62 au nu pa ca al (Sl.mono _ _ _ _ _ sb hsa) hfa (by omega) (aS rh rh [] 0 al) rfl).mono ?_
  rintro e w' ⟨pp36,pc37,hp38,hc39,dp40,dc41,q42,qk43,rfl,hw'⟩
  refine⟨_,rfl,_,back _ _ hw',?_⟩
  refine lE oM (lE rG (lE rG (gB fun b44=>gB fun b45=> ?_)))
  refine lu (mS 1 (#[sB pp36 (aS rh rh [] 0 al).1.ps pc37,sB hp38 (aS rh rh [] 0 al).1.hs hc39,Ix ((aS rh rh [] 0 al).1.last),Ix ((aS rh rh [] 0 al).1.su.a0),Ix ((aS rh rh [] 0 al).1.su.a1),Ix ((aS rh rh [] 0 al).1.su.a2),Ix ((aS rh rh [] 0 al).1.su.a3),sB dp40 (⟨au,nu,pa,al.length,ca,(aS rh rh [] 0 al).2.done,(aS rh rh [] 0 al).2.at_,(aS rh rh [] 0 al).2.e,q42,(aS rh rh [] 0 al).2.holds.length,qk43⟩::gD au hd:List KMh) dc41])) ?_
  refine lu (mS 0 (#[.bool ((aS rh rh [] 0 al).2.done),Ix ((aS rh rh [] 0 al).2.at_),Ix ((aS rh rh [] 0 al).2.e),sB q42 (aS rh rh [] 0 al).2.holds qk43])) ?_
  refine aN (aL ?_)
  refine jS [sv 122 (.agg #[sB pp36 (aS rh rh [] 0 al).1.ps pc37,sB hp38 (aS rh rh [] 0 al).1.hs hc39,Ix ((aS rh rh [] 0 al).1.last),Ix ((aS rh rh [] 0 al).1.su.a0),Ix ((aS rh rh [] 0 al).1.su.a1),Ix ((aS rh rh [] 0 al).1.su.a2),Ix ((aS rh rh [] 0 al).1.su.a3),sB dp40 (⟨au,nu,pa,al.length,ca,(aS rh rh [] 0 al).2.done,(aS rh rh [] 0 al).2.at_,(aS rh rh [] 0 al).2.e,q42,(aS rh rh [] 0 al).2.holds.length,qk43⟩::gD au hd:List KMh) dc41]) [] [] [0],sv 123 (.agg #[.bool ((aS rh rh [] 0 al).2.done),Ix ((aS rh rh [] 0 al).2.at_),Ix ((aS rh rh [] 0 al).2.e),sB q42 (aS rh rh [] 0 al).2.holds qk43]) [] [] [1],⟨[0],[0],[2],[],fun _=>True⟩,⟨[0,1,2],[1],[3],[],fun _=>True⟩,sv 10 (.int .i64 (0)) [0,1,2,3] [] []] [u1 [1],u1 [0],u0,u0,u0,u0,u0,(some 3,[3]),(some 2,[2])] [⟨(some 2),none,[],[],fun _=>pt b2 (.cells #[sB pp36 (aS rh rh [] 0 al).1.ps pc37,sB hp38 (aS rh rh [] 0 al).1.hs hc39,Ix ((aS rh rh [] 0 al).1.last),Ix ((aS rh rh [] 0 al).1.su.a0),Ix ((aS rh rh [] 0 al).1.su.a1),Ix ((aS rh rh [] 0 al).1.su.a2),Ix ((aS rh rh [] 0 al).1.su.a3),sB dp40 (⟨au,nu,pa,al.length,ca,(aS rh rh [] 0 al).2.done,(aS rh rh [] 0 al).2.at_,(aS rh rh [] 0 al).2.e,q42,(aS rh rh [] 0 al).2.holds.length,qk43⟩::gD au hd:List KMh) dc41] 62)⟩,⟨(some 3),none,[],[],fun _=>pt b3 (.cells #[.bool ((aS rh rh [] 0 al).2.done),Ix ((aS rh rh [] 0 al).2.at_),Ix ((aS rh rh [] 0 al).2.e),sB q42 (aS rh rh [] 0 al).2.holds qk43] 66)⟩] [(17,pp b44 0),(18,pp b45 0),(8,pp b2 0),(9,pp b3 0)] [2,3] ⟨rfl,rfl,rfl,rfl,trivial⟩ ⟨?_,?_,?_,?_,?_,trivial⟩ ?_
  ·rintro f M-⟨i0,-⟩
   exact aT (dK 0)
  ·rintro f M-⟨i0,-⟩
   exact aT (dK 0)
  ·rintro f M ⟨k0,-⟩ ⟨i0,-⟩
   refine dL (aA (d:=122) (aA (d:=8) rfl i0) k0) ?_
   refine lu (mS 0 (#[sB pp36 (aS rh rh [] 0 al).1.ps pc37,sB hp38 (aS rh rh [] 0 al).1.hs hc39,Ix ((aS rh rh [] 0 al).1.last),Ix ((aS rh rh [] 0 al).1.su.a0),Ix ((aS rh rh [] 0 al).1.su.a1),Ix ((aS rh rh [] 0 al).1.su.a2),Ix ((aS rh rh [] 0 al).1.su.a3),sB dp40 (⟨au,nu,pa,al.length,ca,(aS rh rh [] 0 al).2.done,(aS rh rh [] 0 al).2.at_,(aS rh rh [] 0 al).2.e,q42,(aS rh rh [] 0 al).2.holds.length,qk43⟩::gD au hd:List KMh) dc41])) ?_
   refine aH ?_
   exact bC (aA (d:=122) (aA (d:=8) rfl i0) k0) trivial (aB 0 rfl)
  ·rintro f M ⟨k0,-⟩ ⟨i0,-⟩
   refine dL (aA (d:=123) (aA (d:=9) rfl i0) k0) ?_
   refine lu (mS 0 (#[.bool ((aS rh rh [] 0 al).2.done),Ix ((aS rh rh [] 0 al).2.at_),Ix ((aS rh rh [] 0 al).2.e),sB q42 (aS rh rh [] 0 al).2.holds qk43])) ?_
   refine aH ?_
   exact bC (aA (d:=123) (aA (d:=9) rfl i0) k0) trivial (aB 0 rfl)
  ·rintro f M- -
   exact aT bN
  rintro fa46 ⟨-,-,-,-,k4,-⟩ ⟨j0,j1,-⟩
  refine jD ?_
  refine aD (d:=8) j0 (aD (d:=9) j1 (aD (d:=10) k4 (ftr ?_)))
  refine gK (m:=[.agg #[sB pp36 (aS rh rh [] 0 al).1.ps pc37,sB hp38 (aS rh rh [] 0 al).1.hs hc39,Ix ((aS rh rh [] 0 al).1.last),Ix ((aS rh rh [] 0 al).1.su.a0),Ix ((aS rh rh [] 0 al).1.su.a1),Ix ((aS rh rh [] 0 al).1.su.a2),Ix ((aS rh rh [] 0 al).1.su.a3),sB dp40 (⟨au,nu,pa,al.length,ca,(aS rh rh [] 0 al).2.done,(aS rh rh [] 0 al).2.at_,(aS rh rh [] 0 al).2.e,q42,(aS rh rh [] 0 al).2.holds.length,qk43⟩::gD au hd:List KMh) dc41],.agg #[.bool ((aS rh rh [] 0 al).2.done),Ix ((aS rh rh [] 0 al).2.at_),Ix ((aS rh rh [] 0 al).2.e),sB q42 (aS rh rh [] 0 al).2.holds qk43],.int .i64 (0)]) Tryz.results24 ⟨bS tx6.ok rfl (cD 8 rfl rfl) rfl,bS tx8.ok rfl (cD 9 rfl rfl) rfl,eP (v:= .int .i64 (0)) rfl,trivial⟩ rfl ?_
  intro w hw
  replace hw:=hw.perm (L':=[gZ kF 128 p1 c1 rh.ps pp36 pc37 ((aS rh rh [] 0 al).1.ps),gZ fG 130 p2 c2 rh.hs hp38 hc39 ((aS rh rh [] 0 al).1.hs),aK xF 122 dp40 dc41 (⟨au,nu,pa,al.length,ca,(aS rh rh [] 0 al).2.done,(aS rh rh [] 0 al).2.at_,(aS rh rh [] 0 al).2.e,q42,(aS rh rh [] 0 al).2.holds.length,qk43⟩::gD au hd:List KMh),aK aZ 3 q42 qk43 ((aS rh rh [] 0 al).2.holds),pt b45 (.cells #[.bool ((aS rh rh [] 0 al).2.done),Ix ((aS rh rh [] 0 al).2.at_),Ix ((aS rh rh [] 0 al).2.e),sB q42 (aS rh rh [] 0 al).2.holds qk43] 66),pt b44 (.cells #[sB pp36 (aS rh rh [] 0 al).1.ps pc37,sB hp38 (aS rh rh [] 0 al).1.hs hc39,Ix ((aS rh rh [] 0 al).1.last),Ix ((aS rh rh [] 0 al).1.su.a0),Ix ((aS rh rh [] 0 al).1.su.a1),Ix ((aS rh rh [] 0 al).1.su.a2),Ix ((aS rh rh [] 0 al).1.su.a3),sB dp40 (⟨au,nu,pa,al.length,ca,(aS rh rh [] 0 al).2.done,(aS rh rh [] 0 al).2.at_,(aS rh rh [] 0 al).2.e,q42,(aS rh rh [] 0 al).2.holds.length,qk43⟩::gD au hd:List KMh) dc41] 62),pt b35 (.cells #[.int .i64 (0),.int .i64 (0),.slice none 0 0,.bool false,.int .i64 (0),.int .i64 (0),.slice none 0 0] 122),pt b1 (.cells #[sB p1 rh.ps (c1),sB p2 rh.hs (c2),Ix (rh.last),Ix (rh.su.a0),Ix (rh.su.a1),Ix (rh.su.a2),Ix (rh.su.a3),sB p3 hd (c3)] 62),pt b2 (.cells #[sB pp36 (aS rh rh [] 0 al).1.ps pc37,sB hp38 (aS rh rh [] 0 al).1.hs hc39,Ix ((aS rh rh [] 0 al).1.last),Ix ((aS rh rh [] 0 al).1.su.a0),Ix ((aS rh rh [] 0 al).1.su.a1),Ix ((aS rh rh [] 0 al).1.su.a2),Ix ((aS rh rh [] 0 al).1.su.a3),sB dp40 (⟨au,nu,pa,al.length,ca,(aS rh rh [] 0 al).2.done,(aS rh rh [] 0 al).2.at_,(aS rh rh [] 0 al).2.e,q42,(aS rh rh [] 0 al).2.holds.length,qk43⟩::gD au hd:List KMh) dc41] 62),pt b3 (.cells #[.bool ((aS rh rh [] 0 al).2.done),Ix ((aS rh rh [] 0 al).2.at_),Ix ((aS rh rh [] 0 al).2.e),sB q42 (aS rh rh [] 0 al).2.holds qk43] 66)]) (by exact(aW [2,3,4,5,0,1,6,7,8,9] 10 rfl (by kernel_rfl) (by kernel_rfl)))
  replace hw:=aG (L':=[gZ kF 128 p1 c1 rh.ps pp36 pc37 ((aS rh rh [] 0 al).1.ps),gZ fG 130 p2 c2 rh.hs hp38 hc39 ((aS rh rh [] 0 al).1.hs),aK xF 122 dp40 dc41 (⟨au,nu,pa,al.length,ca,(aS rh rh [] 0 al).2.done,(aS rh rh [] 0 al).2.at_,(aS rh rh [] 0 al).2.e,q42,(aS rh rh [] 0 al).2.holds.length,qk43⟩::gD au hd:List KMh),aK aZ 3 q42 qk43 ((aS rh rh [] 0 al).2.holds)]) [true,true,true,true,false,false,false,false,false,false] rfl hw
  exact .inr ⟨aMg hfm hrf,hfm,pp36,pc37,hp38,hc39,dp40,dc41,q42,qk43,rfl,hw⟩
 obtain⟨mm,hmz,hrf⟩:=aKk hz (hhd▸hfz)
 rw[←hds]at hrf
 have hmo:=hpool _ hmz
 have hmnu:=hmo.nu
 have hma:=hmo.acts
 obtain⟨hmn,hml,hmx,hme⟩:=gA hma
 have hmh:=(gA hmo.holds).1
 simp only[]at hmnu hmn hml hmx hme hma hmh
 refine aC (lE (dK 2) (lE aU ?_))
 refine gI gH (fun w β1 sb kn hw1=>vH β1 w hw1 _ _ _ _ _ _ _ _ _ hd (Sl.mono _ _ _ _ _ sb hsp3) (by omega) au m true (by rw[hfz];rfl) (by rw[hfz];rfl)) ?_
 refine lE oM (lE rG (lE yA (gB fun b47=> ?_)))
 refine lu (mS 0 (#[Ix (m.author),Ix (m.number),.slice m.p (m.n) m.c,.bool (m.done),Ix (m.at_),Ix (m.e),.slice m.q (m.m) m.k])) (lE dP (aN (eR ?_)))
 refine aC (lE fM (lE fM (gE aY (gE (cY 0) (gE aU (gE fD (lE eF (aN (cN _ rfl (fun hc48=> ?_) (fun hc48=> ?_))))))))))
 ·refine bD (lE aY (lE (fQ 0) (lE gY (lE fL (lE gY (lE fD (lE dP (aN (eR ?_)))))))))
  refine bJ 15 (v:= .bool (decide (mm.d.acts.length=al.length))) (congrArg Value.bool (decide_eq_decide.2 (by omega))) (aC (lE bN (aN ?_)))
  refine aJ ?_
  refine cZ (fun(x_:Nat×Bool) f L=>match x_ with|(j,sm)=>(f 3=sB pa al (ca)∧f 4=pp b1 0∧f 8=pp b2 0∧f 9=pp b3 0∧f 13=pp b47 0∧f 15= .bool (sm)∧f 16=Nx (j))∧L=[pt b47 (.cells #[Ix (m.author),Ix (m.number),.slice m.p (m.n) (m.c),.bool (m.done),Ix (m.at_),Ix (m.e),.slice m.q (m.m) m.k] 122),pt b3 (.cells #[.bool false,.int .i64 (0),.int .i64 (0),.slice none 0 0] 66),pt b2 (.cells #[.slice none 0 0,.slice none 0 0,.int .i64 (0),.int .i64 (0),.int .i64 (0),.int .i64 (0),.int .i64 (0),.slice none 0 0] 62),pt b1 (.cells #[sB p1 rh.ps (c1),sB p2 rh.hs (c2),Ix (rh.last),Ix (rh.su.a0),Ix (rh.su.a1),Ix (rh.su.a2),Ix (rh.su.a3),sB p3 hd (c3)] 62)]∧(j≤al.length∧sm=decide (mm.d.acts.length=al.length∧mm.d.acts.take j=al.take j))) (fun(j,sm)=>al.length-j) (0,(decide (mm.d.acts.length=al.length))) ?_ ?_
  ·exact⟨⟨rfl,rfl,rfl,rfl,rfl,rfl,rfl⟩,rfl,⟨Nat.zero_le _,aQc⟩⟩
  rintro⟨j,sm⟩ f0 L0 ⟨⟨hs3,hs4,hs8,hs9,hs13,hs15,hs16⟩,hL,⟨hj,hsm⟩⟩
  subst L0
  refine bJ 3 hs3 (bJ 4 hs4 (bJ 8 hs8 (bJ 9 hs9 (bJ 13 hs13 (bJ 15 hs15 (bJ 16 hs16 (eR (aC (lE aU (lE fL (lE gY (lE gN ?_))))))))))))
  refine bCe (decide (((j:Nat):Int)<((al.length:Nat):Int))) sm rfl (fun hb49 hk49=> ?_) (fun z50=> ?_)
  ·have hb49p:=of_decide_eq_true hb49
   refine gE fM (lE eF ?_)
   exact hk49 _
  refine aN (fH (((decide (((j:Nat):Int)<((al.length:Nat):Int)))&&sm)) rfl (fun hc51=> ?_) (fun hc51=> ?_))
  ·refine eB (aL (aJ ?_))
   have hand:=hc51
   rw[Bool.and_eq_true]at hand
   have hkl:j<al.length:=by have:=of_decide_eq_true hand.1;omega
   have hsmt:=hand.2
   subst hsmt
   have hlen:=(of_decide_eq_true hsm.symm).1
   refine gS (by kernel_rfl) (by kernel_rfl) (qE aY (qE (fQ 0) (qE aU ?_)))
   obtain⟨x52,hx53⟩:=kX mm.d.acts j (by omega)
   obtain⟨ha54,cs55,hc56,rfl⟩:=hme _ _ hx53
   refine qE (sW tx3 ha54) ?_
   refine dU (v:= .agg #[Bx (x52.kind),Ix (x52.owner),Ix (x52.other),Ix (x52.hold),Ix (x52.a.a0),Ix (x52.a.a1),Ix (x52.a.a2),Ix (x52.a.a3)]) rfl rfl rfl (fV tx4.ok rfl (kB hc56) rfl) ?_
   refine qE fL (qE aU ?_)
   obtain⟨x58,hx59⟩:=kX al j (by omega)
   obtain⟨ha60,cs61,hc62,rfl⟩:=hsae _ _ hx59
   refine qE (sW tx3 ha60) ?_
   refine dU (v:= .agg #[Bx (x58.kind),Ix (x58.owner),Ix (x58.other),Ix (x58.hold),Ix (x58.a.a0),Ix (x58.a.a1),Ix (x58.a.a2),Ix (x58.a.a3)]) rfl rfl rfl (fV tx4.ok rfl (kB hc62) rfl) ?_
   refine dU (v:= .bool (decide (x52=x58))) rfl rfl rfl (qF (xs:=xH x52) (ys:=xH x58) bJv bJw bJx rfl rfl rfl rfl (aHq (x:=x52) (y:=x58))) ?_
   refine qE dP (lB (aP (bA (aC (lE aU (lv (v:=Nx (j+1)) (bO rfl rfl (cW (by omega) (by omega))) (lE bN (aH ?_))))))))
   exact bG ⟨(j+1,decide (x52=x58)),⟨⟨rfl,rfl,rfl,rfl,rfl,rfl,rfl⟩,rfl,⟨by omega,aQb hx53 hx59 hsm⟩⟩,(show al.length-(j+1)<al.length-j from by omega)⟩
  refine cK (aF (aF (cL (qV (aL ?_)))))
  have hsd:sm=decide (mm.d.acts=al):=by
   rcases Bool.and_eq_false_iff.1 (show(decide (((j:Nat):Int)<((al.length:Nat):Int))&&sm)=false from hc51)with h1|h1
   ·exact aQa (by have:=of_decide_eq_false h1;omega) hsm
   ·exact aVo h1 hsm
  refine aC (lE fM (aN (fH (sm) rfl (fun hc64=> ?_) (fun hc64=> ?_))))
  ·refine aL ?_
   refine jS [sv 100 (.agg #[sB p1 rh.ps (c1),sB p2 rh.hs (c2),Ix (rh.last),Ix (rh.su.a0),Ix (rh.su.a1),Ix (rh.su.a2),Ix (rh.su.a3),sB p3 hd (c3)]) [] [] [0],sv 101 (pp b47 3) [] [] [1],sv 102 (.agg #[.bool (m.done),Ix (m.at_),Ix (m.e),.slice m.q (m.m) m.k]) [1] [1] [],⟨[0],[0],[2],[],fun _=>True⟩,⟨[0,1,2,3],[2],[3],[],fun _=>True⟩,sv 10 (.int .i64 (0)) [0,1,2,3,4] [] []] [u1 [2],(some 4,[4]),(some 3,[3]),u1 [0]] [⟨(some 3),none,[],[],fun _=>pt b2 (.cells #[sB p1 rh.ps (c1),sB p2 rh.hs (c2),Ix (rh.last),Ix (rh.su.a0),Ix (rh.su.a1),Ix (rh.su.a2),Ix (rh.su.a3),sB p3 hd (c3)] 62)⟩,⟨(some 4),none,[],[],fun _=>pt b3 (.cells #[.bool (m.done),Ix (m.at_),Ix (m.e),.slice m.q (m.m) m.k] 66)⟩] [(4,pp b1 0),(13,pp b47 0),(8,pp b2 0),(9,pp b3 0)] [2,3] ⟨rfl,rfl,rfl,rfl,trivial⟩ ⟨?_,?_,?_,?_,?_,?_,trivial⟩ ?_
   ·rintro f M-⟨i0,-⟩
    exact aT (dK 0)
   ·rintro f M-⟨i0,-⟩
    exact aT aY
   ·rintro f M ⟨k0,-⟩-
    exact aT (dK 0)
   ·rintro f M ⟨k0,-⟩ ⟨i0,-⟩
    refine dL (aA (d:=100) (aA (d:=8) rfl i0) k0) ?_
    refine lu (mS 0 (#[sB p1 rh.ps (c1),sB p2 rh.hs (c2),Ix (rh.last),Ix (rh.su.a0),Ix (rh.su.a1),Ix (rh.su.a2),Ix (rh.su.a3),sB p3 hd (c3)])) (aH ?_)
    exact bC (aA (d:=100) (aA (d:=8) rfl i0) k0) trivial (aB 0 rfl)
   ·rintro f M ⟨k0,-⟩ ⟨i0,-⟩
    refine dL (aA (d:=102) (aA (d:=9) rfl i0) k0) ?_
    refine lu (mS 0 (#[.bool (m.done),Ix (m.at_),Ix (m.e),.slice m.q (m.m) m.k])) (aH ?_)
    exact bC (aA (d:=102) (aA (d:=9) rfl i0) k0) trivial (aB 0 rfl)
   ·rintro f M- -
    exact aT bN
   rintro fa65 ⟨-,-,-,-,-,k5,-⟩ ⟨j0,j1,-⟩
   refine jD ?_
   refine aD (d:=8) j0 (aD (d:=9) j1 (aD (d:=10) k5 (ftr (aI (aI ?_)))))
   refine gK (m:=[.agg #[sB p1 rh.ps (c1),sB p2 rh.hs (c2),Ix (rh.last),Ix (rh.su.a0),Ix (rh.su.a1),Ix (rh.su.a2),Ix (rh.su.a3),sB p3 hd (c3)],.agg #[.bool (m.done),Ix (m.at_),Ix (m.e),.slice m.q (m.m) m.k],.int .i64 (0)]) Tryz.results24 ⟨bS tx6.ok rfl (cD 2 rfl rfl) rfl,bS tx8.ok rfl (cD 3 rfl rfl) rfl,eP (v:= .int .i64 (0)) rfl,trivial⟩ rfl ?_
   intro w hw
   refine .inl ⟨mm.r,0,m.q,m.k,aPk hfm hrf (by omega) (of_decide_eq_true (hsd.symm.trans hc64)),?_,.inr ⟨_,hmz,rfl,rfl,rfl⟩,aG [false,false,false,false] rfl hw⟩
   unfold sB rsv;rw[←show m.done=mm.r.done from hmo.dn,←show m.at_=mm.r.at_ from hmo.at_,←show m.e=mm.r.e from hmo.e,←hmh];try rfl
  refine eB (bD (lE (dK 3) ?_))
  refine lv (v:= .agg #[.bool false,.int .i64 (0),.int .i64 (0),.slice none 0 0]) (bV tx1.ok tx7 (vs:=[]) (cells:= #[.bool false,.int .i64 (0),.int .i64 (0),.slice none 0 0]) rfl rfl) ?_
  refine lu (mS 2 (#[sB p1 rh.ps (c1),sB p2 rh.hs (c2),Ix (rh.last),Ix (rh.su.a0),Ix (rh.su.a1),Ix (rh.su.a2),Ix (rh.su.a3),sB p3 hd (c3)])) ?_
  refine lu (mS 1 (#[.bool false,.int .i64 (0),.int .i64 (0),.slice none 0 0])) (lE bN (aN (aV (aI ?_))))
  refine gK (m:=[.agg #[sB p1 rh.ps (c1),sB p2 rh.hs (c2),Ix (rh.last),Ix (rh.su.a0),Ix (rh.su.a1),Ix (rh.su.a2),Ix (rh.su.a3),sB p3 hd (c3)],.agg #[.bool false,.int .i64 (0),.int .i64 (0),.slice none 0 0],.int .i64 (331)]) Tryz.results24 ⟨bS tx6.ok rfl (cD 2 rfl rfl) rfl,bS tx8.ok rfl (cD 1 rfl rfl) rfl,eP (v:= .int .i64 (331)) rfl,trivial⟩ rfl ?_
  intro w hw
  refine .inl ⟨dR,331,none,0,aMh hfm hrf (by omega) (of_decide_eq_false (hsd.symm.trans hc64)),?_,.inl ⟨rfl,rfl,rfl⟩,aG [false,false,false,false] rfl hw⟩
  rfl
 refine eB (eR (aC (lE fM (lE fM (gE aY (gE (cY 0) (gE aU (gE oQ (lE eF (aN (cN _ rfl (fun hc66=> ?_) (fun hc66=> ?_))))))))))))
 ·refine bD (lE (dK 3) ?_)
  refine lv (v:= .agg #[.bool false,.int .i64 (0),.int .i64 (0),.slice none 0 0]) (bV tx1.ok tx7 (vs:=[]) (cells:= #[.bool false,.int .i64 (0),.int .i64 (0),.slice none 0 0]) rfl rfl) ?_
  refine lu (mS 2 (#[sB p1 rh.ps (c1),sB p2 rh.hs (c2),Ix (rh.last),Ix (rh.su.a0),Ix (rh.su.a1),Ix (rh.su.a2),Ix (rh.su.a3),sB p3 hd (c3)])) ?_
  refine lu (mS 1 (#[.bool false,.int .i64 (0),.int .i64 (0),.slice none 0 0])) (lE bN (aN (aV (aI ?_))))
  refine gK (m:=[.agg #[sB p1 rh.ps (c1),sB p2 rh.hs (c2),Ix (rh.last),Ix (rh.su.a0),Ix (rh.su.a1),Ix (rh.su.a2),Ix (rh.su.a3),sB p3 hd (c3)],.agg #[.bool false,.int .i64 (0),.int .i64 (0),.slice none 0 0],.int .i64 (332)]) Tryz.results24 ⟨bS tx6.ok rfl (cD 2 rfl rfl) rfl,bS tx8.ok rfl (cD 1 rfl rfl) rfl,eP (v:= .int .i64 (332)) rfl,trivial⟩ rfl ?_
  intro w hw
  refine .inl ⟨dR,332,none,0,aVi hfm hrf (by omega) (by omega),?_,.inl ⟨rfl,rfl,rfl⟩,aG [false,false,false,false] rfl hw⟩
  rfl
 refine eB (bD (lE (dK 3) (lE aU (lE aU (lE fL ?_)))))
 refine pV (cT (vs:=[.agg #[sB p1 rh.ps (c1),sB p2 rh.hs (c2),Ix (rh.last),Ix (rh.su.a0),Ix (rh.su.a1),Ix (rh.su.a2),Ix (rh.su.a3),sB p3 hd (c3)],Ix (au),Ix (nu),sB pa al (ca)]) bHj.ok rfl rfl) rfl fun w β1 sb kn hw1 back=>(aBx β1 w hw1 rh p1 p2 p3 c1 c2 c3 hd (Sl.mono _ _ _ _ _ sb hsp1) (Sl.mono _ _ _ _ _ sb hsp2) (Sl.mono _ _ _ _ _ sb hsp3) hdn s0 hr0 hg0 hl62 au nu pa ca al (Sl.mono _ _ _ _ _ sb hsa) hfa (by omega) (aS rh rh [] 0 al) rfl).mono ?_
 rintro e w' ⟨pp67,pc68,hp69,hc70,dp71,dc72,q73,qk74,rfl,hw'⟩
 refine⟨_,rfl,_,back _ _ hw',?_⟩
 refine lE oM (lE rG (lE rG (gB fun b75=>gB fun b76=> ?_)))
 refine lu (mS 1 (#[sB pp67 (aS rh rh [] 0 al).1.ps pc68,sB hp69 (aS rh rh [] 0 al).1.hs hc70,Ix ((aS rh rh [] 0 al).1.last),Ix ((aS rh rh [] 0 al).1.su.a0),Ix ((aS rh rh [] 0 al).1.su.a1),Ix ((aS rh rh [] 0 al).1.su.a2),Ix ((aS rh rh [] 0 al).1.su.a3),sB dp71 (⟨au,nu,pa,al.length,ca,(aS rh rh [] 0 al).2.done,(aS rh rh [] 0 al).2.at_,(aS rh rh [] 0 al).2.e,q73,(aS rh rh [] 0 al).2.holds.length,qk74⟩::gD au hd:List KMh) dc72])) ?_
 refine lu (mS 0 (#[.bool ((aS rh rh [] 0 al).2.done),Ix ((aS rh rh [] 0 al).2.at_),Ix ((aS rh rh [] 0 al).2.e),sB q73 (aS rh rh [] 0 al).2.holds qk74])) ?_
 refine aN (aL ?_)
 refine jS [sv 122 (.agg #[sB pp67 (aS rh rh [] 0 al).1.ps pc68,sB hp69 (aS rh rh [] 0 al).1.hs hc70,Ix ((aS rh rh [] 0 al).1.last),Ix ((aS rh rh [] 0 al).1.su.a0),Ix ((aS rh rh [] 0 al).1.su.a1),Ix ((aS rh rh [] 0 al).1.su.a2),Ix ((aS rh rh [] 0 al).1.su.a3),sB dp71 (⟨au,nu,pa,al.length,ca,(aS rh rh [] 0 al).2.done,(aS rh rh [] 0 al).2.at_,(aS rh rh [] 0 al).2.e,q73,(aS rh rh [] 0 al).2.holds.length,qk74⟩::gD au hd:List KMh) dc72]) [] [] [0],sv 123 (.agg #[.bool ((aS rh rh [] 0 al).2.done),Ix ((aS rh rh [] 0 al).2.at_),Ix ((aS rh rh [] 0 al).2.e),sB q73 (aS rh rh [] 0 al).2.holds qk74]) [] [] [1],⟨[0],[0],[2],[],fun _=>True⟩,⟨[0,1,2],[1],[3],[],fun _=>True⟩,sv 10 (.int .i64 (0)) [0,1,2,3] [] []] [u1 [1],u1 [0],u0,u0,u0,u0,u0,(some 3,[3]),(some 2,[2])] [⟨(some 2),none,[],[],fun _=>pt b2 (.cells #[sB pp67 (aS rh rh [] 0 al).1.ps pc68,sB hp69 (aS rh rh [] 0 al).1.hs hc70,Ix ((aS rh rh [] 0 al).1.last),Ix ((aS rh rh [] 0 al).1.su.a0),Ix ((aS rh rh [] 0 al).1.su.a1),Ix ((aS rh rh [] 0 al).1.su.a2),Ix ((aS rh rh [] 0 al).1.su.a3),sB dp71 (⟨au,nu,pa,al.length,ca,(aS rh rh [] 0 al).2.done,(aS rh rh [] 0 al).2.at_,(aS rh rh [] 0 al).2.e,q73,(aS rh rh [] 0 al).2.holds.length,qk74⟩::gD au hd:List KMh) dc72] 62)⟩,⟨(some 3),none,[],[],fun _=>pt b3 (.cells #[.bool ((aS rh rh [] 0 al).2.done),Ix ((aS rh rh [] 0 al).2.at_),Ix ((aS rh rh [] 0 al).2.e),sB q73 (aS rh rh [] 0 al).2.holds qk74] 66)⟩] [(17,pp b75 0),(18,pp b76 0),(8,pp b2 0),(9,pp b3 0)] [2,3] ⟨rfl,rfl,rfl,rfl,trivial⟩ ⟨?_,?_,?_,?_,?_,trivial⟩ ?_
 ·rintro f M-⟨i0,-⟩
  exact aT (dK 0)
 ·rintro f M-⟨i0,-⟩
  exact aT (dK 0)
 ·rintro f M ⟨k0,-⟩ ⟨i0,-⟩
  refine dL (aA (d:=122) (aA (d:=8) rfl i0) k0) ?_
  refine lu (mS 0 (#[sB pp67 (aS rh rh [] 0 al).1.ps pc68,sB hp69 (aS rh rh [] 0 al).1.hs hc70,Ix ((aS rh rh [] 0 al).1.last),Ix ((aS rh rh [] 0 al).1.su.a0),Ix ((aS rh rh [] 0 al).1.su.a1),Ix ((aS rh rh [] 0 al).1.su.a2),Ix ((aS rh rh [] 0 al).1.su.a3),sB dp71 (⟨au,nu,pa,al.length,ca,(aS rh rh [] 0 al).2.done,(aS rh rh [] 0 al).2.at_,(aS rh rh [] 0 al).2.e,q73,(aS rh rh [] 0 al).2.holds.length,qk74⟩::gD au hd:List KMh) dc72])) ?_
  refine aH ?_
  exact bC (aA (d:=122) (aA (d:=8) rfl i0) k0) trivial (aB 0 rfl)
 ·rintro f M ⟨k0,-⟩ ⟨i0,-⟩
  refine dL (aA (d:=123) (aA (d:=9) rfl i0) k0) ?_
  refine lu (mS 0 (#[.bool ((aS rh rh [] 0 al).2.done),Ix ((aS rh rh [] 0 al).2.at_),Ix ((aS rh rh [] 0 al).2.e),sB q73 (aS rh rh [] 0 al).2.holds qk74])) ?_
  refine aH ?_
  exact bC (aA (d:=123) (aA (d:=9) rfl i0) k0) trivial (aB 0 rfl)
 ·rintro f M- -
  exact aT bN
 rintro fa77 ⟨-,-,-,-,k4,-⟩ ⟨j0,j1,-⟩
 refine jD ?_
 refine aD (d:=8) j0 (aD (d:=9) j1 (aD (d:=10) k4 (ftr ?_)))
 refine gK (m:=[.agg #[sB pp67 (aS rh rh [] 0 al).1.ps pc68,sB hp69 (aS rh rh [] 0 al).1.hs hc70,Ix ((aS rh rh [] 0 al).1.last),Ix ((aS rh rh [] 0 al).1.su.a0),Ix ((aS rh rh [] 0 al).1.su.a1),Ix ((aS rh rh [] 0 al).1.su.a2),Ix ((aS rh rh [] 0 al).1.su.a3),sB dp71 (⟨au,nu,pa,al.length,ca,(aS rh rh [] 0 al).2.done,(aS rh rh [] 0 al).2.at_,(aS rh rh [] 0 al).2.e,q73,(aS rh rh [] 0 al).2.holds.length,qk74⟩::gD au hd:List KMh) dc72],.agg #[.bool ((aS rh rh [] 0 al).2.done),Ix ((aS rh rh [] 0 al).2.at_),Ix ((aS rh rh [] 0 al).2.e),sB q73 (aS rh rh [] 0 al).2.holds qk74],.int .i64 (0)]) Tryz.results24 ⟨bS tx6.ok rfl (cD 8 rfl rfl) rfl,bS tx8.ok rfl (cD 9 rfl rfl) rfl,eP (v:= .int .i64 (0)) rfl,trivial⟩ rfl ?_
 intro w hw
 replace hw:=hw.perm (L':=[gZ kF 128 p1 c1 rh.ps pp67 pc68 ((aS rh rh [] 0 al).1.ps),gZ fG 130 p2 c2 rh.hs hp69 hc70 ((aS rh rh [] 0 al).1.hs),aK xF 122 dp71 dc72 (⟨au,nu,pa,al.length,ca,(aS rh rh [] 0 al).2.done,(aS rh rh [] 0 al).2.at_,(aS rh rh [] 0 al).2.e,q73,(aS rh rh [] 0 al).2.holds.length,qk74⟩::gD au hd:List KMh),aK aZ 3 q73 qk74 ((aS rh rh [] 0 al).2.holds),pt b76 (.cells #[.bool ((aS rh rh [] 0 al).2.done),Ix ((aS rh rh [] 0 al).2.at_),Ix ((aS rh rh [] 0 al).2.e),sB q73 (aS rh rh [] 0 al).2.holds qk74] 66),pt b75 (.cells #[sB pp67 (aS rh rh [] 0 al).1.ps pc68,sB hp69 (aS rh rh [] 0 al).1.hs hc70,Ix ((aS rh rh [] 0 al).1.last),Ix ((aS rh rh [] 0 al).1.su.a0),Ix ((aS rh rh [] 0 al).1.su.a1),Ix ((aS rh rh [] 0 al).1.su.a2),Ix ((aS rh rh [] 0 al).1.su.a3),sB dp71 (⟨au,nu,pa,al.length,ca,(aS rh rh [] 0 al).2.done,(aS rh rh [] 0 al).2.at_,(aS rh rh [] 0 al).2.e,q73,(aS rh rh [] 0 al).2.holds.length,qk74⟩::gD au hd:List KMh) dc72] 62),pt b47 (.cells #[Ix (m.author),Ix (m.number),.slice m.p (m.n) (m.c),.bool (m.done),Ix (m.at_),Ix (m.e),.slice m.q (m.m) m.k] 122),pt b1 (.cells #[sB p1 rh.ps (c1),sB p2 rh.hs (c2),Ix (rh.last),Ix (rh.su.a0),Ix (rh.su.a1),Ix (rh.su.a2),Ix (rh.su.a3),sB p3 hd (c3)] 62),pt b2 (.cells #[sB pp67 (aS rh rh [] 0 al).1.ps pc68,sB hp69 (aS rh rh [] 0 al).1.hs hc70,Ix ((aS rh rh [] 0 al).1.last),Ix ((aS rh rh [] 0 al).1.su.a0),Ix ((aS rh rh [] 0 al).1.su.a1),Ix ((aS rh rh [] 0 al).1.su.a2),Ix ((aS rh rh [] 0 al).1.su.a3),sB dp71 (⟨au,nu,pa,al.length,ca,(aS rh rh [] 0 al).2.done,(aS rh rh [] 0 al).2.at_,(aS rh rh [] 0 al).2.e,q73,(aS rh rh [] 0 al).2.holds.length,qk74⟩::gD au hd:List KMh) dc72] 62),pt b3 (.cells #[.bool ((aS rh rh [] 0 al).2.done),Ix ((aS rh rh [] 0 al).2.at_),Ix ((aS rh rh [] 0 al).2.e),sB q73 (aS rh rh [] 0 al).2.holds qk74] 66)]) (by exact(aW [2,3,4,5,0,1,6,7,8,9] 10 rfl (by kernel_rfl) (by kernel_rfl)))
 replace hw:=aG (L':=[gZ kF 128 p1 c1 rh.ps pp67 pc68 ((aS rh rh [] 0 al).1.ps),gZ fG 130 p2 c2 rh.hs hp69 hc70 ((aS rh rh [] 0 al).1.hs),aK xF 122 dp71 dc72 (⟨au,nu,pa,al.length,ca,(aS rh rh [] 0 al).2.done,(aS rh rh [] 0 al).2.at_,(aS rh rh [] 0 al).2.e,q73,(aS rh rh [] 0 al).2.holds.length,qk74⟩::gD au hd:List KMh),aK aZ 3 q73 qk74 ((aS rh rh [] 0 al).2.holds)]) [true,true,true,true,false,false,false,false,false,false] rfl hw
 exact .inr ⟨aVh hfm hrf (by omega) (by omega),hfm,pp67,pc68,hp69,hc70,dp71,dc72,q73,qk74,rfl,hw⟩
open Go Go.Sl Go.Td
theorem jQ(xs:List Int):(sortI xs).length=xs.length:=(sortI_perm xs).length_eq
theorem wI{ν:Type}{pre ks:List (Int×ν)}{x:Int×ν}(h:∃rs,(pre++[x]++rs).Perm ks):∃l:List Int,l.Perm (ks.map (·.1))∧pre.map (·.1)++[x.1]<+:l:=by
 obtain⟨rs,h⟩:=h
 exact⟨(pre++[x]++rs).map (·.1),h.map _,by rw[List.map_append,List.map_append];exact List.prefix_append _ _⟩
theorem aDy{α:Type}{pre ks:List α}{x:α}(h:∃rs,(pre++[x]++rs).Perm ks):(pre++[x]).length≤ks.length:=by
 obtain⟨rs,h⟩:=h;rw[←h.length_eq];simp only[List.length_append,List.length_singleton];omega
theorem aIr{α:Type}{pre ks:List α}{x:α}(h:∃rs,(pre++[x]++rs).Perm ks):ks.length-(pre++[x]).length<ks.length-pre.length:=by
 have:=aDy h;simp at this⊢;omega
instance bFu:CfC Tryz.prog 111:={}
instance bFv:CfC Tryz.prog 77:={}
instance bFw:CfC Tryz.prog 78:={}
theorem aGh(β:Base)(w:World)(hw:St β [] w)(m:Nat):Calls Tryz.prog 43 #[.map (some m)] w fun r w'=>∃b,r= .returned (.func (.func 80) #[] #[pp b 0])∧St β [pt b (.cells #[.map (some m)] 84)] w':=by
 refine enter (n:=4) Tryz.func43 rfl Tryz.ntmps43 rfl ?_ hw
 refine bD (dA rfl rfl rfl (zE (v:= .map (some m)) rfl) ?_)
 rintro _ _ ⟨b1,rfl,rfl⟩
 refine lv eC (eY (lv (v:= .func (.func 80) #[] #[pp b1 0]) (mW (u:=[]) (v:=[pp b1 0]) rfl rfl) (lE oaf (aN (aV ?_)))))
 refine dJ Tryz.results43 rfl ?_
 intro w hw
 exact⟨b1,rfl,aG [true] rfl hw⟩
theorem aBp(β:Base)(b m:Nat)(ks:List (Int×KAm))(hm:bB cC m ks β.heap):aCu Tryz.prog β (.func (.func 80) #[] #[pp b 0]) (fun z:Int=>[Ix z]) (fun l=>l.Perm (ks.map (·.1))) [pt b (.cells #[.map (some m)] 84)]:=by
 refine⟨80,[],[pp b 0],rfl,by kernel_rfl,fun β₁ ext l J X hY M w hJ hw=> ?_⟩
 replace hw:=hw.perm (List.perm_append_comm)
 have hm:=bB.mono _ _ _ _ _ ext.1 hm
 refine enter (n:=14) Tryz.func80 rfl Tryz.ntmps80 rfl ?_ hw
 refine bD (lv (v:= .map (some m)) (bI rZ.ok rfl (cD 0 rfl rfl)) (dA rfl rfl rfl (zF (K:=cC) (b:=m) (ks:=ks) rfl rfl hm) ?_))
 rintro _ _ ⟨it1,rfl,rfl⟩
 refine aN (aJ ?_)
 refine cZ (fun(x_:List (Int×KAm)×List bU) f L=>match x_ with|(pre,M)=>(f 0=yfn l∧f 5=pp it1 0)∧L=(itR cC β₁ m it1 ks pre::pt b (.cells #[.map (some m)] 84)::M)∧(pre.length≤ks.length∧J (pre.map (·.1)) M)) (fun(pre,M)=>ks.length-pre.length) ([],M) ?_ ?_
 ·exact⟨⟨rfl,rfl⟩,rfl,⟨Nat.zero_le _,hJ⟩⟩
 rintro⟨pre,M⟩ f0 L0 ⟨⟨hs0,hs5⟩,hL,⟨hpl,hJ⟩⟩
 subst L0
 refine bJ 0 hs0 (bJ 5 hs5 (bD (dA rfl rfl rfl (aDq (K:=cC) (b:=m) (r:=it1) (ks:=ks) (pre:=pre) 0 rfl rfl) ?_)))
 rintro _ _ (⟨rfl,he4,rfl⟩|⟨x2,rfl,hx3,rfl⟩)
 ·refine lE yA (aN (aL (cR rfl (cK (aF (aF (cL (mZ Tryz.results80 ?_))))))))
  intro w hw
  exact⟨⟨_,rfl⟩,.inl ⟨_,M,he4.map _,hJ,aG [false,false] rfl hw⟩⟩
 refine lE yA (aN (aL (dN rfl (eB (aJ (bD ?_))))))
 refine lv (v:= .tuple #[Ix (x2.1),.agg (eK x2.2)]) (yR (K:=cC) (b:=m) (r:=it1) (ks:=ks) (pre:=pre) (y:=x2) 0 rfl rfl) (lE pW ?_)
 refine lE bN (eY (lv cI (lE aU ?_)))
 refine xW (own:=[itR cC β₁ m it1 ks (pre++[x2]),pt b (.cells #[.map (some m)] 84)]) (M:=M) (d:=12) (enc:=fun z:Int=>[Ix z]) (pre:=pre.map (·.1)) (x:=x2.1) rfl rfl rfl rfl hY (wI hx3) hJ (fun M1 hJ1=> ?_) (fun M1 hX1=> ?_)
 ·refine lE mB (aN (cR rfl (cG (aP ?_))))
  exact bG ⟨((pre++[x2]),M1),⟨⟨rfl,rfl⟩,rfl,⟨aDy hx3,by rw[List.map_append];exact hJ1⟩⟩,(aIr hx3)⟩
 refine lE mB (aN (dN rfl (aV (aR (aI (aR (aXv Tryz.results80 ?_)))))))
 intro w hw
 exact⟨⟨_,rfl⟩,.inr ⟨_,M1,hX1,aG [false,false] rfl hw⟩⟩
theorem aGg(β:Base)(w:World)(hw:St β [] w)(m:Nat):Calls Tryz.prog 42 #[.map (some m)] w fun r w'=>∃b,r= .returned (.func (.func 79) #[] #[pp b 0])∧St β [pt b (.cells #[.map (some m)] 85)] w':=by
 refine enter (n:=4) Tryz.func42 rfl Tryz.ntmps42 rfl ?_ hw
 refine bD (dA rfl rfl rfl (zE (v:= .map (some m)) rfl) ?_)
 rintro _ _ ⟨b1,rfl,rfl⟩
 refine lv eC (eY (lv (v:= .func (.func 79) #[] #[pp b1 0]) (mW (u:=[]) (v:=[pp b1 0]) rfl rfl) (lE oaf (aN (aV ?_)))))
 refine dJ Tryz.results42 rfl ?_
 intro w hw
 exact⟨b1,rfl,aG [true] rfl hw⟩
theorem aBo(β:Base)(b m:Nat)(ks:List (Int×KHo))(hm:bB bL m ks β.heap):aCu Tryz.prog β (.func (.func 79) #[] #[pp b 0]) (fun z:Int=>[Ix z]) (fun l=>l.Perm (ks.map (·.1))) [pt b (.cells #[.map (some m)] 85)]:=by
 refine⟨79,[],[pp b 0],rfl,by kernel_rfl,fun β₁ ext l J X hY M w hJ hw=> ?_⟩
 replace hw:=hw.perm (List.perm_append_comm)
 have hm:=bB.mono _ _ _ _ _ ext.1 hm
 refine enter (n:=14) Tryz.func79 rfl Tryz.ntmps79 rfl ?_ hw
 refine bD (lv (v:= .map (some m)) (bI vQ.ok rfl (cD 0 rfl rfl)) (dA rfl rfl rfl (zF (K:=bL) (b:=m) (ks:=ks) rfl rfl hm) ?_))
 rintro _ _ ⟨it1,rfl,rfl⟩
 refine aN (aJ ?_)
 refine cZ (fun(x_:List (Int×KHo)×List bU) f L=>match x_ with|(pre,M)=>(f 0=yfn l∧f 5=pp it1 0)∧L=(itR bL β₁ m it1 ks pre::pt b (.cells #[.map (some m)] 85)::M)∧(pre.length≤ks.length∧J (pre.map (·.1)) M)) (fun(pre,M)=>ks.length-pre.length) ([],M) ?_ ?_
 ·exact⟨⟨rfl,rfl⟩,rfl,⟨Nat.zero_le _,hJ⟩⟩
 rintro⟨pre,M⟩ f0 L0 ⟨⟨hs0,hs5⟩,hL,⟨hpl,hJ⟩⟩
 subst L0
 refine bJ 0 hs0 (bJ 5 hs5 (bD (dA rfl rfl rfl (aDq (K:=bL) (b:=m) (r:=it1) (ks:=ks) (pre:=pre) 0 rfl rfl) ?_)))
 rintro _ _ (⟨rfl,he4,rfl⟩|⟨x2,rfl,hx3,rfl⟩)
 ·refine lE yA (aN (aL (cR rfl (cK (aF (aF (cL (mZ Tryz.results79 ?_))))))))
  intro w hw
  exact⟨⟨_,rfl⟩,.inl ⟨_,M,he4.map _,hJ,aG [false,false] rfl hw⟩⟩
 refine lE yA (aN (aL (dN rfl (eB (aJ (bD ?_))))))
 refine lv (v:= .tuple #[Ix (x2.1),.agg #[Ix (x2.2.number),Ix (x2.2.owner),Ix (x2.2.a.a0),Ix (x2.2.a.a1),Ix (x2.2.a.a2),Ix (x2.2.a.a3)]]) (yR (K:=bL) (b:=m) (r:=it1) (ks:=ks) (pre:=pre) (y:=x2) 0 rfl rfl) ?_
 refine lE pW (lE bN (eY (lv cI (lE aU ?_))))
 refine xW (own:=[itR bL β₁ m it1 ks (pre++[x2]),pt b (.cells #[.map (some m)] 85)]) (M:=M) (d:=12) (enc:=fun z:Int=>[Ix z]) (pre:=pre.map (·.1)) (x:=x2.1) rfl rfl rfl rfl hY (wI hx3) hJ (fun M1 hJ1=> ?_) (fun M1 hX1=> ?_)
 ·refine lE mB (aN (cR rfl (cG (aP ?_))))
  exact bG ⟨((pre++[x2]),M1),⟨⟨rfl,rfl⟩,rfl,⟨aDy hx3,by rw[List.map_append];exact hJ1⟩⟩,(aIr hx3)⟩
 refine lE mB (aN (dN rfl (aV (aR (aI (aR (aXv Tryz.results79 ?_)))))))
 intro w hw
 exact⟨⟨_,rfl⟩,.inr ⟨_,M1,hX1,aG [false,false] rfl hw⟩⟩
theorem aRo(β:Base)(w:World)(hw:St β [] w)(m:Nat):Calls Tryz.prog 96 #[.map (some m)] w fun r w'=>∃b,r= .returned (.func (.func 121) #[] #[pp b 0])∧St β [pt b (.cells #[.map (some m)] 86)] w':=by
 refine enter (n:=4) Tryz.func96 rfl Tryz.ntmps96 rfl ?_ hw
 refine bD (dA rfl rfl rfl (zE (v:= .map (some m)) rfl) ?_)
 rintro _ _ ⟨b1,rfl,rfl⟩
 refine lv eC (eY (lv (v:= .func (.func 121) #[] #[pp b1 0]) (mW (u:=[]) (v:=[pp b1 0]) rfl rfl) (lE oaf (aN (aV ?_)))))
 refine dJ Tryz.results96 rfl ?_
 intro w hw
 exact⟨b1,rfl,aG [true] rfl hw⟩
theorem aNi(β:Base)(b m:Nat)(ks:List (Int×KMh))(hm:bB dW m ks β.heap):aCu Tryz.prog β (.func (.func 121) #[] #[pp b 0]) (fun z:Int=>[Ix z]) (fun l=>l.Perm (ks.map (·.1))) [pt b (.cells #[.map (some m)] 86)]:=by
 refine⟨121,[],[pp b 0],rfl,by kernel_rfl,fun β₁ ext l J X hY M w hJ hw=> ?_⟩
 replace hw:=hw.perm (List.perm_append_comm)
 have hm:=bB.mono _ _ _ _ _ ext.1 hm
 refine enter (n:=14) Tryz.func121 rfl Tryz.ntmps121 rfl ?_ hw
 refine bD (lv (v:= .map (some m)) (bI aEo.ok rfl (cD 0 rfl rfl)) (dA rfl rfl rfl (zF (K:=dW) (b:=m) (ks:=ks) rfl rfl hm) ?_))
 rintro _ _ ⟨it1,rfl,rfl⟩
 refine aN (aJ ?_)
 refine cZ (fun(x_:List (Int×KMh)×List bU) f L=>match x_ with|(pre,M)=>(f 0=yfn l∧f 5=pp it1 0)∧L=(itR dW β₁ m it1 ks pre::pt b (.cells #[.map (some m)] 86)::M)∧(pre.length≤ks.length∧J (pre.map (·.1)) M)) (fun(pre,M)=>ks.length-pre.length) ([],M) ?_ ?_
 ·exact⟨⟨rfl,rfl⟩,rfl,⟨Nat.zero_le _,hJ⟩⟩
 rintro⟨pre,M⟩ f0 L0 ⟨⟨hs0,hs5⟩,hL,⟨hpl,hJ⟩⟩
 subst L0
 refine bJ 0 hs0 (bJ 5 hs5 (bD (dA rfl rfl rfl (aDq (K:=dW) (b:=m) (r:=it1) (ks:=ks) (pre:=pre) 0 rfl rfl) ?_)))
 rintro _ _ (⟨rfl,he4,rfl⟩|⟨x2,rfl,hx3,rfl⟩)
 ·refine lE yA (aN (aL (cR rfl (cK (aF (aF (cL (mZ Tryz.results121 ?_))))))))
  intro w hw
  exact⟨⟨_,rfl⟩,.inl ⟨_,M,he4.map _,hJ,aG [false,false] rfl hw⟩⟩
 refine lE yA (aN (aL (dN rfl (eB (aJ (bD ?_))))))
 refine lv (v:= .tuple #[Ix (x2.1),.agg #[Ix (x2.2.author),Ix (x2.2.number),.slice x2.2.p (x2.2.n) x2.2.c,.bool (x2.2.done),Ix (x2.2.at_),Ix (x2.2.e),.slice x2.2.q (x2.2.m) x2.2.k]]) (yR (K:=dW) (b:=m) (r:=it1) (ks:=ks) (pre:=pre) (y:=x2) 0 rfl rfl) ?_
 refine lE pW (lE bN (eY (lv cI (lE aU ?_))))
 refine xW (own:=[itR dW β₁ m it1 ks (pre++[x2]),pt b (.cells #[.map (some m)] 86)]) (M:=M) (d:=12) (enc:=fun z:Int=>[Ix z]) (pre:=pre.map (·.1)) (x:=x2.1) rfl rfl rfl rfl hY (wI hx3) hJ (fun M1 hJ1=> ?_) (fun M1 hX1=> ?_)
 ·refine lE mB (aN (cR rfl (cG (aP ?_))))
  exact bG ⟨((pre++[x2]),M1),⟨⟨rfl,rfl⟩,rfl,⟨aDy hx3,by rw[List.map_append];exact hJ1⟩⟩,(aIr hx3)⟩
 refine lE mB (aN (dN rfl (aV (aR (aI (aR (aXv Tryz.results121 ?_)))))))
 intro w hw
 exact⟨⟨_,rfl⟩,.inr ⟨_,M1,hX1,aG [false,false] rfl hw⟩⟩
theorem aAo(β:Base)(w:World)(fn:Value)(S:List Int→Prop)(K:List bU)(hs:aCu Tryz.prog β fn (fun z:Int=>[Ix z]) S K)(hB:∀l,S l→l.length≤1048576)(hw:St β K w):Calls Tryz.prog 111 #[.slice none 0 0,fn] w fun r w'=>∃p c xs,S xs∧r= .returned (sB p xs c)∧St β [aK aZ 3 p c xs] w':=by
 refine aQp (n:=13) Tryz.func111 rfl Tryz.ntmps111 rfl ?_ hw
 refine bD (bxs fun b1=> ?_)
 refine lE iO (aN (eR (iK (r:=aK aZ 3 none 0 []) (eA _ _ _) (aC (lv cI (aN (aJ ?_)))))))
 refine aFe (L:=[aK aZ 3 none 0 [],pt b1 (.cells #[.slice none 0 0] 35)]) (K:=K) (α:=Int) (enc:=fun z:Int=>[Ix z]) (S:=S) (ps:=[7]) (I:=fun(pre:List (Int)) (L:List bU)=>∃(p:Option Addr),∃(c:Nat),L=[aK aZ 3 p c pre,pt b1 (.cells #[sB p pre c] 35)]∧(True)) (X:=fun _ _ _=>False) rfl (hs) (fun _=>rfl) rfl ⟨none,0,rfl,trivial⟩ ?_ ?_ ?_
 ·rintro l β1 pre x M ext hpre ⟨p,c,rfl,-⟩
  have hpl:pre.length≤1048576:=by obtain⟨l,h1,h2⟩:=hpre;have h3:=h2.length_le;have h4:=hB l h1;rw[List.length_append]at h3;omega
  refine aC (lE bN (aH (bG (fun β2 ext2=> ?_))))
  refine aJ (aC (lE (fQ 1) (lE aU (dA rfl rfl rfl (bZ rY aUk.ok (cells:= #[Ix (x)]) rfl rfl rfl rfl) ?_))))
  rintro _ _ ⟨b2,rfl,rfl⟩
  refine dA rfl rfl rfl (cF (F:=aZ) 1 rY aYs (p:=p) (m:=pre.length) (xs:=pre) (ys:=[x]) (ao:=(some ⟨b2,0,none⟩)) (k:=1) (c:=1) rfl rfl rfl rfl rfl (gX (z:=x) 0 rfl rfl) (by first|omega|simp only[List.length_nil,List.length_cons,List.length_append,List.length_set];omega) (by first|omega|simp only[List.length_nil,List.length_cons,List.length_append,List.length_set];omega)) ?_
  rintro _ _ ⟨rp3,rc4,rfl,rfl⟩
  refine lu (mS 2 (#[sB rp3 (pre++[x]) rc4])) (aH (aP (dD [false,true,true] rfl ?_)))
  exact fun a w ha hw=>⟨_,⟨rp3,rc4,rfl,trivial⟩,hw⟩
 ·rintro D1 ys1 M hS1 ⟨p,c,rfl,-⟩
  refine aP (kM (lE (fQ 1) (lE iO (aN (aV (bFg 2 rfl Tryz.results111 (v:=sB p ys1 c) rfl ?_))))))
  intro w hw
  exact⟨p,c,ys1,hS1,rfl,aG [true,false,false] rfl hw⟩
 intro D c pre M h;exact h.elim
theorem aFo(β:Base)(w:World)(fn:Value)(S:List Int→Prop)(K:List bU)(hs:aCu Tryz.prog β fn (fun z:Int=>[Ix z]) S K)(hB:∀l,S l→l.length≤1048576)(hw:St β K w):Calls Tryz.prog 77 #[fn] w fun r w'=>∃p c xs,S xs∧r= .returned (sB p xs c)∧St β [aK aZ 3 p c xs] w':=by
 refine enter (n:=5) Tryz.func77 rfl Tryz.ntmps77 rfl ?_ hw
 refine bD (lE iO (eY (lv cI (aX rfl rfl rfl (cT (vs:=[.slice none 0 0,fn]) bFu.ok rfl rfl) ?_))))
 intro w hw
 refine(aAo β w fn S K hs hB hw).mono ?_
 rintro e w' ⟨p,c,xs,hS,rfl,hw'⟩
 refine⟨_,rfl,_,hw',?_⟩
 clear hw hw'
 refine lE iO (aN (aV (dJ Tryz.results77 rfl ?_)))
 intro w hw
 exact⟨p,c,xs,hS,rfl,aG [true] rfl hw⟩
theorem aJb(β:Base)(w:World)(fn:Value)(S:List Int→Prop)(K:List bU)(hs:aCu Tryz.prog β fn (fun z:Int=>[Ix z]) S K)(hB:∀l,S l→l.length≤1048576)(hw:St β K w):Calls Tryz.prog 41 #[fn] w fun r w'=>∃p c xs,S xs∧r= .returned (sB p (sortI xs) c)∧St β [aK aZ 3 p c (sortI xs)] w':=by
 refine enter (n:=9) Tryz.func41 rfl Tryz.ntmps41 rfl ?_ hw
 refine bD (lE iO (eY (lv cI (aX rfl rfl rfl (cT (vs:=[fn]) bFv.ok rfl rfl) ?_))))
 intro w hw
 refine(aFo β w fn S K hs hB hw).mono ?_
 rintro e w' ⟨p,c,xs,hS,rfl,hw'⟩
 refine⟨_,rfl,_,hw',?_⟩
 clear hw hw'
 refine lE iO (aN (aL ?_))
 have hxl:=hB _ hS
 refine aC (lE fL (aX rfl rfl rfl (cT (vs:=[sB p xs c]) bFw.ok rfl rfl) ?_))
 intro w hw
 obtain⟨β1,sb,kn,hw1,back⟩:=St.frame (L:=[_]) (M:=[]) hw
 refine(aTy β1 w _ _ xs hw1 (by omega)).mono ?_
 rintro e w' ⟨rfl,hw'⟩
 refine⟨_,rfl,_,back _ _ hw',?_⟩
 refine eY (lE fL (lE iO (aN (aV (dJ Tryz.results41 (v:=sB p xs c) rfl ?_)))))
 intro w hw
 exact⟨p,c,xs,hS,by unfold sB;rw[jQ],aG [true] rfl hw⟩
end Go.Proofs
