/-
 The reference's transactions: walked. Printed by a program of my own.
-/
import Derived.Test.YtjejfkajcbdgjaaGreatTd28
set_option linter.all false
set_option maxHeartbeats 4000000
namespace Go.Proofs
open Go Go.Sl Go.Td Go.Jn
instance tw0:ZerC Tryz.prog 62 (.agg #[.slice none 0 0,.slice none 0 0,.int .i64 (0),.int .i64 (0),.int .i64 (0),.int .i64 (0),.int .i64 (0),.slice none 0 0]):={}
instance tw1:ZerC Tryz.prog 66 (.agg #[.bool false,.int .i64 (0),.int .i64 (0),.slice none 0 0]):={}
instance tw2:TyC Tryz.prog 62 true 8:={}
theorem tw3:xC Tryz.prog 66 [(0,1),(1,1),(2,1),(3,1)]=true:=by kernel_rfl
instance tw4:TyC Tryz.prog 66 true 4:={}
instance tw5:UndC Tryz.prog 69 120:={}
theorem tw6:lY Tryz.prog 69 120 8=true:=by kernel_rfl
instance tw7:TyC Tryz.prog 120 true 8:={}
instance tw8:CfC Tryz.prog 99:={}
instance tw9:FldC Tryz.prog 62 2 2 1 false:={}
instance bHg:TyC Tryz.prog 3 false 1:={}
theorem aYx:lY Tryz.prog 35 3 1=true:=by kernel_rfl
instance tw12:FldC Tryz.prog 66 3 3 1 false:={}
instance tw13:TyC Tryz.prog 35 false 1:={}
theorem bHh:vR Tryz.prog 3 1 8=true:=by kernel_rfl
instance bJt:ZerC Tryz.prog 3 (.int .i64 (0)):={}
theorem bHi:xC Tryz.prog 122 [(0,1),(1,1),(2,1),(3,4)]=true:=by kernel_rfl
instance aYy:ZerC Tryz.prog 122 (.agg #[.int .i64 (0),.int .i64 (0),.slice none 0 0,.bool false,.int .i64 (0),.int .i64 (0),.slice none 0 0]):={}
theorem aJi:lY Tryz.prog 60 122 7=true:=by kernel_rfl
instance tw19:FldC Tryz.prog 62 4 7 1 false:={}
instance tw20:TyC Tryz.prog 60 false 1:={}
instance tw21:UndC Tryz.prog 60 122:={}
instance tw22:FldC Tryz.prog 122 0 0 1 false:={}
instance aYz:TyC Tryz.prog 122 true 7:={}
theorem bJu:vR Tryz.prog 122 7 88=true:=by kernel_rfl
theorem aBx(β:Base)(w:World)(hw:St β [] w)(rh:KRh)(p1 p2 p3:Option Addr)(c1 c2 c3:Nat)(hd:List KMh)(hsp1:Sl kF.R β.heap (sB p1 rh.ps c1) rh.ps)(hsp2:Sl fG.R β.heap (sB p2 rh.hs c2) rh.hs)(hsp3:Sl xF.R β.heap (sB p3 hd c3) hd)(hdn:hd.length≤100000)(s0:KSt)(hr0:RelS s0 rh)(hg0:Good2 s0)(hl62:rh.last+16≤4611686018427387904)(au nu:Int)(pa:Option Addr)(ca:Nat)(al:List KAct)(hsa:Sl cJ.R β.heap (sB pa al ca) al)(hf:∀x∈al,x.formed=true)(han:al.length≤16)(Z:KRh×KRes)(hZ:aS rh rh [] 0 al=Z):Calls Tryz.prog 52 #[.agg #[sB p1 rh.ps c1,sB p2 rh.hs c2,Ix rh.last,Ix rh.su.a0,Ix rh.su.a1,Ix rh.su.a2,Ix rh.su.a3,sB p3 hd c3],Ix au,Ix nu,sB pa al ca] w fun r w'=>∃p1' c1' p2' c2' p3' c3' q k,r= .returned (.tuple #[.agg #[sB p1' Z.1.ps c1',sB p2' Z.1.hs c2',Ix Z.1.last,Ix Z.1.su.a0,Ix Z.1.su.a1,Ix Z.1.su.a2,Ix Z.1.su.a3,sB p3' (⟨au,nu,pa,al.length,ca,Z.2.done,Z.2.at_,Z.2.e,q,Z.2.holds.length,k⟩::gD au hd:List KMh) c3'],.agg #[.bool Z.2.done,Ix Z.2.at_,Ix Z.2.e,sB q Z.2.holds k]])∧St β [gZ kF 128 p1 c1 rh.ps p1' c1' Z.1.ps,gZ fG 130 p2 c2 rh.hs p2' c2' Z.1.hs,aK xF 122 p3' c3' (⟨au,nu,pa,al.length,ca,Z.2.done,Z.2.at_,Z.2.e,q,Z.2.holds.length,k⟩::gD au hd:List KMh),aK aZ 3 q k Z.2.holds] w':=by
 obtain⟨-,hsp1l,hsp1m,hsp1e⟩:=gA hsp1
 obtain⟨-,hsp2l,hsp2m,hsp2e⟩:=gA hsp2
 obtain⟨-,hsp3l,hsp3m,hsp3e⟩:=gA hsp3
 obtain⟨-,hsal,hsam,hsae⟩:=gA hsa
 refine enter (n:=88) Tryz.func52 rfl Tryz.ntmps52 rfl ?_ hw
 refine bD (mL fun b1=> ?_)
 refine gB fun b2=>gB fun b3=>eY (lE (dK 2) (gB fun b4=> ?_))
 refine lu (mS 0 (#[sB p1 rh.ps (c1),sB p2 rh.hs (c2),Ix (rh.last),Ix (rh.su.a0),Ix (rh.su.a1),Ix (rh.su.a2),Ix (rh.su.a3),sB p3 hd (c3)])) (eY ?_)
 refine lv (v:= .agg #[.bool true,.int .i64 (0),.int .i64 (0),.slice none 0 0]) (bV tw1.ok tw3 (vs:=[(0,.bool true)]) (cells:= #[.bool true,.int .i64 (0),.int .i64 (0),.slice none 0 0]) rfl rfl) ?_
 refine gB fun b5=>lu (mS 0 (#[.bool true,.int .i64 (0),.int .i64 (0),.slice none 0 0])) (aN ?_)
 refine iK (r:=gZ fG 130 p2 c2 rh.hs p2 c2 rh.hs) fC (iK (r:=gZ kF 128 p1 c1 rh.ps p1 c1 rh.ps) fC ?_)
 refine iK (r:=aK aZ 3 none 0 []) (eA _ _ _) ?_
 refine gL (fun(f:Fm) (L:List bU)=>∃(out:KRh) (R:KRes) (qp:Option Addr) (pc:Nat) (hp:Option Addr) (hc:Nat) (q:Option Addr) (qk:Nat),(f 1=Ix (au)∧f 2=Ix (nu)∧f 3=sB pa al (ca)∧f 4=pp b1 0∧f 8=pp b2 0∧f 9=pp b3 0∧f 10=pp b4 0∧f 11=pp b5 0)∧L=[aK aZ 3 q qk R.holds,gZ kF 128 p1 c1 rh.ps qp pc out.ps,gZ fG 130 p2 c2 rh.hs hp hc out.hs,pt b5 (.cells #[.bool (R.done),Ix (R.at_),Ix (R.e),sB q R.holds qk] 66),pt b4 (.cells #[sB qp out.ps pc,sB hp out.hs hc,Ix (out.last),Ix (out.su.a0),Ix (out.su.a1),Ix (out.su.a2),Ix (out.su.a3),sB p3 hd (c3)] 62),pt b3 (.cells #[.bool false,.int .i64 (0),.int .i64 (0),.slice none 0 0] 66),pt b2 (.cells #[.slice none 0 0,.slice none 0 0,.int .i64 (0),.int .i64 (0),.int .i64 (0),.int .i64 (0),.int .i64 (0),.slice none 0 0] 62),pt b1 (.cells #[sB p1 rh.ps (c1),sB p2 rh.hs (c2),Ix (rh.last),Ix (rh.su.a0),Ix (rh.su.a1),Ix (rh.su.a2),Ix (rh.su.a3),sB p3 hd (c3)] 62)]∧(aS rh rh [] 0 al=(out,R))) ?_ ?_
 ·refine bD (lE bN (aN (aJ ?_)))
  refine cZ (fun(x_:Nat×KRh×KSt×List Int×Option Addr×Nat×Option Addr×Nat×Option Addr×Nat) f L=>match x_ with|(k,out,s,made,qp,pc,hp,hc,q,qk)=>(f 1=Ix (au)∧f 2=Ix (nu)∧f 3=sB pa al (ca)∧f 4=pp b1 0∧f 8=pp b2 0∧f 9=pp b3 0∧f 10=pp b4 0∧f 11=pp b5 0∧f 12=Nx (k))∧L=[aK aZ 3 q qk made,gZ kF 128 p1 c1 rh.ps qp pc out.ps,gZ fG 130 p2 c2 rh.hs hp hc out.hs,pt b5 (.cells #[.bool true,.int .i64 (0),.int .i64 (0),sB q made qk] 66),pt b4 (.cells #[sB qp out.ps pc,sB hp out.hs hc,Ix (out.last),Ix (out.su.a0),Ix (out.su.a1),Ix (out.su.a2),Ix (out.su.a3),sB p3 hd (c3)] 62),pt b3 (.cells #[.bool false,.int .i64 (0),.int .i64 (0),.slice none 0 0] 66),pt b2 (.cells #[.slice none 0 0,.slice none 0 0,.int .i64 (0),.int .i64 (0),.int .i64 (0),.int .i64 (0),.int .i64 (0),.slice none 0 0] 62),pt b1 (.cells #[sB p1 rh.ps (c1),sB p2 rh.hs (c2),Ix (rh.last),Ix (rh.su.a0),Ix (rh.su.a1),Ix (rh.su.a2),Ix (rh.su.a3),sB p3 hd (c3)] 62)]∧(k≤al.length∧aS rh rh [] 0 al=aS rh out made k (al.drop k)∧RelS s out∧Good2 s∧out.last≤rh.last+((k:Nat):Int)∧made.length≤k)) (fun(k,out,s,made,qp,pc,hp,hc,q,qk)=>al.length-k) (0,rh,s0,[],p1,c1,p2,c2,none,0) ?_ ?_
  ·exact⟨⟨rfl,rfl,rfl,rfl,rfl,rfl,rfl,rfl,rfl⟩,rfl,⟨Nat.zero_le _,rfl,hr0,hg0,by omega,Nat.le_refl _⟩⟩
  rintro⟨k,out,s,made,qp,pc,hp,hc,q,qk⟩ f0 L0 ⟨⟨hs1,hs2,hs3,hs4,hs8,hs9,hs10,hs11,hs12⟩,hL,⟨hk,hrun,hrs,hgs,hlo,hml⟩⟩
  subst L0
  refine bJ 1 hs1 (bJ 2 hs2 (bJ 3 hs3 (bJ 4 hs4 (bJ 8 hs8 (bJ 9 hs9 (bJ 10 hs10 (bJ 11 hs11 (bJ 12 hs12 (eR (aC (lE aU (lE fL ?_))))))))))))
  refine lE gY (lE gN (aN (cN _ rfl (fun hc6=> ?_) (fun hc6=> ?_))))
  ·refine eB (aL (aJ (aL ?_)))
   obtain⟨x7,hx8⟩:=kX al k (by omega)
   obtain⟨ha9,cs10,hc11,rfl⟩:=hsae _ _ hx8
   refine jS [sv 26 (.agg #[sB qp out.ps pc,sB hp out.hs hc,Ix (out.last),Ix (out.su.a0),Ix (out.su.a1),Ix (out.su.a2),Ix (out.su.a3),sB p3 hd (c3)]) [] [] [0],sv 27 (sB pa al (ca)) [] [] [1],sv 28 (Nx (k)) [] [] [2],sv 29 (.pointer (some ((ba pa).add (k*8)))) [1,2] [1,2] [],sv 30 (.agg #[Bx (x7.kind),Ix (x7.owner),Ix (x7.other),Ix (x7.hold),Ix (x7.a.a0),Ix (x7.a.a1),Ix (x7.a.a2),Ix (x7.a.a3)]) [1,2,3] [3] [],⟨[0,1,2,3,4],[0,4],[],[31],fun f=>f 31= .tuple #[.agg #[sB (fT 0 0 (f 31)) (dY out x7).1.ps (fU 0 0 (f 31)),sB (fT 0 1 (f 31)) (dY out x7).1.hs (fU 0 1 (f 31)),Ix ((dY out x7).1.last),Ix ((dY out x7).1.su.a0),Ix ((dY out x7).1.su.a1),Ix ((dY out x7).1.su.a2),Ix ((dY out x7).1.su.a3),sB p3 hd (c3)],Ix ((dY out x7).2)]⟩,⟨(List.range 6),[5],[],[25,31],fun f=>f 25= .tuple #[.agg #[sB (fT 0 0 (f 31)) (dY out x7).1.ps (fU 0 0 (f 31)),sB (fT 0 1 (f 31)) (dY out x7).1.hs (fU 0 1 (f 31)),Ix ((dY out x7).1.last),Ix ((dY out x7).1.su.a0),Ix ((dY out x7).1.su.a1),Ix ((dY out x7).1.su.a2),Ix ((dY out x7).1.su.a3),sB p3 hd (c3)],Ix ((dY out x7).2)]⟩,⟨(List.range 7),[6],[],[31,32],fun f=>f 32= .agg #[sB (fT 0 0 (f 31)) (dY out x7).1.ps (fU 0 0 (f 31)),sB (fT 0 1 (f 31)) (dY out x7).1.hs (fU 0 1 (f 31)),Ix ((dY out x7).1.last),Ix ((dY out x7).1.su.a0),Ix ((dY out x7).1.su.a1),Ix ((dY out x7).1.su.a2),Ix ((dY out x7).1.su.a3),sB p3 hd (c3)]⟩,sv 33 (Ix ((dY out x7).2)) (List.range 7) [6] [],⟨[],[],[],[13],fun f=>f 13= .pointer (some ⟨(bY (f 13)),0,none⟩)⟩,⟨[0,1,2,3,4,5,6,7,9],[9,7],[],[],fun _=>True⟩,sv 14 (Ix ((dY out x7).2)) (List.range 11) [8] []] [u0,u1 [5],u1 [5],u0,u1 [0]] [⟨(some 5),none,[],[31],fun f=>gZ kF 128 qp pc out.ps (fT 0 0 (f 31)) (fU 0 0 (f 31)) ((dY out x7).1.ps)⟩,⟨(some 5),none,[],[31],fun f=>gZ fG 130 hp hc out.hs (fT 0 1 (f 31)) (fU 0 1 (f 31)) ((dY out x7).1.hs)⟩,⟨(some 9),(some 10),[10],[13],fun f=>pt (bY (f 13)) (.cells #[.slice none 0 0,.slice none 0 0,.int .i64 (0),.int .i64 (0),.int .i64 (0),.int .i64 (0),.int .i64 (0),.slice none 0 0] 62)⟩,⟨(some 10),none,[],[13,31],fun f=>pt (bY (f 13)) (.cells #[sB (fT 0 0 (f 31)) (dY out x7).1.ps (fU 0 0 (f 31)),sB (fT 0 1 (f 31)) (dY out x7).1.hs (fU 0 1 (f 31)),Ix ((dY out x7).1.last),Ix ((dY out x7).1.su.a0),Ix ((dY out x7).1.su.a1),Ix ((dY out x7).1.su.a2),Ix ((dY out x7).1.su.a3),sB p3 hd (c3)] 62)⟩] [(10,pp b4 0),(3,sB pa al (ca)),(12,Nx (k)),(1,Ix (au)),(2,Ix (nu)),(4,pp b1 0),(8,pp b2 0),(9,pp b3 0),(11,pp b5 0)] [3,4,1,5,6,7,0,8,2] ⟨rfl,rfl,rfl,rfl,rfl,rfl,rfl,rfl,rfl,trivial⟩ ⟨?_,?_,?_,?_,?_,?_,?_,?_,?_,?_,?_,?_,trivial⟩ ?_
   ·rintro f M-⟨i0,-⟩
    exact aT (dK 0)
   ·rintro f M-⟨i0,-⟩
    exact aT fL
   ·rintro f M-⟨i0,-⟩
    exact aT aU
   ·rintro f M ⟨k0,k1,-⟩-
    exact gO (aA (d:=28) (aA (d:=27) rfl k0) k1) rfl (iQ rfl rfl tw6 (by omega) ha9) (.refl _)
   ·rintro f M ⟨k0,-⟩-
    exact gO (aA (d:=29) rfl k0) rfl (fV tw7.ok rfl (kB hc11) rfl) (.refl _)
   ·rintro f M ⟨k0,k1,-⟩-
    refine dL (aA (d:=30) (aA (d:=26) rfl k0) k1) ?_
    refine pV (cT (vs:=[.agg #[sB qp out.ps pc,sB hp out.hs hc,Ix (out.last),Ix (out.su.a0),Ix (out.su.a1),Ix (out.su.a2),Ix (out.su.a3),sB p3 hd (c3)],.agg #[Bx (x7.kind),Ix (x7.owner),Ix (x7.other),Ix (x7.hold),Ix (x7.a.a0),Ix (x7.a.a1),Ix (x7.a.a2),Ix (x7.a.a3)]]) tw8.ok rfl rfl) rfl fun w β1 sb kn hw1 back=>(bCm β1 w hw1 out (hrs.rb hgs) (by omega) qp hp _ pc hc _ _ (kn _ (yY 0 rfl hsp1)) (kn _ (yY 1 rfl hsp2)) x7 (hf _ (List.mem_of_getElem? hx8))).mono ?_
    rintro e w' ⟨pp17,pc18,hp19,hc20,rfl,hw'⟩
    refine⟨_,rfl,_,back _ _ hw',?_⟩
    refine aH ?_
    exact aO (aA (d:=30) (aA (d:=26) rfl k0) k1) rfl ((((aB 1 rfl).trans (aB 1 rfl)).trans (aB 3 rfl)).trans (aB 3 rfl))
   ·rintro f M ⟨k0,-⟩-
    have hs31:f 31= .tuple #[.agg #[sB (fT 0 0 (f 31)) (dY out x7).1.ps (fU 0 0 (f 31)),sB (fT 0 1 (f 31)) (dY out x7).1.hs (fU 0 1 (f 31)),Ix ((dY out x7).1.last),Ix ((dY out x7).1.su.a0),Ix ((dY out x7).1.su.a1),Ix ((dY out x7).1.su.a2),Ix ((dY out x7).1.su.a3),sB p3 hd (c3)],Ix ((dY out x7).2)]:=k0
    exact aT oM
   ·rintro f M ⟨k0,-⟩-
    have hs25:f 25= .tuple #[.agg #[sB (fT 0 0 (f 31)) (dY out x7).1.ps (fU 0 0 (f 31)),sB (fT 0 1 (f 31)) (dY out x7).1.hs (fU 0 1 (f 31)),Ix ((dY out x7).1.last),Ix ((dY out x7).1.su.a0),Ix ((dY out x7).1.su.a1),Ix ((dY out x7).1.su.a2),Ix ((dY out x7).1.su.a3),sB p3 hd (c3)],Ix ((dY out x7).2)]:=k0
    exact aT rG
   ·rintro f M ⟨k0,-⟩-
    have hs25:f 25= .tuple #[.agg #[sB (fT 0 0 (f 31)) (dY out x7).1.ps (fU 0 0 (f 31)),sB (fT 0 1 (f 31)) (dY out x7).1.hs (fU 0 1 (f 31)),Ix ((dY out x7).1.last),Ix ((dY out x7).1.su.a0),Ix ((dY out x7).1.su.a1),Ix ((dY out x7).1.su.a2),Ix ((dY out x7).1.su.a3),sB p3 hd (c3)],Ix ((dY out x7).2)]:=k0
    exact aT pW
   ·rintro f M- -
    refine dL rfl ?_
    refine gB fun b22=>aH ?_
    exact aO rfl rfl (aB 0 rfl)
   ·rintro f M ⟨k0,k1,-⟩-
    have hs13:f 13= .pointer (some ⟨(bY (f 13)),0,none⟩):=k0
    have hs32:f 32= .agg #[sB (fT 0 0 (f 31)) (dY out x7).1.ps (fU 0 0 (f 31)),sB (fT 0 1 (f 31)) (dY out x7).1.hs (fU 0 1 (f 31)),Ix ((dY out x7).1.last),Ix ((dY out x7).1.su.a0),Ix ((dY out x7).1.su.a1),Ix ((dY out x7).1.su.a2),Ix ((dY out x7).1.su.a3),sB p3 hd (c3)]:=k1
    refine dL (aA (aA rfl hs13) hs32) ?_
    refine lu (mS 0 (#[sB (fT 0 0 (f 31)) (dY out x7).1.ps (fU 0 0 (f 31)),sB (fT 0 1 (f 31)) (dY out x7).1.hs (fU 0 1 (f 31)),Ix ((dY out x7).1.last),Ix ((dY out x7).1.su.a0),Ix ((dY out x7).1.su.a1),Ix ((dY out x7).1.su.a2),Ix ((dY out x7).1.su.a3),sB p3 hd (c3)])) ?_
    refine aH ?_
    exact bC (aA (aA rfl hs13) hs32) trivial (aB 0 rfl)
   ·rintro f M ⟨k0,-⟩-
    exact aT bN
   rintro fa23 ⟨-,-,-,-,-,-,-,-,-,k9,-,k11,-⟩ ⟨j0,j1,j2,j3,j4,j5,j6,j7,j8,-⟩
   refine jD ?_
   refine aD (d:=1) j0 (aD (d:=2) j1 (aD (d:=3) j2 (aD (d:=4) j3 (aD (d:=8) j4 (aD (d:=9) j5 ?_)))))
   refine aD (d:=10) j6 (aD (d:=11) j7 (aD (d:=12) j8 (aD (d:=13) k9 (aD (d:=14) k11 (qV (bD (lE aU ?_)))))))
   refine lE lO (aN (cN _ rfl (fun hc24=> ?_) (fun hc24=> ?_)))
   ·refine bD (lE (dK 7) ?_)
    refine lu (mS 4 (#[sB p1 rh.ps (c1),sB p2 rh.hs (c2),Ix (rh.last),Ix (rh.su.a0),Ix (rh.su.a1),Ix (rh.su.a2),Ix (rh.su.a3),sB p3 hd (c3)])) (eY ?_)
    refine lE aU (lE aU ?_)
    refine lv (v:= .agg #[.bool false,Nx (k),Ix ((dY out x7).2),.slice none 0 0]) (bV tw1.ok tw3 (vs:=[(1,Nx (k)),(2,Ix ((dY out x7).2))]) (cells:= #[.bool false,Nx (k),Ix ((dY out x7).2),.slice none 0 0]) rfl rfl) ?_
    refine lu (mS 3 (#[.bool false,Nx (k),Ix ((dY out x7).2),.slice none 0 0])) (aN (cK (aF (qK rfl (aF (aF ?_))))))
    refine cL (aFy (r:=gZ fG 130 p2 c2 rh.hs p2 c2 rh.hs) fC (aFy (r:=gZ kF 128 p1 c1 rh.ps p1 c1 rh.ps) fC ?_))
    refine aFy (r:=aK aZ 3 none 0 []) (eA _ _ _) ?_
    refine dD [true,true,true,false,false,false,true,true,true,true,true,false,false,false] rfl ?_
    exact bG ⟨rh,(⟨false,(k:Int),(dY out x7).2,[]⟩:KRes),p1,c1,p2,c2,none,0,⟨rfl,rfl,rfl,rfl,rfl,rfl,rfl,rfl⟩,rfl,hrun.trans (aTo hx8 hc24)⟩
   refine eB (eR (sU [8,1,0,2,3,4,5,6,7,9,10] 11 rfl (by kernel_rfl) ?_))
   refine mH (L:=[gZ kF 128 qp pc out.ps (fT 0 0 (fa23 31)) (fU 0 0 (fa23 31)) ((dY out x7).1.ps),gZ kF 128 p1 c1 rh.ps qp pc out.ps]) (M:=[aK aZ 3 q qk made,gZ fG 130 p2 c2 rh.hs hp hc out.hs,pt b5 (.cells #[.bool true,.int .i64 (0),.int .i64 (0),sB q made qk] 66),pt b4 (.cells #[sB qp out.ps pc,sB hp out.hs hc,Ix (out.last),Ix (out.su.a0),Ix (out.su.a1),Ix (out.su.a2),Ix (out.su.a3),sB p3 hd (c3)] 62),pt b3 (.cells #[.bool false,.int .i64 (0),.int .i64 (0),.slice none 0 0] 66),pt b2 (.cells #[.slice none 0 0,.slice none 0 0,.int .i64 (0),.int .i64 (0),.int .i64 (0),.int .i64 (0),.int .i64 (0),.slice none 0 0] 62),pt b1 (.cells #[sB p1 rh.ps (c1),sB p2 rh.hs (c2),Ix (rh.last),Ix (rh.su.a0),Ix (rh.su.a1),Ix (rh.su.a2),Ix (rh.su.a3),sB p3 hd (c3)] 62),gZ fG 130 hp hc out.hs (fT 0 1 (fa23 31)) (fU 0 1 (fa23 31)) ((dY out x7).1.hs),pt (bY (fa23 13)) (.cells #[sB (fT 0 0 (fa23 31)) (dY out x7).1.ps (fU 0 0 (fa23 31)),sB (fT 0 1 (fa23 31)) (dY out x7).1.hs (fU 0 1 (fa23 31)),Ix ((dY out x7).1.last),Ix ((dY out x7).1.su.a0),Ix ((dY out x7).1.su.a1),Ix ((dY out x7).1.su.a2),Ix ((dY out x7).1.su.a3),sB p3 hd (c3)] 62)]) (r:=gZ kF 128 p1 c1 rh.ps (fT 0 0 (fa23 31)) (fU 0 0 (fa23 31)) ((dY out x7).1.ps)) aCj ?_
   refine sU [8,2,0,1,3,4,5,6,7,9] 10 rfl (by kernel_rfl) ?_
   refine mH (L:=[gZ fG 130 hp hc out.hs (fT 0 1 (fa23 31)) (fU 0 1 (fa23 31)) ((dY out x7).1.hs),gZ fG 130 p2 c2 rh.hs hp hc out.hs]) (M:=[gZ kF 128 p1 c1 rh.ps (fT 0 0 (fa23 31)) (fU 0 0 (fa23 31)) ((dY out x7).1.ps),aK aZ 3 q qk made,pt b5 (.cells #[.bool true,.int .i64 (0),.int .i64 (0),sB q made qk] 66),pt b4 (.cells #[sB qp out.ps pc,sB hp out.hs hc,Ix (out.last),Ix (out.su.a0),Ix (out.su.a1),Ix (out.su.a2),Ix (out.su.a3),sB p3 hd (c3)] 62),pt b3 (.cells #[.bool false,.int .i64 (0),.int .i64 (0),.slice none 0 0] 66),pt b2 (.cells #[.slice none 0 0,.slice none 0 0,.int .i64 (0),.int .i64 (0),.int .i64 (0),.int .i64 (0),.int .i64 (0),.slice none 0 0] 62),pt b1 (.cells #[sB p1 rh.ps (c1),sB p2 rh.hs (c2),Ix (rh.last),Ix (rh.su.a0),Ix (rh.su.a1),Ix (rh.su.a2),Ix (rh.su.a3),sB p3 hd (c3)] 62),pt (bY (fa23 13)) (.cells #[sB (fT 0 0 (fa23 31)) (dY out x7).1.ps (fU 0 0 (fa23 31)),sB (fT 0 1 (fa23 31)) (dY out x7).1.hs (fU 0 1 (fa23 31)),Ix ((dY out x7).1.last),Ix ((dY out x7).1.su.a0),Ix ((dY out x7).1.su.a1),Ix ((dY out x7).1.su.a2),Ix ((dY out x7).1.su.a3),sB p3 hd (c3)] 62)]) (r:=gZ fG 130 p2 c2 rh.hs (fT 0 1 (fa23 31)) (fU 0 1 (fa23 31)) ((dY out x7).1.hs)) aCj ?_
   obtain⟨s2,hrs2,hgs2,hlo2⟩:=aTs hgs hrs (hf _ (List.mem_of_getElem? hx8)) (Decidable.not_not.1 hc24)
   refine aC (lE aY (lE (cY 8) (lE aY (lE (cY 4) (lE oQ (aN (cN _ rfl (fun hc25=> ?_) (fun hc25=> ?_))))))))
   ·refine jS [⟨[],[],[],[45],fun f=>f 45= .slice (some ⟨(bY (f 45)),0,none⟩) (0) 0⟩,sv 46 (pp b5 3) [] [] [0],sv 47 (sB q made qk) [1] [1] [],⟨[0,1,2],[0,2],[],[48],fun f=>f 48=sB (dC (f 48)) made (dE (f 48))⟩,sv 49 (.pointer (some ⟨(bY (fa23 13)),2,none⟩)) [] [] [1],sv 50 (Ix ((dY out x7).1.last)) [4] [4] [],⟨[4,5],[5],[],[51],fun f=>f 51= .slice (some ⟨(bY (f 51)),0,none⟩) 1 1⟩,⟨(List.range 7),[3,6],[],[52],fun f=>f 52=sB (dC (f 52)) (made++[((dY out x7).1.last)]) (dE (f 52))⟩,sv 53 (pp b5 3) (List.range 8) [] [0],⟨(List.range 9),[8,7],[],[],fun _=>True⟩] [u0,u0,u1 [3],(some 9,[2,9]),u0,u0,u0,u0,u1 [5]] [⟨(some 0),(some 3),[3],[45],fun f=>aK aZ 3 (some ⟨(bY (f 45)),0,none⟩) 0 []⟩,⟨(some 3),(some 7),[7],[48],fun f=>aK aZ 3 (dC (f 48)) (dE (f 48)) made⟩,⟨(some 6),none,[7],[51],fun f=>pt (bY (f 51)) (.cells #[Ix ((dY out x7).1.last)] 3)⟩,⟨(some 7),none,[],[52],fun f=>aK aZ 3 (dC (f 52)) (dE (f 52)) (made++[((dY out x7).1.last)])⟩,⟨(some 9),none,[],[52],fun f=>pt b5 (.cells #[.bool true,.int .i64 (0),.int .i64 (0),sB (dC (f 52)) (made++[((dY out x7).1.last)]) (dE (f 52))] 66)⟩] [(11,pp b5 0),(13,.pointer (some ⟨(bY (fa23 13)),0,none⟩)),(1,Ix (au)),(2,Ix (nu)),(3,sB pa al (ca)),(4,pp b1 0),(8,pp b2 0),(9,pp b3 0),(10,pp b4 0),(12,Nx (k))] [2,3,4,5,6,7,8,0,9,1] ⟨rfl,rfl,rfl,rfl,rfl,rfl,rfl,rfl,rfl,rfl,trivial⟩ ⟨?_,?_,?_,?_,?_,?_,?_,?_,?_,?_,trivial⟩ ?_
    ·rintro f M- -
     refine dL rfl ?_
     refine dA rfl rfl rfl (pG aYx) ?_
     rintro _ _ ⟨b27,rfl,rfl⟩
     refine pE 0 rfl (r':=aK aZ 3 (some ⟨b27,0,none⟩) 0 []) (fun a h=>gP (F:=aZ) (xs:=[]) rfl (by decide) a h) (aH ?_)
     exact aO rfl rfl (aB 0 rfl)
    ·rintro f M-⟨i0,-⟩
     exact aT aY
    ·rintro f M ⟨k0,-⟩-
     exact aT (fQ 0)
    ·rintro f M ⟨k0,k1,-⟩-
     have hs45:f 45= .slice (some ⟨(bY (f 45)),0,none⟩) (0) 0:=k0
     refine dL (aA (d:=47) (aA rfl hs45) k1) ?_
     refine dA rfl rfl rfl (cF (F:=aZ) 1 aYx bHh (p:=(some ⟨(bY (f 45)),0,none⟩)) (m:=0) (xs:=[]) (ys:=made) (ao:=q) (k:=made.length) (c:=qk) rfl rfl rfl rfl rfl (bH.imp (jK 0 (F:=aZ) (m:=made.length) rfl rfl) fun _ h=>(Sl.parts h).2.2.2) (by first|omega|simp only[List.length_nil,List.length_cons,List.length_append,List.length_set];omega) (by first|omega|simp only[List.length_nil,List.length_cons,List.length_append,List.length_set];omega)) ?_
     rintro _ _ ⟨rp30,rc31,rfl,rfl⟩
     refine aH ?_
     exact aO (aA (d:=47) (aA rfl hs45) k1) rfl ((aB 1 rfl).trans (aB 1 rfl))
    ·rintro f M-⟨i0,-⟩
     exact aT aY
    ·rintro f M ⟨k0,-⟩-
     exact aT (cY 0)
    ·rintro f M ⟨k0,-⟩-
     refine dL (aA (d:=50) rfl k0) ?_
     refine dA rfl rfl rfl (bZ aYx bJt.ok (cells:= #[Ix ((dY out x7).1.last)]) rfl rfl rfl rfl) ?_
     rintro _ _ ⟨b33,rfl,rfl⟩
     refine aH ?_
     exact aO (aA (d:=50) rfl k0) rfl (aB 0 rfl)
    ·rintro f M ⟨k0,k1,-⟩-
     have hs48:f 48=sB (dC (f 48)) made (dE (f 48)):=k0
     have hs51:f 51= .slice (some ⟨(bY (f 51)),0,none⟩) 1 1:=k1
     refine dL (aA (aA rfl hs48) hs51) ?_
     refine dA rfl rfl rfl (cF (F:=aZ) 0 aYx bHh (p:=(dC (f 48))) (m:=made.length) (xs:=made) (ys:=[((dY out x7).1.last)]) (ao:=(some ⟨(bY (f 51)),0,none⟩)) (k:=1) (c:=1) rfl rfl rfl rfl rfl (gX (z:=((dY out x7).1.last)) 1 rfl rfl) (by first|omega|simp only[List.length_nil,List.length_cons,List.length_append,List.length_set];omega) (by first|omega|simp only[List.length_nil,List.length_cons,List.length_append,List.length_set];omega)) ?_
     rintro _ _ ⟨rp36,rc37,rfl,rfl⟩
     refine aH ?_
     exact aO (aA (aA rfl hs48) hs51) rfl ((aB 0 rfl).trans (aB 1 rfl))
    ·rintro f M-⟨i0,-⟩
     exact aT aY
    ·rintro f M ⟨k0,k1,-⟩-
     have hs52:f 52=sB (dC (f 52)) (made++[((dY out x7).1.last)]) (dE (f 52)):=k1
     refine dL (aA (aA (d:=53) rfl k0) hs52) ?_
     refine lu (mS 0 (#[.bool true,.int .i64 (0),.int .i64 (0),sB (dC (f 52)) (made++[((dY out x7).1.last)]) (dE (f 52))])) (aH ?_)
     exact bC (aA (aA (d:=53) rfl k0) hs52) trivial (aB 0 rfl)
    rintro fa38 ⟨-,-,-,-,-,-,-,-,-,-,-⟩ ⟨j0,j1,j2,j3,j4,j5,j6,j7,j8,j9,-⟩
    refine jD ?_
    refine aD (d:=1) j0 (aD (d:=2) j1 (aD (d:=3) j2 (aD (d:=4) j3 (aD (d:=8) j4 (aD (d:=9) j5 ?_)))))
    refine aD (d:=10) j6 (aD (d:=11) j7 (aD (d:=12) j8 (aD (d:=13) j9 (bA (aC (lE (dK 7) ?_))))))
    refine lu (mS 3 (#[sB (fT 0 0 (fa23 31)) (dY out x7).1.ps (fU 0 0 (fa23 31)),sB (fT 0 1 (fa23 31)) (dY out x7).1.hs (fU 0 1 (fa23 31)),Ix ((dY out x7).1.last),Ix ((dY out x7).1.su.a0),Ix ((dY out x7).1.su.a1),Ix ((dY out x7).1.su.a2),Ix ((dY out x7).1.su.a3),sB p3 hd (c3)])) ?_
    refine aH (aP (bA (aC (lE aU (lv (v:=Nx (k+1)) (bO rfl rfl (cW (by omega) (by omega))) (lE bN (aH ?_)))))))
    refine tZ [9,1,0,10,3,4,5,6,2,7,8] 11 ?_
    refine dD [true,true,true,true,true,true,true,true,false,false,false] rfl ?_
    exact bG ⟨(k+1,(dY out x7).1,s2,(made++[((dY out x7).1.last)]),(fT 0 0 (fa23 31)),(fU 0 0 (fa23 31)),(fT 0 1 (fa23 31)),(fU 0 1 (fa23 31)),(dC (fa38 52)),(dE (fa38 52))),⟨⟨rfl,rfl,rfl,rfl,rfl,rfl,rfl,rfl,rfl⟩,rfl,⟨by omega,by rw[hrun,aCd hx8 (Decidable.not_not.1 hc24),if_pos hc25],hrs2,hgs2,by omega,by rw[List.length_append];exact Nat.succ_le_succ hml⟩⟩,(show al.length-(k+1)<al.length-k from by omega)⟩
   refine eB (aC (lE (dK 8) ?_))
   refine lu (mS 4 (#[sB (fT 0 0 (fa23 31)) (dY out x7).1.ps (fU 0 0 (fa23 31)),sB (fT 0 1 (fa23 31)) (dY out x7).1.hs (fU 0 1 (fa23 31)),Ix ((dY out x7).1.last),Ix ((dY out x7).1.su.a0),Ix ((dY out x7).1.su.a1),Ix ((dY out x7).1.su.a2),Ix ((dY out x7).1.su.a3),sB p3 hd (c3)])) ?_
   refine aH (aP (bA (aC (lE aU (lv (v:=Nx (k+1)) (bO rfl rfl (cW (by omega) (by omega))) (lE bN (aH ?_)))))))
   refine tZ [2,1,0,3,4,5,6,7,8] 9 ?_
   refine dD [true,true,true,true,true,true,true,true,false] rfl ?_
   exact bG ⟨(k+1,(dY out x7).1,s2,made,(fT 0 0 (fa23 31)),(fU 0 0 (fa23 31)),(fT 0 1 (fa23 31)),(fU 0 1 (fa23 31)),q,qk),⟨⟨rfl,rfl,rfl,rfl,rfl,rfl,rfl,rfl,rfl⟩,rfl,⟨by omega,by rw[hrun,aCd hx8 (Decidable.not_not.1 hc24),if_neg hc25],hrs2,hgs2,by omega,by omega⟩⟩,(show al.length-(k+1)<al.length-k from by omega)⟩
  refine cK (aF (aF (cL ?_)))
  exact bG ⟨out,(⟨true,0,0,made⟩:KRes),qp,pc,hp,hc,q,qk,⟨rfl,rfl,rfl,rfl,rfl,rfl,rfl,rfl⟩,rfl,hrun.trans (aTp (by omega))⟩
 rintro f0 L0 ⟨out,R,qp,pc,hp,hc,q,qk,⟨hs1,hs2,hs3,hs4,hs8,hs9,hs10,hs11⟩,hL,hrun⟩
 subst L0
 refine bJ 1 hs1 (bJ 2 hs2 (bJ 3 hs3 (bJ 4 hs4 (bJ 8 hs8 (bJ 9 hs9 (bJ 10 hs10 (bJ 11 hs11 (bD (lE aU (lE aU (lE fL (lE (dK 3) ?_))))))))))))
 refine lv (v:= .agg #[Ix (au),Ix (nu),sB pa al (ca),.bool (R.done),Ix (R.at_),Ix (R.e),sB q R.holds qk]) (bV aYy.ok bHi (vs:=[(0,Ix (au)),(1,Ix (nu)),(2,sB pa al (ca)),(3,.agg #[.bool (R.done),Ix (R.at_),Ix (R.e),sB q R.holds qk])]) (cells:= #[Ix (au),Ix (nu),sB pa al (ca),.bool (R.done),Ix (R.at_),Ix (R.e),sB q R.holds qk]) rfl (by kernel_rfl)) ?_
 refine dA rfl rfl rfl (bZ aJi aYy.ok (cells:= #[Ix (au),Ix (nu),sB pa al (ca),.bool (R.done),Ix (R.at_),Ix (R.e),sB q R.holds qk]) rfl rfl rfl (by kernel_rfl)) ?_
 rintro _ _ ⟨b39,rfl,rfl⟩
 refine lE iO (aN (eR ?_))
 refine kQ 0 (r':=aK xF 122 (some ⟨b39,0,none⟩) 1 [(⟨au,nu,pa,al.length,ca,R.done,R.at_,R.e,q,R.holds.length,qk⟩:KMh)]) rfl (gP (F:=xF) (xs:=[(⟨au,nu,pa,al.length,ca,R.done,R.at_,R.e,q,R.holds.length,qk⟩:KMh)]) rfl (show 1≤1048576 by decide)) ?_
 generalize he0:(⟨au,nu,pa,al.length,ca,R.done,R.at_,R.e,q,R.holds.length,qk⟩:KMh)=e0
 refine aC (lE bN (aN (aJ (jJ [true,true,true,true,true,true,true,true,true] rfl ?_))))
 refine cZ (fun(x_:Nat×List KMh×Option Addr×Nat) f L=>match x_ with|(k,dl,p,c)=>(f 1=Ix (au)∧f 4=pp b1 0∧f 8=pp b2 0∧f 9=pp b3 0∧f 10=pp b4 0∧f 11=pp b5 0∧f 15=sB p dl c∧f 16=Nx (k))∧L=[aK xF 122 p c dl,aK aZ 3 q qk R.holds,gZ kF 128 p1 c1 rh.ps qp pc out.ps,gZ fG 130 p2 c2 rh.hs hp hc out.hs,pt b5 (.cells #[.bool (R.done),Ix (R.at_),Ix (R.e),sB q R.holds qk] 66),pt b4 (.cells #[sB qp out.ps pc,sB hp out.hs hc,Ix (out.last),Ix (out.su.a0),Ix (out.su.a1),Ix (out.su.a2),Ix (out.su.a3),sB p3 hd (c3)] 62),pt b3 (.cells #[.bool false,.int .i64 (0),.int .i64 (0),.slice none 0 0] 66),pt b2 (.cells #[.slice none 0 0,.slice none 0 0,.int .i64 (0),.int .i64 (0),.int .i64 (0),.int .i64 (0),.int .i64 (0),.slice none 0 0] 62),pt b1 (.cells #[sB p1 rh.ps (c1),sB p2 rh.hs (c2),Ix (rh.last),Ix (rh.su.a0),Ix (rh.su.a1),Ix (rh.su.a2),Ix (rh.su.a3),sB p3 hd (c3)] 62)]∧(k≤hd.length∧dl=e0::gD au (hd.take k))) (fun(k,dl,p,c)=>hd.length-k) (0,[e0],(some ⟨b39,0,none⟩),1) ?_ ?_
 ·exact⟨⟨rfl,rfl,rfl,rfl,rfl,rfl,rfl,rfl⟩,rfl,⟨Nat.zero_le _,rfl⟩⟩
 rintro⟨k,dl,p,c⟩ f0 L0 ⟨⟨hs1,hs4,hs8,hs9,hs10,hs11,hs15,hs16⟩,hL,⟨hk_,uA⟩⟩
 subst L0
 refine bJ 1 hs1 (bJ 4 hs4 (bJ 8 hs8 (bJ 9 hs9 (bJ 10 hs10 (bJ 11 hs11 (bJ 15 hs15 (bJ 16 hs16 ?_)))))))
 have hdll:dl.length≤hd.length+1:=by rw[uA];exact Nat.succ_le_succ bCc
 refine eR (aC (lE aU (lE aY (lE (fQ 8) (lE gY (lE gN (aN (cN _ rfl (fun hc40=> ?_) (fun hc40=> ?_)))))))))
 ·refine eB (aL (aJ (bD (lE aY (lE (fQ 8) (lE aU ?_))))))
  obtain⟨x41,hx42⟩:=kX hd k (by omega)
  obtain⟨ha43,cs44,hc45,rfl⟩:=hsp3e _ _ hx42
  refine lE (sW aJi ha43) (lE ofa ?_)
  refine lv (v:=Ix (x41.author)) (bI bHg.ok rfl (bH.imp (kB hc45) (fun _ h=>Cs.sub (vs:=[Ix (x41.author)]) 0 h rfl))) (lE aU (lE lO ?_))
  refine aN (cN _ rfl (fun hc47=> ?_) (fun hc47=> ?_))
  ·refine aC (lE fL (lE aY (lE (fQ 8) (lE aU (lE (sW aJi ha43) ?_)))))
   refine lv (v:= .agg #[Ix (x41.author),Ix (x41.number),.slice x41.p (x41.n) x41.c,.bool (x41.done),Ix (x41.at_),Ix (x41.e),.slice x41.q (x41.m) x41.k]) (fV aYz.ok rfl (kB hc45) rfl) ?_
   refine dA rfl rfl rfl (bZ aJi aYy.ok (cells:= #[Ix (x41.author),Ix (x41.number),.slice x41.p (x41.n) x41.c,.bool (x41.done),Ix (x41.at_),Ix (x41.e),.slice x41.q (x41.m) x41.k]) rfl rfl rfl (by kernel_rfl)) ?_
   rintro _ _ ⟨b48,rfl,rfl⟩
   refine dA rfl rfl rfl (cF (F:=xF) 1 aJi bJu (p:=p) (m:=dl.length) (xs:=dl) (ys:=[x41]) (ao:=(some ⟨b48,0,none⟩)) (k:=1) (c:=1) rfl rfl rfl rfl rfl (gX (z:=x41) 0 rfl rfl) (by first|omega|simp only[List.length_nil,List.length_cons,List.length_append,List.length_set];omega) (by first|omega|simp only[List.length_nil,List.length_cons,List.length_append,List.length_set];omega)) ?_
   rintro _ _ ⟨rp49,rc50,rfl,rfl⟩
   refine lE iO (aH (aP (bA (aC (lE aU (lv (v:=Nx (k+1)) (bO rfl rfl (cW (by omega) (by omega))) (lE bN (aH ?_))))))))
   refine dD [false,true,true,true,true,true,true,true,true,true] rfl ?_
   exact bG ⟨(k+1,(dl++[x41]),rp49,rc50),⟨⟨rfl,rfl,rfl,rfl,rfl,rfl,rfl,rfl⟩,rfl,⟨by omega,by rw[uA,bCd hx42 hc47];rfl⟩⟩,(show hd.length-(k+1)<hd.length-k from by omega)⟩
  refine cG (aP (bA (aC (lE aU (lv (v:=Nx (k+1)) (bO rfl rfl (cW (by omega) (by omega))) (lE bN (aH ?_)))))))
  exact bG ⟨(k+1,dl,p,c),⟨⟨rfl,rfl,rfl,rfl,rfl,rfl,rfl,rfl⟩,rfl,⟨by omega,by rw[uA,bEu hx42 (Decidable.not_not.1 hc47)]⟩⟩,(show hd.length-(k+1)<hd.length-k from by omega)⟩
 refine cK (aF (aF (cL (kM (lE fL (lE aY ?_))))))
 refine lu (mS 5 (#[sB qp out.ps pc,sB hp out.hs hc,Ix (out.last),Ix (out.su.a0),Ix (out.su.a1),Ix (out.su.a2),Ix (out.su.a3),sB p dl c])) (aN ?_)
 refine aL ?_
 refine jS [sv 86 (.agg #[sB qp out.ps pc,sB hp out.hs hc,Ix (out.last),Ix (out.su.a0),Ix (out.su.a1),Ix (out.su.a2),Ix (out.su.a3),sB p dl c]) [] [] [0],sv 87 (.agg #[.bool (R.done),Ix (R.at_),Ix (R.e),sB q R.holds qk]) [] [] [1],⟨[0],[0],[2],[],fun _=>True⟩,⟨[0,1,2],[1],[3],[],fun _=>True⟩] [u0,u0,u0,u0,u1 [1],u1 [0],(some 3,[3]),(some 2,[2])] [⟨(some 2),none,[],[],fun _=>pt b2 (.cells #[sB qp out.ps pc,sB hp out.hs hc,Ix (out.last),Ix (out.su.a0),Ix (out.su.a1),Ix (out.su.a2),Ix (out.su.a3),sB p dl c] 62)⟩,⟨(some 3),none,[],[],fun _=>pt b3 (.cells #[.bool (R.done),Ix (R.at_),Ix (R.e),sB q R.holds qk] 66)⟩] [(10,pp b4 0),(11,pp b5 0),(8,pp b2 0),(9,pp b3 0)] [2,3] ⟨rfl,rfl,rfl,rfl,trivial⟩ ⟨?_,?_,?_,?_,trivial⟩ ?_
 ·rintro f M-⟨i0,-⟩
  exact aT (dK 0)
 ·rintro f M-⟨i0,-⟩
  exact aT (dK 0)
 ·rintro f M ⟨k0,-⟩ ⟨i0,-⟩
  refine dL (aA (d:=86) (aA (d:=8) rfl i0) k0) ?_
  refine lu (mS 0 (#[sB qp out.ps pc,sB hp out.hs hc,Ix (out.last),Ix (out.su.a0),Ix (out.su.a1),Ix (out.su.a2),Ix (out.su.a3),sB p dl c])) (aH ?_)
  exact bC (aA (d:=86) (aA (d:=8) rfl i0) k0) trivial (aB 0 rfl)
 ·rintro f M ⟨k0,-⟩ ⟨i0,-⟩
  refine dL (aA (d:=87) (aA (d:=9) rfl i0) k0) ?_
  refine lu (mS 0 (#[.bool (R.done),Ix (R.at_),Ix (R.e),sB q R.holds qk])) (aH ?_)
  exact bC (aA (d:=87) (aA (d:=9) rfl i0) k0) trivial (aB 0 rfl)
 rintro fa51 ⟨-,-,-,-,-⟩ ⟨j0,j1,-⟩
 refine jD ?_
 refine aD (d:=8) j0 (aD (d:=9) j1 (ftr ?_))
 refine gK (m:=[.agg #[sB qp out.ps pc,sB hp out.hs hc,Ix (out.last),Ix (out.su.a0),Ix (out.su.a1),Ix (out.su.a2),Ix (out.su.a3),sB p dl c],.agg #[.bool (R.done),Ix (R.at_),Ix (R.e),sB q R.holds qk]]) Tryz.results52 ⟨bS tw2.ok rfl (cD 7 rfl rfl) rfl,bS tw4.ok rfl (cD 8 rfl rfl) rfl,trivial⟩ rfl ?_
 intro w hw
 replace hw:=hw.perm (L':=[gZ kF 128 p1 c1 rh.ps qp pc out.ps,gZ fG 130 p2 c2 rh.hs hp hc out.hs,aK xF 122 p c dl,aK aZ 3 q qk R.holds,pt b5 (.cells #[.bool (R.done),Ix (R.at_),Ix (R.e),sB q R.holds qk] 66),pt b4 (.cells #[sB qp out.ps pc,sB hp out.hs hc,Ix (out.last),Ix (out.su.a0),Ix (out.su.a1),Ix (out.su.a2),Ix (out.su.a3),sB p dl c] 62),pt b1 (.cells #[sB p1 rh.ps (c1),sB p2 rh.hs (c2),Ix (rh.last),Ix (rh.su.a0),Ix (rh.su.a1),Ix (rh.su.a2),Ix (rh.su.a3),sB p3 hd (c3)] 62),pt b2 (.cells #[sB qp out.ps pc,sB hp out.hs hc,Ix (out.last),Ix (out.su.a0),Ix (out.su.a1),Ix (out.su.a2),Ix (out.su.a3),sB p dl c] 62),pt b3 (.cells #[.bool (R.done),Ix (R.at_),Ix (R.e),sB q R.holds qk] 66)]) (by exact(aW [2,3,0,1,4,5,6,7,8] 9 rfl (by kernel_rfl) (by kernel_rfl)))
 replace hw:=aG (L':=[gZ kF 128 p1 c1 rh.ps qp pc out.ps,gZ fG 130 p2 c2 rh.hs hp hc out.hs,aK xF 122 p c dl,aK aZ 3 q qk R.holds]) [true,true,true,true,false,false,false,false,false] rfl hw
 have hde:dl=e0::gD au hd:=by rw[uA,List.take_of_length_le (by omega)]
 subst hde
 subst he0
 obtain rfl:Z=(out,R):=hZ.symm.trans hrun
 exact⟨qp,pc,hp,hc,p,c,q,qk,rfl,hw⟩
theorem vH(β:Base)(w:World)(hw:St β [] w)(z1 z2 z3 z4 z5 z6 z7:Value)(p3:Option Addr)(c3:Nat)(hd:List KMh)(hsp3:Sl xF.R β.heap (sB p3 hd c3) hd)(hdn:hd.length≤100000)(au:Int)(m:KMh)(so:Bool)(hm:(mE hd au).getD xE=m)(hso:(mE hd au).isSome=so):oP Tryz.prog 51 #[.agg #[z1,z2,z3,z4,z5,z6,z7,sB p3 hd c3],Ix au] β w (.tuple #[.agg #[Ix m.author,Ix m.number,.slice m.p m.n m.c,.bool m.done,Ix m.at_,Ix m.e,.slice m.q m.m m.k],.bool so]):=by
 obtain⟨-,hsp3l,hsp3m,hsp3e⟩:=gA hsp3
 refine enter (n:=28) Tryz.func51 rfl Tryz.ntmps51 rfl ?_ hw
 refine bD (mL fun b1=> ?_)
 refine gB fun b2=>lE dP (aN (eR (aC (lE bN (aN (aJ ?_))))))
 refine cZ (fun(k:Nat) f L=>(f 1=Ix (au)∧f 2=pp b1 0∧f 4=pp b2 0∧f 6=Nx (k))∧L=[pt b2 (.cells #[.int .i64 (0),.int .i64 (0),.slice none 0 0,.bool false,.int .i64 (0),.int .i64 (0),.slice none 0 0] 122),pt b1 (.cells #[z1,z2,z3,z4,z5,z6,z7,sB p3 hd (c3)] 62)]∧(k≤hd.length∧mE hd au=mE (hd.drop k) au)) (fun k=>hd.length-k) 0 ?_ ?_
 ·exact⟨⟨rfl,rfl,rfl,rfl⟩,rfl,⟨Nat.zero_le _,rfl⟩⟩
 rintro k f0 L0 ⟨⟨hs1,hs2,hs4,hs6⟩,hL,⟨hkl,hk⟩⟩
 subst L0
 refine bJ 1 hs1 (bJ 2 hs2 (bJ 4 hs4 (bJ 6 hs6 (eR (aC (lE aU (lE aY (lE (fQ 1) (lE gY (lE gN (aN ?_)))))))))))
 refine cN _ rfl (fun hc3=> ?_) (fun hc3=> ?_)
 ·refine eB (aL (aJ (bD (lE aY (lE (fQ 1) (lE aU ?_))))))
  obtain⟨x4,hx5⟩:=kX hd k (by omega)
  obtain⟨ha6,cs7,hc8,rfl⟩:=hsp3e _ _ hx5
  refine lE (sW aJi ha6) (lE ofa ?_)
  refine lv (v:=Ix (x4.author)) (bI bHg.ok rfl (bH.imp (kB hc8) (fun _ h=>Cs.sub (vs:=[Ix (x4.author)]) 0 h rfl))) (lE aU (lE fD ?_))
  refine aN (cN _ rfl (fun hc10=> ?_) (fun hc10=> ?_))
  ·refine bD (lE aY (lE (fQ 1) (lE aU (lE (sW aJi ha6) ?_))))
   refine lv (v:= .agg #[Ix (x4.author),Ix (x4.number),.slice x4.p (x4.n) x4.c,.bool (x4.done),Ix (x4.at_),Ix (x4.e),.slice x4.q (x4.m) x4.k]) (fV aYz.ok rfl (kB hc8) rfl) ?_
   refine lu (mS 0 (#[Ix (x4.author),Ix (x4.number),.slice x4.p (x4.n) x4.c,.bool (x4.done),Ix (x4.at_),Ix (x4.e),.slice x4.q (x4.m) x4.k])) (lE dP ?_)
   refine aN (aV (aR (aI (aI (aR (aI ?_))))))
   refine gK (m:=[.agg #[Ix (x4.author),Ix (x4.number),.slice x4.p (x4.n) x4.c,.bool (x4.done),Ix (x4.at_),Ix (x4.e),.slice x4.q (x4.m) x4.k],.bool true]) Tryz.results51 ⟨bS aYz.ok rfl (cD 0 rfl rfl) rfl,eP (v:= .bool true) rfl,trivial⟩ rfl ?_
   intro w hw
   have he:mE hd au=some x4:=by rw[hk,aKi hx5,if_pos hc10]
   rw[he]at hm hso
   subst hm;subst hso
   exact⟨rfl,aG [false,false] rfl hw⟩
  refine cG (aP (bA (aC (lE aU (lv (v:=Nx (k+1)) (bO rfl rfl (cW (by omega) (by omega))) (lE bN (aH ?_)))))))
  exact bG ⟨k+1,⟨⟨rfl,rfl,rfl,rfl⟩,rfl,⟨by omega,by rw[hk,aKi hx5,if_neg hc10]⟩⟩,(show hd.length-(k+1)<hd.length-k from by omega)⟩
 refine cK (aF (aF (cL (kM ?_))))
 refine lv (v:= .agg #[.int .i64 (0),.int .i64 (0),.slice none 0 0,.bool false,.int .i64 (0),.int .i64 (0),.slice none 0 0]) (bV aYy.ok bHi (vs:=[]) (cells:= #[.int .i64 (0),.int .i64 (0),.slice none 0 0,.bool false,.int .i64 (0),.int .i64 (0),.slice none 0 0]) rfl (by kernel_rfl)) ?_
 refine lu (mS 0 (#[.int .i64 (0),.int .i64 (0),.slice none 0 0,.bool false,.int .i64 (0),.int .i64 (0),.slice none 0 0])) (lE dP (aN (aV ?_)))
 refine gK (m:=[.agg #[.int .i64 (0),.int .i64 (0),.slice none 0 0,.bool false,.int .i64 (0),.int .i64 (0),.slice none 0 0],.bool false]) Tryz.results51 ⟨bS aYz.ok rfl (cD 0 rfl rfl) rfl,eP (v:= .bool false) rfl,trivial⟩ rfl ?_
 intro w hw
 have he:mE hd au=none:=by rw[hk,bBx (by omega)]
 rw[he]at hm hso
 subst hm;subst hso
 exact⟨rfl,aG [false,false] rfl hw⟩
end Go.Proofs
