/-
 The reference's transactions: walked. Printed by a program of my own.
-/
import Derived.Test.YtjejfkajcbdgjaaGreatTd28
set_option linter.all false
set_option maxHeartbeats 4000000
namespace Go.Proofs
open Go Go.Sl Go.Td Go.Jn
instance tw0:ZerC Tryz.prog 62 (.agg #[.slice none 0 0,.slice none 0 0,.int .i64 (0),.int .i64 (0),.int .i64 (0),.int .i64 (0),.int .i64 (0),.slice none 0 0]):={}
instance tw1:ZerC Tryz.prog 66 (.agg #[.bool false,.int .i64 (0),.int .i64 (0),.slice none 0 0]):={}
instance tw2:TyC Tryz.prog 62 true 8:={}
theorem tw3:xP Tryz.prog 66 [(0,1),(1,1),(2,1),(3,1)]=true:=by kernel_rfl
instance tw4:TyC Tryz.prog 66 true 4:={}
instance tw5:UndC Tryz.prog 69 120:={}
theorem tw6:mF Tryz.prog 69 120 8=true:=by kernel_rfl
instance tw7:TyC Tryz.prog 120 true 8:={}
instance tw8:CfC Tryz.prog 99:={}
instance tw9:FldC Tryz.prog 62 2 2 1 false:={}
instance bGj:TyC Tryz.prog 3 false 1:={}
theorem aYh:mF Tryz.prog 35 3 1=true:=by kernel_rfl
instance tw12:FldC Tryz.prog 66 3 3 1 false:={}
instance tw13:TyC Tryz.prog 35 false 1:={}
theorem bGk:wS Tryz.prog 3 1 8=true:=by kernel_rfl
instance bIs:ZerC Tryz.prog 3 (.int .i64 (0)):={}
theorem bGl:xP Tryz.prog 122 [(0,1),(1,1),(2,1),(3,4)]=true:=by kernel_rfl
instance aYi:ZerC Tryz.prog 122 (.agg #[.int .i64 (0),.int .i64 (0),.slice none 0 0,.bool false,.int .i64 (0),.int .i64 (0),.slice none 0 0]):={}
theorem aIu:mF Tryz.prog 60 122 7=true:=by kernel_rfl
instance tw19:FldC Tryz.prog 62 4 7 1 false:={}
instance tw20:TyC Tryz.prog 60 false 1:={}
instance tw21:UndC Tryz.prog 60 122:={}
instance tw22:FldC Tryz.prog 122 0 0 1 false:={}
instance aYj:TyC Tryz.prog 122 true 7:={}
theorem bIt:wS Tryz.prog 122 7 88=true:=by kernel_rfl
theorem aBm(β:Base)(w:World)(hw:St β [] w)(rh:KRh)(p1 p2 p3:Option Addr)(c1 c2 c3:Nat)(hd:List KMh)(hsp1:Sl jW.R β.heap (sB p1 rh.ps c1) rh.ps)(hsp2:Sl fD.R β.heap (sB p2 rh.hs c2) rh.hs)(hsp3:Sl wR.R β.heap (sB p3 hd c3) hd)(hdn:hd.length≤100000)(s0:KSt)(hr0:RelS s0 rh)(hg0:Good2 s0)(hl62:rh.last+16≤4611686018427387904)(au nu:Int)(pa:Option Addr)(ca:Nat)(al:List KAct)(hsa:Sl dI.R β.heap (sB pa al ca) al)(hf:∀x∈al,x.formed=true)(han:al.length≤16)(Z:KRh×KRes)(hZ:aS rh rh [] 0 al=Z):Calls Tryz.prog 52 #[.agg #[sB p1 rh.ps c1,sB p2 rh.hs c2,Ix rh.last,Ix rh.su.a0,Ix rh.su.a1,Ix rh.su.a2,Ix rh.su.a3,sB p3 hd c3],Ix au,Ix nu,sB pa al ca] w fun r w'=>∃p1' c1' p2' c2' p3' c3' q k,r= .returned (.tuple #[.agg #[sB p1' Z.1.ps c1',sB p2' Z.1.hs c2',Ix Z.1.last,Ix Z.1.su.a0,Ix Z.1.su.a1,Ix Z.1.su.a2,Ix Z.1.su.a3,sB p3' (⟨au,nu,pa,al.length,ca,Z.2.done,Z.2.at_,Z.2.e,q,Z.2.holds.length,k⟩::fX au hd:List KMh) c3'],.agg #[.bool Z.2.done,Ix Z.2.at_,Ix Z.2.e,sB q Z.2.holds k]])∧St β [gP jW 128 p1 c1 rh.ps p1' c1' Z.1.ps,gP fD 130 p2 c2 rh.hs p2' c2' Z.1.hs,aM wR 122 p3' c3' (⟨au,nu,pa,al.length,ca,Z.2.done,Z.2.at_,Z.2.e,q,Z.2.holds.length,k⟩::fX au hd:List KMh),aM bA 3 q k Z.2.holds] w':=by
 obtain⟨-,hsp1l,hsp1m,hsp1e⟩:=gF hsp1
 obtain⟨-,hsp2l,hsp2m,hsp2e⟩:=gF hsp2
 obtain⟨-,hsp3l,hsp3m,hsp3e⟩:=gF hsp3
 obtain⟨-,hsal,hsam,hsae⟩:=gF hsa
 refine enter (n:=88) Tryz.func52 rfl Tryz.ntmps52 rfl ?_ hw
 refine bE (mA fun b1=> ?_)
 refine gB fun b2=>gB fun b3=>eY (lE (dD 2) (gB fun b4=> ?_))
 refine lu (mS 0 (#[sB p1 rh.ps (c1),sB p2 rh.hs (c2),Ix (rh.last),Ix (rh.su.a0),Ix (rh.su.a1),Ix (rh.su.a2),Ix (rh.su.a3),sB p3 hd (c3)])) (eY ?_)
 refine lv (v:= .agg #[.bool true,.int .i64 (0),.int .i64 (0),.slice none 0 0]) (cR tw1.ok tw3 (vs:=[(0,.bool true)]) (cells:= #[.bool true,.int .i64 (0),.int .i64 (0),.slice none 0 0]) rfl rfl) ?_
 refine gB fun b5=>lu (mS 0 (#[.bool true,.int .i64 (0),.int .i64 (0),.slice none 0 0])) (aN ?_)
 refine jN (r:=gP fD 130 p2 c2 rh.hs p2 c2 rh.hs) eX (jN (r:=gP jW 128 p1 c1 rh.ps p1 c1 rh.ps) eX ?_)
 refine jN (r:=aM bA 3 none 0 []) (eG _ _ _) ?_
 refine gG (fun(f:Fm) (L:List bU)=>∃(out:KRh) (R:KRes) (qp:Option Addr) (pc:Nat) (hp:Option Addr) (hc:Nat) (q:Option Addr) (qk:Nat),(f 1=Ix (au)∧f 2=Ix (nu)∧f 3=sB pa al (ca)∧f 4=pp b1 0∧f 8=pp b2 0∧f 9=pp b3 0∧f 10=pp b4 0∧f 11=pp b5 0)∧L=[aM bA 3 q qk R.holds,gP jW 128 p1 c1 rh.ps qp pc out.ps,gP fD 130 p2 c2 rh.hs hp hc out.hs,pt b5 (.cells #[.bool (R.done),Ix (R.at_),Ix (R.e),sB q R.holds qk] 66),pt b4 (.cells #[sB qp out.ps pc,sB hp out.hs hc,Ix (out.last),Ix (out.su.a0),Ix (out.su.a1),Ix (out.su.a2),Ix (out.su.a3),sB p3 hd (c3)] 62),pt b3 (.cells #[.bool false,.int .i64 (0),.int .i64 (0),.slice none 0 0] 66),pt b2 (.cells #[.slice none 0 0,.slice none 0 0,.int .i64 (0),.int .i64 (0),.int .i64 (0),.int .i64 (0),.int .i64 (0),.slice none 0 0] 62),pt b1 (.cells #[sB p1 rh.ps (c1),sB p2 rh.hs (c2),Ix (rh.last),Ix (rh.su.a0),Ix (rh.su.a1),Ix (rh.su.a2),Ix (rh.su.a3),sB p3 hd (c3)] 62)]∧(aS rh rh [] 0 al=(out,R))) ?_ ?_
 ·refine bE (lE bN (aN (aK ?_)))
  refine dB (fun(x_:Nat×KRh×KSt×List Int×Option Addr×Nat×Option Addr×Nat×Option Addr×Nat) f L=>match x_ with|(k,out,s,made,qp,pc,hp,hc,q,qk)=>(f 1=Ix (au)∧f 2=Ix (nu)∧f 3=sB pa al (ca)∧f 4=pp b1 0∧f 8=pp b2 0∧f 9=pp b3 0∧f 10=pp b4 0∧f 11=pp b5 0∧f 12=Nx (k))∧L=[aM bA 3 q qk made,gP jW 128 p1 c1 rh.ps qp pc out.ps,gP fD 130 p2 c2 rh.hs hp hc out.hs,pt b5 (.cells #[.bool true,.int .i64 (0),.int .i64 (0),sB q made qk] 66),pt b4 (.cells #[sB qp out.ps pc,sB hp out.hs hc,Ix (out.last),Ix (out.su.a0),Ix (out.su.a1),Ix (out.su.a2),Ix (out.su.a3),sB p3 hd (c3)] 62),pt b3 (.cells #[.bool false,.int .i64 (0),.int .i64 (0),.slice none 0 0] 66),pt b2 (.cells #[.slice none 0 0,.slice none 0 0,.int .i64 (0),.int .i64 (0),.int .i64 (0),.int .i64 (0),.int .i64 (0),.slice none 0 0] 62),pt b1 (.cells #[sB p1 rh.ps (c1),sB p2 rh.hs (c2),Ix (rh.last),Ix (rh.su.a0),Ix (rh.su.a1),Ix (rh.su.a2),Ix (rh.su.a3),sB p3 hd (c3)] 62)]∧(k≤al.length∧aS rh rh [] 0 al=aS rh out made k (al.drop k)∧RelS s out∧Good2 s∧out.last≤rh.last+((k:Nat):Int)∧made.length≤k)) (fun(k,out,s,made,qp,pc,hp,hc,q,qk)=>al.length-k) (0,rh,s0,[],p1,c1,p2,c2,none,0) ?_ ?_
  ·exact⟨⟨rfl,rfl,rfl,rfl,rfl,rfl,rfl,rfl,rfl⟩,rfl,⟨Nat.zero_le _,rfl,hr0,hg0,by omega,Nat.le_refl _⟩⟩
  rintro⟨k,out,s,made,qp,pc,hp,hc,q,qk⟩ f0 L0 ⟨⟨hs1,hs2,hs3,hs4,hs8,hs9,hs10,hs11,hs12⟩,hL,⟨hk,hrun,hrs,hgs,hlo,hml⟩⟩
  subst L0
  refine bM 1 hs1 (bM 2 hs2 (bM 3 hs3 (bM 4 hs4 (bM 8 hs8 (bM 9 hs9 (bM 10 hs10 (bM 11 hs11 (bM 12 hs12 (eS (aC (lE aX (lE fN ?_))))))))))))
  refine lE gO (lE gH (aN (cG _ rfl (fun hc6=> ?_) (fun hc6=> ?_))))
  ·refine eF (aL (aK (aL ?_)))
   obtain⟨x7,hx8⟩:=kO al k (by omega)
   obtain⟨ha9,cs10,hc11,rfl⟩:=hsae _ _ hx8
   refine jH [sv 26 (.agg #[sB qp out.ps pc,sB hp out.hs hc,Ix (out.last),Ix (out.su.a0),Ix (out.su.a1),Ix (out.su.a2),Ix (out.su.a3),sB p3 hd (c3)]) [] [] [0],sv 27 (sB pa al (ca)) [] [] [1],sv 28 (Nx (k)) [] [] [2],sv 29 (.pointer (some ((ba pa).add (k*8)))) [1,2] [1,2] [],sv 30 (.agg #[Bx (x7.kind),Ix (x7.owner),Ix (x7.other),Ix (x7.hold),Ix (x7.a.a0),Ix (x7.a.a1),Ix (x7.a.a2),Ix (x7.a.a3)]) [1,2,3] [3] [],⟨[0,1,2,3,4],[0,4],[],[31],fun f=>f 31= .tuple #[.agg #[sB (fP 0 0 (f 31)) (dT out x7).1.ps (fQ 0 0 (f 31)),sB (fP 0 1 (f 31)) (dT out x7).1.hs (fQ 0 1 (f 31)),Ix ((dT out x7).1.last),Ix ((dT out x7).1.su.a0),Ix ((dT out x7).1.su.a1),Ix ((dT out x7).1.su.a2),Ix ((dT out x7).1.su.a3),sB p3 hd (c3)],Ix ((dT out x7).2)]⟩,⟨(List.range 6),[5],[],[25,31],fun f=>f 25= .tuple #[.agg #[sB (fP 0 0 (f 31)) (dT out x7).1.ps (fQ 0 0 (f 31)),sB (fP 0 1 (f 31)) (dT out x7).1.hs (fQ 0 1 (f 31)),Ix ((dT out x7).1.last),Ix ((dT out x7).1.su.a0),Ix ((dT out x7).1.su.a1),Ix ((dT out x7).1.su.a2),Ix ((dT out x7).1.su.a3),sB p3 hd (c3)],Ix ((dT out x7).2)]⟩,⟨(List.range 7),[6],[],[31,32],fun f=>f 32= .agg #[sB (fP 0 0 (f 31)) (dT out x7).1.ps (fQ 0 0 (f 31)),sB (fP 0 1 (f 31)) (dT out x7).1.hs (fQ 0 1 (f 31)),Ix ((dT out x7).1.last),Ix ((dT out x7).1.su.a0),Ix ((dT out x7).1.su.a1),Ix ((dT out x7).1.su.a2),Ix ((dT out x7).1.su.a3),sB p3 hd (c3)]⟩,sv 33 (Ix ((dT out x7).2)) (List.range 7) [6] [],⟨[],[],[],[13],fun f=>f 13= .pointer (some ⟨(cU (f 13)),0,none⟩)⟩,⟨[0,1,2,3,4,5,6,7,9],[9,7],[],[],fun _=>True⟩,sv 14 (Ix ((dT out x7).2)) (List.range 11) [8] []] [u0,u1 [5],u1 [5],u0,u1 [0]] [⟨(some 5),none,[],[31],fun f=>gP jW 128 qp pc out.ps (fP 0 0 (f 31)) (fQ 0 0 (f 31)) ((dT out x7).1.ps)⟩,⟨(some 5),none,[],[31],fun f=>gP fD 130 hp hc out.hs (fP 0 1 (f 31)) (fQ 0 1 (f 31)) ((dT out x7).1.hs)⟩,⟨(some 9),(some 10),[10],[13],fun f=>pt (cU (f 13)) (.cells #[.slice none 0 0,.slice none 0 0,.int .i64 (0),.int .i64 (0),.int .i64 (0),.int .i64 (0),.int .i64 (0),.slice none 0 0] 62)⟩,⟨(some 10),none,[],[13,31],fun f=>pt (cU (f 13)) (.cells #[sB (fP 0 0 (f 31)) (dT out x7).1.ps (fQ 0 0 (f 31)),sB (fP 0 1 (f 31)) (dT out x7).1.hs (fQ 0 1 (f 31)),Ix ((dT out x7).1.last),Ix ((dT out x7).1.su.a0),Ix ((dT out x7).1.su.a1),Ix ((dT out x7).1.su.a2),Ix ((dT out x7).1.su.a3),sB p3 hd (c3)] 62)⟩] [(10,pp b4 0),(3,sB pa al (ca)),(12,Nx (k)),(1,Ix (au)),(2,Ix (nu)),(4,pp b1 0),(8,pp b2 0),(9,pp b3 0),(11,pp b5 0)] [3,4,1,5,6,7,0,8,2] ⟨rfl,rfl,rfl,rfl,rfl,rfl,rfl,rfl,rfl,trivial⟩ ⟨?_,?_,?_,?_,?_,?_,?_,?_,?_,?_,?_,?_,trivial⟩ ?_
   ·rintro f M-⟨i0,-⟩
    exact aU (dD 0)
   ·rintro f M-⟨i0,-⟩
    exact aU fN
   ·rintro f M-⟨i0,-⟩
    exact aU aX
   ·rintro f M ⟨k0,k1,-⟩-
    exact hO (aB (d:=28) (aB (d:=27) rfl k0) k1) rfl (iH rfl rfl tw6 (by omega) ha9) (.refl _)
   ·rintro f M ⟨k0,-⟩-
    exact hO (aB (d:=29) rfl k0) rfl (fS tw7.ok rfl (kB hc11) rfl) (.refl _)
   ·rintro f M ⟨k0,k1,-⟩-
    refine dU (aB (d:=30) (aB (d:=26) rfl k0) k1) ?_
    refine pN (cK (vs:=[.agg #[sB qp out.ps pc,sB hp out.hs hc,Ix (out.last),Ix (out.su.a0),Ix (out.su.a1),Ix (out.su.a2),Ix (out.su.a3),sB p3 hd (c3)],.agg #[Bx (x7.kind),Ix (x7.owner),Ix (x7.other),Ix (x7.hold),Ix (x7.a.a0),Ix (x7.a.a1),Ix (x7.a.a2),Ix (x7.a.a3)]]) tw8.ok rfl rfl) rfl fun w β1 sb kn hw1 back=>(bBu β1 w hw1 out (hrs.rb hgs) (by omega) qp hp _ pc hc _ _ (kn _ (yK 0 rfl hsp1)) (kn _ (yK 1 rfl hsp2)) x7 (hf _ (List.mem_of_getElem? hx8))).mono ?_
    rintro e w' ⟨pp17,pc18,hp19,hc20,rfl,hw'⟩
    refine⟨_,rfl,_,back _ _ hw',?_⟩
    refine aH ?_
    exact aO (aB (d:=30) (aB (d:=26) rfl k0) k1) rfl ((((aA 1 rfl).trans (aA 1 rfl)).trans (aA 3 rfl)).trans (aA 3 rfl))
   ·rintro f M ⟨k0,-⟩-
    have hs31:f 31= .tuple #[.agg #[sB (fP 0 0 (f 31)) (dT out x7).1.ps (fQ 0 0 (f 31)),sB (fP 0 1 (f 31)) (dT out x7).1.hs (fQ 0 1 (f 31)),Ix ((dT out x7).1.last),Ix ((dT out x7).1.su.a0),Ix ((dT out x7).1.su.a1),Ix ((dT out x7).1.su.a2),Ix ((dT out x7).1.su.a3),sB p3 hd (c3)],Ix ((dT out x7).2)]:=k0
    exact aU oE
   ·rintro f M ⟨k0,-⟩-
    have hs25:f 25= .tuple #[.agg #[sB (fP 0 0 (f 31)) (dT out x7).1.ps (fQ 0 0 (f 31)),sB (fP 0 1 (f 31)) (dT out x7).1.hs (fQ 0 1 (f 31)),Ix ((dT out x7).1.last),Ix ((dT out x7).1.su.a0),Ix ((dT out x7).1.su.a1),Ix ((dT out x7).1.su.a2),Ix ((dT out x7).1.su.a3),sB p3 hd (c3)],Ix ((dT out x7).2)]:=k0
    exact aU qS
   ·rintro f M ⟨k0,-⟩-
    have hs25:f 25= .tuple #[.agg #[sB (fP 0 0 (f 31)) (dT out x7).1.ps (fQ 0 0 (f 31)),sB (fP 0 1 (f 31)) (dT out x7).1.hs (fQ 0 1 (f 31)),Ix ((dT out x7).1.last),Ix ((dT out x7).1.su.a0),Ix ((dT out x7).1.su.a1),Ix ((dT out x7).1.su.a2),Ix ((dT out x7).1.su.a3),sB p3 hd (c3)],Ix ((dT out x7).2)]:=k0
    exact aU pO
   ·rintro f M- -
    refine dU rfl ?_
    refine gB fun b22=>aH ?_
    exact aO rfl rfl (aA 0 rfl)
   ·rintro f M ⟨k0,k1,-⟩-
    have hs13:f 13= .pointer (some ⟨(cU (f 13)),0,none⟩):=k0
    have hs32:f 32= .agg #[sB (fP 0 0 (f 31)) (dT out x7).1.ps (fQ 0 0 (f 31)),sB (fP 0 1 (f 31)) (dT out x7).1.hs (fQ 0 1 (f 31)),Ix ((dT out x7).1.last),Ix ((dT out x7).1.su.a0),Ix ((dT out x7).1.su.a1),Ix ((dT out x7).1.su.a2),Ix ((dT out x7).1.su.a3),sB p3 hd (c3)]:=k1
    refine dU (aB (aB rfl hs13) hs32) ?_
    refine lu (mS 0 (#[sB (fP 0 0 (f 31)) (dT out x7).1.ps (fQ 0 0 (f 31)),sB (fP 0 1 (f 31)) (dT out x7).1.hs (fQ 0 1 (f 31)),Ix ((dT out x7).1.last),Ix ((dT out x7).1.su.a0),Ix ((dT out x7).1.su.a1),Ix ((dT out x7).1.su.a2),Ix ((dT out x7).1.su.a3),sB p3 hd (c3)])) ?_
    refine aH ?_
    exact bB (aB (aB rfl hs13) hs32) trivial (aA 0 rfl)
   ·rintro f M ⟨k0,-⟩-
    exact aU bN
   rintro fa23 ⟨-,-,-,-,-,-,-,-,-,k9,-,k11,-⟩ ⟨j0,j1,j2,j3,j4,j5,j6,j7,j8,-⟩
   refine jI ?_
   refine aD (d:=1) j0 (aD (d:=2) j1 (aD (d:=3) j2 (aD (d:=4) j3 (aD (d:=8) j4 (aD (d:=9) j5 ?_)))))
   refine aD (d:=10) j6 (aD (d:=11) j7 (aD (d:=12) j8 (aD (d:=13) k9 (aD (d:=14) k11 (rT (bE (lE aX ?_)))))))
   refine lE lC (aN (cG _ rfl (fun hc24=> ?_) (fun hc24=> ?_)))
   ·refine bE (lE (dD 7) ?_)
    refine lu (mS 4 (#[sB p1 rh.ps (c1),sB p2 rh.hs (c2),Ix (rh.last),Ix (rh.su.a0),Ix (rh.su.a1),Ix (rh.su.a2),Ix (rh.su.a3),sB p3 hd (c3)])) (eY ?_)
    refine lE aX (lE aX ?_)
    refine lv (v:= .agg #[.bool false,Nx (k),Ix ((dT out x7).2),.slice none 0 0]) (cR tw1.ok tw3 (vs:=[(1,Nx (k)),(2,Ix ((dT out x7).2))]) (cells:= #[.bool false,Nx (k),Ix ((dT out x7).2),.slice none 0 0]) rfl rfl) ?_
    refine lu (mS 3 (#[.bool false,Nx (k),Ix ((dT out x7).2),.slice none 0 0])) (aN (cM (aG (pZ rfl (aG (aG ?_))))))
    refine cN (aFm (r:=gP fD 130 p2 c2 rh.hs p2 c2 rh.hs) eX (aFm (r:=gP jW 128 p1 c1 rh.ps p1 c1 rh.ps) eX ?_))
    refine aFm (r:=aM bA 3 none 0 []) (eG _ _ _) ?_
    refine dM [true,true,true,false,false,false,true,true,true,true,true,false,false,false] rfl ?_
    exact bI ⟨rh,(⟨false,(k:Int),(dT out x7).2,[]⟩:KRes),p1,c1,p2,c2,none,0,⟨rfl,rfl,rfl,rfl,rfl,rfl,rfl,rfl⟩,rfl,hrun.trans (aSz hx8 hc24)⟩
   refine eF (eS (aAe [8,1,0,2,3,4,5,6,7,9,10] 11 rfl (by kernel_rfl) ?_))
   refine aCr (L:=[gP jW 128 qp pc out.ps (fP 0 0 (fa23 31)) (fQ 0 0 (fa23 31)) ((dT out x7).1.ps),gP jW 128 p1 c1 rh.ps qp pc out.ps]) (M:=[aM bA 3 q qk made,gP fD 130 p2 c2 rh.hs hp hc out.hs,pt b5 (.cells #[.bool true,.int .i64 (0),.int .i64 (0),sB q made qk] 66),pt b4 (.cells #[sB qp out.ps pc,sB hp out.hs hc,Ix (out.last),Ix (out.su.a0),Ix (out.su.a1),Ix (out.su.a2),Ix (out.su.a3),sB p3 hd (c3)] 62),pt b3 (.cells #[.bool false,.int .i64 (0),.int .i64 (0),.slice none 0 0] 66),pt b2 (.cells #[.slice none 0 0,.slice none 0 0,.int .i64 (0),.int .i64 (0),.int .i64 (0),.int .i64 (0),.int .i64 (0),.slice none 0 0] 62),pt b1 (.cells #[sB p1 rh.ps (c1),sB p2 rh.hs (c2),Ix (rh.last),Ix (rh.su.a0),Ix (rh.su.a1),Ix (rh.su.a2),Ix (rh.su.a3),sB p3 hd (c3)] 62),gP fD 130 hp hc out.hs (fP 0 1 (fa23 31)) (fQ 0 1 (fa23 31)) ((dT out x7).1.hs),pt (cU (fa23 13)) (.cells #[sB (fP 0 0 (fa23 31)) (dT out x7).1.ps (fQ 0 0 (fa23 31)),sB (fP 0 1 (fa23 31)) (dT out x7).1.hs (fQ 0 1 (fa23 31)),Ix ((dT out x7).1.last),Ix ((dT out x7).1.su.a0),Ix ((dT out x7).1.su.a1),Ix ((dT out x7).1.su.a2),Ix ((dT out x7).1.su.a3),sB p3 hd (c3)] 62)]) (r:=gP jW 128 p1 c1 rh.ps (fP 0 0 (fa23 31)) (fQ 0 0 (fa23 31)) ((dT out x7).1.ps)) aBx ?_
   refine aAe [8,2,0,1,3,4,5,6,7,9] 10 rfl (by kernel_rfl) ?_
   refine aCr (L:=[gP fD 130 hp hc out.hs (fP 0 1 (fa23 31)) (fQ 0 1 (fa23 31)) ((dT out x7).1.hs),gP fD 130 p2 c2 rh.hs hp hc out.hs]) (M:=[gP jW 128 p1 c1 rh.ps (fP 0 0 (fa23 31)) (fQ 0 0 (fa23 31)) ((dT out x7).1.ps),aM bA 3 q qk made,pt b5 (.cells #[.bool true,.int .i64 (0),.int .i64 (0),sB q made qk] 66),pt b4 (.cells #[sB qp out.ps pc,sB hp out.hs hc,Ix (out.last),Ix (out.su.a0),Ix (out.su.a1),Ix (out.su.a2),Ix (out.su.a3),sB p3 hd (c3)] 62),pt b3 (.cells #[.bool false,.int .i64 (0),.int .i64 (0),.slice none 0 0] 66),pt b2 (.cells #[.slice none 0 0,.slice none 0 0,.int .i64 (0),.int .i64 (0),.int .i64 (0),.int .i64 (0),.int .i64 (0),.slice none 0 0] 62),pt b1 (.cells #[sB p1 rh.ps (c1),sB p2 rh.hs (c2),Ix (rh.last),Ix (rh.su.a0),Ix (rh.su.a1),Ix (rh.su.a2),Ix (rh.su.a3),sB p3 hd (c3)] 62),pt (cU (fa23 13)) (.cells #[sB (fP 0 0 (fa23 31)) (dT out x7).1.ps (fQ 0 0 (fa23 31)),sB (fP 0 1 (fa23 31)) (dT out x7).1.hs (fQ 0 1 (fa23 31)),Ix ((dT out x7).1.last),Ix ((dT out x7).1.su.a0),Ix ((dT out x7).1.su.a1),Ix ((dT out x7).1.su.a2),Ix ((dT out x7).1.su.a3),sB p3 hd (c3)] 62)]) (r:=gP fD 130 p2 c2 rh.hs (fP 0 1 (fa23 31)) (fQ 0 1 (fa23 31)) ((dT out x7).1.hs)) aBx ?_
   obtain⟨s2,hrs2,hgs2,hlo2⟩:=aTd hgs hrs (hf _ (List.mem_of_getElem? hx8)) (Decidable.not_not.1 hc24)
   refine aC (lE aY (lE (cQ 8) (lE aY (lE (cQ 4) (lE oG (aN (cG _ rfl (fun hc25=> ?_) (fun hc25=> ?_))))))))
   ·refine jH [⟨[],[],[],[45],fun f=>f 45= .slice (some ⟨(cU (f 45)),0,none⟩) (0) 0⟩,sv 46 (pp b5 3) [] [] [0],sv 47 (sB q made qk) [1] [1] [],⟨[0,1,2],[0,2],[],[48],fun f=>f 48=sB (dG (f 48)) made (dH (f 48))⟩,sv 49 (.pointer (some ⟨(cU (fa23 13)),2,none⟩)) [] [] [1],sv 50 (Ix ((dT out x7).1.last)) [4] [4] [],⟨[4,5],[5],[],[51],fun f=>f 51= .slice (some ⟨(cU (f 51)),0,none⟩) 1 1⟩,⟨(List.range 7),[3,6],[],[52],fun f=>f 52=sB (dG (f 52)) (made++[((dT out x7).1.last)]) (dH (f 52))⟩,sv 53 (pp b5 3) (List.range 8) [] [0],⟨(List.range 9),[8,7],[],[],fun _=>True⟩] [u0,u0,u1 [3],(some 9,[2,9]),u0,u0,u0,u0,u1 [5]] [⟨(some 0),(some 3),[3],[45],fun f=>aM bA 3 (some ⟨(cU (f 45)),0,none⟩) 0 []⟩,⟨(some 3),(some 7),[7],[48],fun f=>aM bA 3 (dG (f 48)) (dH (f 48)) made⟩,⟨(some 6),none,[7],[51],fun f=>pt (cU (f 51)) (.cells #[Ix ((dT out x7).1.last)] 3)⟩,⟨(some 7),none,[],[52],fun f=>aM bA 3 (dG (f 52)) (dH (f 52)) (made++[((dT out x7).1.last)])⟩,⟨(some 9),none,[],[52],fun f=>pt b5 (.cells #[.bool true,.int .i64 (0),.int .i64 (0),sB (dG (f 52)) (made++[((dT out x7).1.last)]) (dH (f 52))] 66)⟩] [(11,pp b5 0),(13,.pointer (some ⟨(cU (fa23 13)),0,none⟩)),(1,Ix (au)),(2,Ix (nu)),(3,sB pa al (ca)),(4,pp b1 0),(8,pp b2 0),(9,pp b3 0),(10,pp b4 0),(12,Nx (k))] [2,3,4,5,6,7,8,0,9,1] ⟨rfl,rfl,rfl,rfl,rfl,rfl,rfl,rfl,rfl,rfl,trivial⟩ ⟨?_,?_,?_,?_,?_,?_,?_,?_,?_,?_,trivial⟩ ?_
    ·rintro f M- -
     refine dU rfl ?_
     refine dX rfl rfl rfl (oW aYh) ?_
     rintro _ _ ⟨b27,rfl,rfl⟩
     refine oT 0 rfl (r':=aM bA 3 (some ⟨b27,0,none⟩) 0 []) (fun a h=>jB (F:=bA) (xs:=[]) rfl (by decide) a h) (aH ?_)
     exact aO rfl rfl (aA 0 rfl)
    ·rintro f M-⟨i0,-⟩
     exact aU aY
    ·rintro f M ⟨k0,-⟩-
     exact aU (fR 0)
    ·rintro f M ⟨k0,k1,-⟩-
     have hs45:f 45= .slice (some ⟨(cU (f 45)),0,none⟩) (0) 0:=k0
     refine dU (aB (d:=47) (aB rfl hs45) k1) ?_
     refine dX rfl rfl rfl (dF (F:=bA) 1 aYh bGk (p:=(some ⟨(cU (f 45)),0,none⟩)) (m:=0) (xs:=[]) (ys:=made) (ao:=q) (k:=made.length) (c:=qk) rfl rfl rfl rfl rfl (bF.imp (kA 0 (F:=bA) (m:=made.length) rfl rfl) fun _ h=>(Sl.parts h).2.2.2) (by first|omega|simp only[List.length_nil,List.length_cons,List.length_append,List.length_set];omega) (by first|omega|simp only[List.length_nil,List.length_cons,List.length_append,List.length_set];omega)) ?_
     rintro _ _ ⟨rp30,rc31,rfl,rfl⟩
     refine aH ?_
     exact aO (aB (d:=47) (aB rfl hs45) k1) rfl ((aA 1 rfl).trans (aA 1 rfl))
    ·rintro f M-⟨i0,-⟩
     exact aU aY
    ·rintro f M ⟨k0,-⟩-
     exact aU (cQ 0)
    ·rintro f M ⟨k0,-⟩-
     refine dU (aB (d:=50) rfl k0) ?_
     refine dX rfl rfl rfl (dO aYh bIs.ok (cells:= #[Ix ((dT out x7).1.last)]) rfl rfl rfl rfl) ?_
     rintro _ _ ⟨b33,rfl,rfl⟩
     refine aH ?_
     exact aO (aB (d:=50) rfl k0) rfl (aA 0 rfl)
    ·rintro f M ⟨k0,k1,-⟩-
     have hs48:f 48=sB (dG (f 48)) made (dH (f 48)):=k0
     have hs51:f 51= .slice (some ⟨(cU (f 51)),0,none⟩) 1 1:=k1
     refine dU (aB (aB rfl hs48) hs51) ?_
     refine dX rfl rfl rfl (dF (F:=bA) 0 aYh bGk (p:=(dG (f 48))) (m:=made.length) (xs:=made) (ys:=[((dT out x7).1.last)]) (ao:=(some ⟨(cU (f 51)),0,none⟩)) (k:=1) (c:=1) rfl rfl rfl rfl rfl (jM (z:=((dT out x7).1.last)) 1 rfl rfl) (by first|omega|simp only[List.length_nil,List.length_cons,List.length_append,List.length_set];omega) (by first|omega|simp only[List.length_nil,List.length_cons,List.length_append,List.length_set];omega)) ?_
     rintro _ _ ⟨rp36,rc37,rfl,rfl⟩
     refine aH ?_
     exact aO (aB (aB rfl hs48) hs51) rfl ((aA 0 rfl).trans (aA 1 rfl))
    ·rintro f M-⟨i0,-⟩
     exact aU aY
    ·rintro f M ⟨k0,k1,-⟩-
     have hs52:f 52=sB (dG (f 52)) (made++[((dT out x7).1.last)]) (dH (f 52)):=k1
     refine dU (aB (aB (d:=53) rfl k0) hs52) ?_
     refine lu (mS 0 (#[.bool true,.int .i64 (0),.int .i64 (0),sB (dG (f 52)) (made++[((dT out x7).1.last)]) (dH (f 52))])) (aH ?_)
     exact bB (aB (aB (d:=53) rfl k0) hs52) trivial (aA 0 rfl)
    rintro fa38 ⟨-,-,-,-,-,-,-,-,-,-,-⟩ ⟨j0,j1,j2,j3,j4,j5,j6,j7,j8,j9,-⟩
    refine jI ?_
    refine aD (d:=1) j0 (aD (d:=2) j1 (aD (d:=3) j2 (aD (d:=4) j3 (aD (d:=8) j4 (aD (d:=9) j5 ?_)))))
    refine aD (d:=10) j6 (aD (d:=11) j7 (aD (d:=12) j8 (aD (d:=13) j9 (bD (aC (lE (dD 7) ?_))))))
    refine lu (mS 3 (#[sB (fP 0 0 (fa23 31)) (dT out x7).1.ps (fQ 0 0 (fa23 31)),sB (fP 0 1 (fa23 31)) (dT out x7).1.hs (fQ 0 1 (fa23 31)),Ix ((dT out x7).1.last),Ix ((dT out x7).1.su.a0),Ix ((dT out x7).1.su.a1),Ix ((dT out x7).1.su.a2),Ix ((dT out x7).1.su.a3),sB p3 hd (c3)])) ?_
    refine aH (aR (bD (aC (lE aX (lv (v:=Nx (k+1)) (bX rfl rfl (dA (by omega) (by omega))) (lE bN (aH ?_)))))))
    refine vP [9,1,0,10,3,4,5,6,2,7,8] 11 ?_
    refine dM [true,true,true,true,true,true,true,true,false,false,false] rfl ?_
    exact bI ⟨(k+1,(dT out x7).1,s2,(made++[((dT out x7).1.last)]),(fP 0 0 (fa23 31)),(fQ 0 0 (fa23 31)),(fP 0 1 (fa23 31)),(fQ 0 1 (fa23 31)),(dG (fa38 52)),(dH (fa38 52))),⟨⟨rfl,rfl,rfl,rfl,rfl,rfl,rfl,rfl,rfl⟩,rfl,⟨by omega,by rw[hrun,aBr hx8 (Decidable.not_not.1 hc24),if_pos hc25],hrs2,hgs2,by omega,by rw[List.length_append];exact Nat.succ_le_succ hml⟩⟩,(show al.length-(k+1)<al.length-k from by omega)⟩
   refine eF (aC (lE (dD 8) ?_))
   refine lu (mS 4 (#[sB (fP 0 0 (fa23 31)) (dT out x7).1.ps (fQ 0 0 (fa23 31)),sB (fP 0 1 (fa23 31)) (dT out x7).1.hs (fQ 0 1 (fa23 31)),Ix ((dT out x7).1.last),Ix ((dT out x7).1.su.a0),Ix ((dT out x7).1.su.a1),Ix ((dT out x7).1.su.a2),Ix ((dT out x7).1.su.a3),sB p3 hd (c3)])) ?_
   refine aH (aR (bD (aC (lE aX (lv (v:=Nx (k+1)) (bX rfl rfl (dA (by omega) (by omega))) (lE bN (aH ?_)))))))
   refine vP [2,1,0,3,4,5,6,7,8] 9 ?_
   refine dM [true,true,true,true,true,true,true,true,false] rfl ?_
   exact bI ⟨(k+1,(dT out x7).1,s2,made,(fP 0 0 (fa23 31)),(fQ 0 0 (fa23 31)),(fP 0 1 (fa23 31)),(fQ 0 1 (fa23 31)),q,qk),⟨⟨rfl,rfl,rfl,rfl,rfl,rfl,rfl,rfl,rfl⟩,rfl,⟨by omega,by rw[hrun,aBr hx8 (Decidable.not_not.1 hc24),if_neg hc25],hrs2,hgs2,by omega,by omega⟩⟩,(show al.length-(k+1)<al.length-k from by omega)⟩
  refine cM (aG (aG (cN ?_)))
  exact bI ⟨out,(⟨true,0,0,made⟩:KRes),qp,pc,hp,hc,q,qk,⟨rfl,rfl,rfl,rfl,rfl,rfl,rfl,rfl⟩,rfl,hrun.trans (aTa (by omega))⟩
 rintro f0 L0 ⟨out,R,qp,pc,hp,hc,q,qk,⟨hs1,hs2,hs3,hs4,hs8,hs9,hs10,hs11⟩,hL,hrun⟩
 subst L0
 refine bM 1 hs1 (bM 2 hs2 (bM 3 hs3 (bM 4 hs4 (bM 8 hs8 (bM 9 hs9 (bM 10 hs10 (bM 11 hs11 (bE (lE aX (lE aX (lE fN (lE (dD 3) ?_))))))))))))
 refine lv (v:= .agg #[Ix (au),Ix (nu),sB pa al (ca),.bool (R.done),Ix (R.at_),Ix (R.e),sB q R.holds qk]) (cR aYi.ok bGl (vs:=[(0,Ix (au)),(1,Ix (nu)),(2,sB pa al (ca)),(3,.agg #[.bool (R.done),Ix (R.at_),Ix (R.e),sB q R.holds qk])]) (cells:= #[Ix (au),Ix (nu),sB pa al (ca),.bool (R.done),Ix (R.at_),Ix (R.e),sB q R.holds qk]) rfl (by kernel_rfl)) ?_
 refine dX rfl rfl rfl (dO aIu aYi.ok (cells:= #[Ix (au),Ix (nu),sB pa al (ca),.bool (R.done),Ix (R.at_),Ix (R.e),sB q R.holds qk]) rfl rfl rfl (by kernel_rfl)) ?_
 rintro _ _ ⟨b39,rfl,rfl⟩
 refine lE iT (aN (eS ?_))
 refine aPg 0 (r':=aM wR 122 (some ⟨b39,0,none⟩) 1 [(⟨au,nu,pa,al.length,ca,R.done,R.at_,R.e,q,R.holds.length,qk⟩:KMh)]) rfl (jB (F:=wR) (xs:=[(⟨au,nu,pa,al.length,ca,R.done,R.at_,R.e,q,R.holds.length,qk⟩:KMh)]) rfl (show 1≤1048576 by decide)) ?_
 generalize he0:(⟨au,nu,pa,al.length,ca,R.done,R.at_,R.e,q,R.holds.length,qk⟩:KMh)=e0
 refine aC (lE bN (aN (aK (nY [true,true,true,true,true,true,true,true,true] rfl ?_))))
 refine dB (fun(x_:Nat×List KMh×Option Addr×Nat) f L=>match x_ with|(k,dl,p,c)=>(f 1=Ix (au)∧f 4=pp b1 0∧f 8=pp b2 0∧f 9=pp b3 0∧f 10=pp b4 0∧f 11=pp b5 0∧f 15=sB p dl c∧f 16=Nx (k))∧L=[aM wR 122 p c dl,aM bA 3 q qk R.holds,gP jW 128 p1 c1 rh.ps qp pc out.ps,gP fD 130 p2 c2 rh.hs hp hc out.hs,pt b5 (.cells #[.bool (R.done),Ix (R.at_),Ix (R.e),sB q R.holds qk] 66),pt b4 (.cells #[sB qp out.ps pc,sB hp out.hs hc,Ix (out.last),Ix (out.su.a0),Ix (out.su.a1),Ix (out.su.a2),Ix (out.su.a3),sB p3 hd (c3)] 62),pt b3 (.cells #[.bool false,.int .i64 (0),.int .i64 (0),.slice none 0 0] 66),pt b2 (.cells #[.slice none 0 0,.slice none 0 0,.int .i64 (0),.int .i64 (0),.int .i64 (0),.int .i64 (0),.int .i64 (0),.slice none 0 0] 62),pt b1 (.cells #[sB p1 rh.ps (c1),sB p2 rh.hs (c2),Ix (rh.last),Ix (rh.su.a0),Ix (rh.su.a1),Ix (rh.su.a2),Ix (rh.su.a3),sB p3 hd (c3)] 62)]∧(k≤hd.length∧dl=e0::fX au (hd.take k))) (fun(k,dl,p,c)=>hd.length-k) (0,[e0],(some ⟨b39,0,none⟩),1) ?_ ?_
 ·exact⟨⟨rfl,rfl,rfl,rfl,rfl,rfl,rfl,rfl⟩,rfl,⟨Nat.zero_le _,rfl⟩⟩
 rintro⟨k,dl,p,c⟩ f0 L0 ⟨⟨hs1,hs4,hs8,hs9,hs10,hs11,hs15,hs16⟩,hL,⟨hk_,tL⟩⟩
 subst L0
 refine bM 1 hs1 (bM 4 hs4 (bM 8 hs8 (bM 9 hs9 (bM 10 hs10 (bM 11 hs11 (bM 15 hs15 (bM 16 hs16 ?_)))))))
 have hdll:dl.length≤hd.length+1:=by rw[tL];exact Nat.succ_le_succ bBk
 refine eS (aC (lE aX (lE aY (lE (fR 8) (lE gO (lE gH (aN (cG _ rfl (fun hc40=> ?_) (fun hc40=> ?_)))))))))
 ·refine eF (aL (aK (bE (lE aY (lE (fR 8) (lE aX ?_))))))
  obtain⟨x41,hx42⟩:=kO hd k (by omega)
  obtain⟨ha43,cs44,hc45,rfl⟩:=hsp3e _ _ hx42
  refine lE (sJ aIu ha43) (lE ofa ?_)
  refine lv (v:=Ix (x41.author)) (bH bGj.ok rfl (bF.imp (kB hc45) (fun _ h=>Cs.sub (vs:=[Ix (x41.author)]) 0 h rfl))) (lE aX (lE lC ?_))
  refine aN (cG _ rfl (fun hc47=> ?_) (fun hc47=> ?_))
  ·refine aC (lE fN (lE aY (lE (fR 8) (lE aX (lE (sJ aIu ha43) ?_)))))
   refine lv (v:= .agg #[Ix (x41.author),Ix (x41.number),.slice x41.p (x41.n) x41.c,.bool (x41.done),Ix (x41.at_),Ix (x41.e),.slice x41.q (x41.m) x41.k]) (fS aYj.ok rfl (kB hc45) rfl) ?_
   refine dX rfl rfl rfl (dO aIu aYi.ok (cells:= #[Ix (x41.author),Ix (x41.number),.slice x41.p (x41.n) x41.c,.bool (x41.done),Ix (x41.at_),Ix (x41.e),.slice x41.q (x41.m) x41.k]) rfl rfl rfl (by kernel_rfl)) ?_
   rintro _ _ ⟨b48,rfl,rfl⟩
   refine dX rfl rfl rfl (dF (F:=wR) 1 aIu bIt (p:=p) (m:=dl.length) (xs:=dl) (ys:=[x41]) (ao:=(some ⟨b48,0,none⟩)) (k:=1) (c:=1) rfl rfl rfl rfl rfl (jM (z:=x41) 0 rfl rfl) (by first|omega|simp only[List.length_nil,List.length_cons,List.length_append,List.length_set];omega) (by first|omega|simp only[List.length_nil,List.length_cons,List.length_append,List.length_set];omega)) ?_
   rintro _ _ ⟨rp49,rc50,rfl,rfl⟩
   refine lE iT (aH (aR (bD (aC (lE aX (lv (v:=Nx (k+1)) (bX rfl rfl (dA (by omega) (by omega))) (lE bN (aH ?_))))))))
   refine dM [false,true,true,true,true,true,true,true,true,true] rfl ?_
   exact bI ⟨(k+1,(dl++[x41]),rp49,rc50),⟨⟨rfl,rfl,rfl,rfl,rfl,rfl,rfl,rfl⟩,rfl,⟨by omega,by rw[tL,bBl hx42 hc47];rfl⟩⟩,(show hd.length-(k+1)<hd.length-k from by omega)⟩
  refine cD (aR (bD (aC (lE aX (lv (v:=Nx (k+1)) (bX rfl rfl (dA (by omega) (by omega))) (lE bN (aH ?_)))))))
  exact bI ⟨(k+1,dl,p,c),⟨⟨rfl,rfl,rfl,rfl,rfl,rfl,rfl,rfl⟩,rfl,⟨by omega,by rw[tL,bDz hx42 (Decidable.not_not.1 hc47)]⟩⟩,(show hd.length-(k+1)<hd.length-k from by omega)⟩
 refine cM (aG (aG (cN (kM (lE fN (lE aY ?_))))))
 refine lu (mS 5 (#[sB qp out.ps pc,sB hp out.hs hc,Ix (out.last),Ix (out.su.a0),Ix (out.su.a1),Ix (out.su.a2),Ix (out.su.a3),sB p dl c])) (aN ?_)
 refine aL ?_
 refine jH [sv 86 (.agg #[sB qp out.ps pc,sB hp out.hs hc,Ix (out.last),Ix (out.su.a0),Ix (out.su.a1),Ix (out.su.a2),Ix (out.su.a3),sB p dl c]) [] [] [0],sv 87 (.agg #[.bool (R.done),Ix (R.at_),Ix (R.e),sB q R.holds qk]) [] [] [1],⟨[0],[0],[2],[],fun _=>True⟩,⟨[0,1,2],[1],[3],[],fun _=>True⟩] [u0,u0,u0,u0,u1 [1],u1 [0],(some 3,[3]),(some 2,[2])] [⟨(some 2),none,[],[],fun _=>pt b2 (.cells #[sB qp out.ps pc,sB hp out.hs hc,Ix (out.last),Ix (out.su.a0),Ix (out.su.a1),Ix (out.su.a2),Ix (out.su.a3),sB p dl c] 62)⟩,⟨(some 3),none,[],[],fun _=>pt b3 (.cells #[.bool (R.done),Ix (R.at_),Ix (R.e),sB q R.holds qk] 66)⟩] [(10,pp b4 0),(11,pp b5 0),(8,pp b2 0),(9,pp b3 0)] [2,3] ⟨rfl,rfl,rfl,rfl,trivial⟩ ⟨?_,?_,?_,?_,trivial⟩ ?_
 ·rintro f M-⟨i0,-⟩
  exact aU (dD 0)
 ·rintro f M-⟨i0,-⟩
  exact aU (dD 0)
 ·rintro f M ⟨k0,-⟩ ⟨i0,-⟩
  refine dU (aB (d:=86) (aB (d:=8) rfl i0) k0) ?_
  refine lu (mS 0 (#[sB qp out.ps pc,sB hp out.hs hc,Ix (out.last),Ix (out.su.a0),Ix (out.su.a1),Ix (out.su.a2),Ix (out.su.a3),sB p dl c])) (aH ?_)
  exact bB (aB (d:=86) (aB (d:=8) rfl i0) k0) trivial (aA 0 rfl)
 ·rintro f M ⟨k0,-⟩ ⟨i0,-⟩
  refine dU (aB (d:=87) (aB (d:=9) rfl i0) k0) ?_
  refine lu (mS 0 (#[.bool (R.done),Ix (R.at_),Ix (R.e),sB q R.holds qk])) (aH ?_)
  exact bB (aB (d:=87) (aB (d:=9) rfl i0) k0) trivial (aA 0 rfl)
 rintro fa51 ⟨-,-,-,-,-⟩ ⟨j0,j1,-⟩
 refine jI ?_
 refine aD (d:=8) j0 (aD (d:=9) j1 (ftr ?_))
 refine gA (m:=[.agg #[sB qp out.ps pc,sB hp out.hs hc,Ix (out.last),Ix (out.su.a0),Ix (out.su.a1),Ix (out.su.a2),Ix (out.su.a3),sB p dl c],.agg #[.bool (R.done),Ix (R.at_),Ix (R.e),sB q R.holds qk]]) Tryz.results52 ⟨bQ tw2.ok rfl (bY 7 rfl rfl) rfl,bQ tw4.ok rfl (bY 8 rfl rfl) rfl,trivial⟩ rfl ?_
 intro w hw
 replace hw:=hw.perm (L':=[gP jW 128 p1 c1 rh.ps qp pc out.ps,gP fD 130 p2 c2 rh.hs hp hc out.hs,aM wR 122 p c dl,aM bA 3 q qk R.holds,pt b5 (.cells #[.bool (R.done),Ix (R.at_),Ix (R.e),sB q R.holds qk] 66),pt b4 (.cells #[sB qp out.ps pc,sB hp out.hs hc,Ix (out.last),Ix (out.su.a0),Ix (out.su.a1),Ix (out.su.a2),Ix (out.su.a3),sB p dl c] 62),pt b1 (.cells #[sB p1 rh.ps (c1),sB p2 rh.hs (c2),Ix (rh.last),Ix (rh.su.a0),Ix (rh.su.a1),Ix (rh.su.a2),Ix (rh.su.a3),sB p3 hd (c3)] 62),pt b2 (.cells #[sB qp out.ps pc,sB hp out.hs hc,Ix (out.last),Ix (out.su.a0),Ix (out.su.a1),Ix (out.su.a2),Ix (out.su.a3),sB p dl c] 62),pt b3 (.cells #[.bool (R.done),Ix (R.at_),Ix (R.e),sB q R.holds qk] 66)]) (by exact(aV [2,3,0,1,4,5,6,7,8] 9 rfl (by kernel_rfl) (by kernel_rfl)))
 replace hw:=aF (L':=[gP jW 128 p1 c1 rh.ps qp pc out.ps,gP fD 130 p2 c2 rh.hs hp hc out.hs,aM wR 122 p c dl,aM bA 3 q qk R.holds]) [true,true,true,true,false,false,false,false,false] rfl hw
 have hde:dl=e0::fX au hd:=by rw[tL,List.take_of_length_le (by omega)]
 subst hde
 subst he0
 obtain rfl:Z=(out,R):=hZ.symm.trans hrun
 exact⟨qp,pc,hp,hc,p,c,q,qk,rfl,hw⟩
theorem uR(β:Base)(w:World)(hw:St β [] w)(z1 z2 z3 z4 z5 z6 z7:Value)(p3:Option Addr)(c3:Nat)(hd:List KMh)(hsp3:Sl wR.R β.heap (sB p3 hd c3) hd)(hdn:hd.length≤100000)(au:Int)(m:KMh)(so:Bool)(hm:(lS hd au).getD wQ=m)(hso:(lS hd au).isSome=so):oJ Tryz.prog 51 #[.agg #[z1,z2,z3,z4,z5,z6,z7,sB p3 hd c3],Ix au] β w (.tuple #[.agg #[Ix m.author,Ix m.number,.slice m.p m.n m.c,.bool m.done,Ix m.at_,Ix m.e,.slice m.q m.m m.k],.bool so]):=by
 obtain⟨-,hsp3l,hsp3m,hsp3e⟩:=gF hsp3
 refine enter (n:=28) Tryz.func51 rfl Tryz.ntmps51 rfl ?_ hw
 refine bE (mA fun b1=> ?_)
 refine gB fun b2=>lE dW (aN (eS (aC (lE bN (aN (aK ?_))))))
 refine dB (fun(k:Nat) f L=>(f 1=Ix (au)∧f 2=pp b1 0∧f 4=pp b2 0∧f 6=Nx (k))∧L=[pt b2 (.cells #[.int .i64 (0),.int .i64 (0),.slice none 0 0,.bool false,.int .i64 (0),.int .i64 (0),.slice none 0 0] 122),pt b1 (.cells #[z1,z2,z3,z4,z5,z6,z7,sB p3 hd (c3)] 62)]∧(k≤hd.length∧lS hd au=lS (hd.drop k) au)) (fun k=>hd.length-k) 0 ?_ ?_
 ·exact⟨⟨rfl,rfl,rfl,rfl⟩,rfl,⟨Nat.zero_le _,rfl⟩⟩
 rintro k f0 L0 ⟨⟨hs1,hs2,hs4,hs6⟩,hL,⟨hkl,hk⟩⟩
 subst L0
 refine bM 1 hs1 (bM 2 hs2 (bM 4 hs4 (bM 6 hs6 (eS (aC (lE aX (lE aY (lE (fR 1) (lE gO (lE gH (aN ?_)))))))))))
 refine cG _ rfl (fun hc3=> ?_) (fun hc3=> ?_)
 ·refine eF (aL (aK (bE (lE aY (lE (fR 1) (lE aX ?_))))))
  obtain⟨x4,hx5⟩:=kO hd k (by omega)
  obtain⟨ha6,cs7,hc8,rfl⟩:=hsp3e _ _ hx5
  refine lE (sJ aIu ha6) (lE ofa ?_)
  refine lv (v:=Ix (x4.author)) (bH bGj.ok rfl (bF.imp (kB hc8) (fun _ h=>Cs.sub (vs:=[Ix (x4.author)]) 0 h rfl))) (lE aX (lE eZ ?_))
  refine aN (cG _ rfl (fun hc10=> ?_) (fun hc10=> ?_))
  ·refine bE (lE aY (lE (fR 1) (lE aX (lE (sJ aIu ha6) ?_))))
   refine lv (v:= .agg #[Ix (x4.author),Ix (x4.number),.slice x4.p (x4.n) x4.c,.bool (x4.done),Ix (x4.at_),Ix (x4.e),.slice x4.q (x4.m) x4.k]) (fS aYj.ok rfl (kB hc8) rfl) ?_
   refine lu (mS 0 (#[Ix (x4.author),Ix (x4.number),.slice x4.p (x4.n) x4.c,.bool (x4.done),Ix (x4.at_),Ix (x4.e),.slice x4.q (x4.m) x4.k])) (lE dW ?_)
   refine aN (aT (aQ (aI (aI (aQ (aI ?_))))))
   refine gA (m:=[.agg #[Ix (x4.author),Ix (x4.number),.slice x4.p (x4.n) x4.c,.bool (x4.done),Ix (x4.at_),Ix (x4.e),.slice x4.q (x4.m) x4.k],.bool true]) Tryz.results51 ⟨bQ aYj.ok rfl (bY 0 rfl rfl) rfl,eL (v:= .bool true) rfl,trivial⟩ rfl ?_
   intro w hw
   have he:lS hd au=some x4:=by rw[hk,aJs hx5,if_pos hc10]
   rw[he]at hm hso
   subst hm;subst hso
   exact⟨rfl,aF [false,false] rfl hw⟩
  refine cD (aR (bD (aC (lE aX (lv (v:=Nx (k+1)) (bX rfl rfl (dA (by omega) (by omega))) (lE bN (aH ?_)))))))
  exact bI ⟨k+1,⟨⟨rfl,rfl,rfl,rfl⟩,rfl,⟨by omega,by rw[hk,aJs hx5,if_neg hc10]⟩⟩,(show hd.length-(k+1)<hd.length-k from by omega)⟩
 refine cM (aG (aG (cN (kM ?_))))
 refine lv (v:= .agg #[.int .i64 (0),.int .i64 (0),.slice none 0 0,.bool false,.int .i64 (0),.int .i64 (0),.slice none 0 0]) (cR aYi.ok bGl (vs:=[]) (cells:= #[.int .i64 (0),.int .i64 (0),.slice none 0 0,.bool false,.int .i64 (0),.int .i64 (0),.slice none 0 0]) rfl (by kernel_rfl)) ?_
 refine lu (mS 0 (#[.int .i64 (0),.int .i64 (0),.slice none 0 0,.bool false,.int .i64 (0),.int .i64 (0),.slice none 0 0])) (lE dW (aN (aT ?_)))
 refine gA (m:=[.agg #[.int .i64 (0),.int .i64 (0),.slice none 0 0,.bool false,.int .i64 (0),.int .i64 (0),.slice none 0 0],.bool false]) Tryz.results51 ⟨bQ aYj.ok rfl (bY 0 rfl rfl) rfl,eL (v:= .bool false) rfl,trivial⟩ rfl ?_
 intro w hw
 have he:lS hd au=none:=by rw[hk,bBf (by omega)]
 rw[he]at hm hso
 subst hm;subst hso
 exact⟨rfl,aF [false,false] rfl hw⟩
end Go.Proofs
