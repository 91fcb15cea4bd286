/-
 Copies of maps; a transaction carried out: walked. Printed by a program of my own.
-/
import Derived.Test.YtjejfkajcbdgjaaGreatTdLk
set_option linter.all false
set_option maxHeartbeats 4000000
namespace Go.Proofs
open Go Go.Sl Go.Td
theorem bCl:Tryz.prog.underlying 84=some (.map 3 44):=by kernel_rfl
theorem bCm:Tryz.prog.underlying 85=some (.map 3 104):=by kernel_rfl
theorem bCn:Tryz.prog.underlying 86=some (.map 3 82):=by kernel_rfl
instance bIg:ZerC Tryz.prog 88 (.agg #[.map none,.map none,.int .i64 (0),.int .i64 (0),.int .i64 (0),.int .i64 (0),.int .i64 (0),.map none]):={}
instance aOe:ZerC Tryz.prog 37 (.agg #[.bool false,.int .i64 (0),.int .i64 (0),.slice none 0 0]):={}
instance aYe:TyC Tryz.prog 88 true 8:={}
instance bIh:CfC Tryz.prog 74:={}
instance bIi:CfC Tryz.prog 75:={}
instance tt57:FldC Tryz.prog 88 4 7 1 false:={}
instance aEc:TyC Tryz.prog 86 false 1:={}
instance bIj:CfC Tryz.prog 76:={}
theorem aOf:xP Tryz.prog 37 [(0,1),(1,1),(2,1),(3,1)]=true:=by kernel_rfl
instance aEd:TyC Tryz.prog 37 true 4:={}
instance tt62:FldC Tryz.prog 37 3 3 1 false:={}
instance tt63:TyC Tryz.prog 35 false 1:={}
instance aTu:ZerC Tryz.prog 3 (.int .i64 (0)):={}
instance bFx:TyC Tryz.prog 80 true 3:={}
theorem bFy:xP Tryz.prog 82 [(0,3),(3,4)]=true:=by kernel_rfl
instance bFz:ZerC Tryz.prog 82 (.agg #[.int .i64 (0),.int .i64 (0),.slice none 0 0,.bool false,.int .i64 (0),.int .i64 (0),.slice none 0 0]):={}
theorem aMc(β:Base)(w:World)(m:Nat)(ks:List (Int×KAm))(hw:St β [aZ bW m ks] w):Calls Tryz.prog 74 #[.map (some m)] w fun r w'=>∃b,r= .returned (.map (some b))∧St β [aZ bW b ks,aZ bW m ks] w':=by
 refine enter (n:=9) Tryz.func74 rfl Tryz.ntmps74 rfl ?_ hw
 refine bE (lv dY (aN (eS (aC (lv cC (lv (v:= .bool false) (sX (b:=some m) rfl rfl bCl) (aN (cY rfl (eF (bE ?_))))))))))
 refine lv cC (lv (v:= .iface 84 (.map (some m))) (vM (v:= .map (some m)) rfl bCl rfl) ?_)
 refine dX rfl rfl rfl (aDe (K:=bW) (h:=110) (b:=m) (ks:=ks) 0 rfl xZ rfl rfl) ?_
 rintro _ _ ⟨b1,rfl,rfl⟩
 refine lv (v:= .map (some b1)) (yB (v:= .map (some b1)) rfl bCl rfl) (lv dY (aN (aT (cZ Tryz.results74 rfl ?_))))
 intro w hw
 exact⟨b1,rfl,aF [true,true] rfl hw⟩
theorem aLz(β:Base)(w:World)(m:Nat)(ks:List (Int×KHo))(hw:St β [aZ bK m ks] w):Calls Tryz.prog 75 #[.map (some m)] w fun r w'=>∃b,r= .returned (.map (some b))∧St β [aZ bK b ks,aZ bK m ks] w':=by
 refine enter (n:=9) Tryz.func75 rfl Tryz.ntmps75 rfl ?_ hw
 refine bE (lv dY (aN (eS (aC (lv cC (lv (v:= .bool false) (sX (b:=some m) rfl rfl bCm) (aN (cY rfl (eF (bE ?_))))))))))
 refine lv cC (lv (v:= .iface 85 (.map (some m))) (vM (v:= .map (some m)) rfl bCm rfl) ?_)
 refine dX rfl rfl rfl (aDe (K:=bK) (h:=110) (b:=m) (ks:=ks) 0 rfl xZ rfl rfl) ?_
 rintro _ _ ⟨b1,rfl,rfl⟩
 refine lv (v:= .map (some b1)) (yB (v:= .map (some b1)) rfl bCm rfl) (lv dY (aN (aT (cZ Tryz.results75 rfl ?_))))
 intro w hw
 exact⟨b1,rfl,aF [true,true] rfl hw⟩
theorem aMb(β:Base)(w:World)(m:Nat)(ks:List (Int×KMh))(hw:St β [aZ dS m ks] w):Calls Tryz.prog 76 #[.map (some m)] w fun r w'=>∃b,r= .returned (.map (some b))∧St β [aZ dS b ks,aZ dS m ks] w':=by
 refine enter (n:=9) Tryz.func76 rfl Tryz.ntmps76 rfl ?_ hw
 refine bE (lv dY (aN (eS (aC (lv cC (lv (v:= .bool false) (sX (b:=some m) rfl rfl bCn) (aN (cY rfl (eF (bE ?_))))))))))
 refine lv cC (lv (v:= .iface 86 (.map (some m))) (vM (v:= .map (some m)) rfl bCn rfl) ?_)
 refine dX rfl rfl rfl (aDe (K:=dS) (h:=110) (b:=m) (ks:=ks) 0 rfl xZ rfl rfl) ?_
 rintro _ _ ⟨b1,rfl,rfl⟩
 refine lv (v:= .map (some b1)) (yB (v:= .map (some b1)) rfl bCn rfl) (lv dY (aN (aT (cZ Tryz.results76 rfl ?_))))
 intro w hw
 exact⟨b1,rfl,aF [true,true] rfl hw⟩
theorem aPi(β:Base)(w:World)(mp mh mm:Nat)(s:KSt)(ms:List (Int×KMh))(hw:St β [aZ bW mp s.ps,aZ bK mh s.hs,aZ dS mm ms] w)(au nu:Int)(v:Value)(xs:List KAct)(hs:Sl dI.R β.heap v xs)(hfo:∀x∈xs,x.formed=true)(hn:xs.length≤16)(M:Int)(hM:M≤1152921504606846976)(hg:GoodS s M):Calls Tryz.prog 39 #[.agg (uX mp mh mm s.last s.su),.agg #[Ix au,Ix nu,v]] w fun r w'=>∃mq hq mn p c z ro,aE s xs=(z,ro)∧r= .returned (.tuple #[.agg (uX mq hq mn z.last z.su),.agg #[.bool ro.done,Ix ro.at_,Ix ro.e,sB p ro.holds c]])∧St β [aZ bW mq z.ps,aZ bK hq z.hs,aZ dS mn (dS.put ms au ⟨au,nu,dG v,xs.length,dH v,ro.done,ro.at_,ro.e,p,ro.holds.length,c⟩),aM bA 3 p c ro.holds] w':=by
 obtain⟨va,vc,rfl,vl,vm,ve⟩:=hs.get
 refine enter (n:=83) Tryz.func39 rfl Tryz.ntmps39 rfl ?_ hw
 refine bE (mA fun b1=> ?_)
 refine mA fun b2=> ?_
 refine gB fun b3=>gB fun b4=>aN (aUy (bE (dX rfl rfl rfl (xI (K:=oI)) ?_)))
 rintro _ _ ⟨b5,rfl,rfl⟩
 refine lu (kW (K:=oI) (b:=b5) (ks:=[]) (k:=1) (v:=(some 67)) 0 rfl rfl rfl rfl rfl) ?_
 refine lu (kW (K:=oI) (b:=b5) (ks:=(oI.put [] 1 (some 67))) (k:=2) (v:=(some 68)) 0 rfl rfl rfl rfl rfl) ?_
 refine lu (kW (K:=oI) (b:=b5) (ks:=(oI.put (oI.put [] 1 (some 67)) 2 (some 68))) (k:=3) (v:=(some 69)) 0 rfl rfl rfl rfl rfl) ?_
 refine lu (kW (K:=oI) (b:=b5) (ks:=(oI.put (oI.put (oI.put [] 1 (some 67)) 2 (some 68)) 3 (some 69))) (k:=4) (v:=(some 70)) 0 rfl rfl rfl rfl rfl) ?_
 refine lu (kW (K:=oI) (b:=b5) (ks:=(oI.put (oI.put (oI.put (oI.put [] 1 (some 67)) 2 (some 68)) 3 (some 69)) 4 (some 70))) (k:=5) (v:=(some 71)) 0 rfl rfl rfl rfl rfl) ?_
 refine lu (kW (K:=oI) (b:=b5) (ks:=(oI.put (oI.put (oI.put (oI.put (oI.put [] 1 (some 67)) 2 (some 68)) 3 (some 69)) 4 (some 70)) 5 (some 71))) (k:=6) (v:=(some 72)) 0 rfl rfl rfl rfl rfl) ?_
 refine lu (kW (K:=oI) (b:=b5) (ks:=(oI.put (oI.put (oI.put (oI.put (oI.put (oI.put [] 1 (some 67)) 2 (some 68)) 3 (some 69)) 4 (some 70)) 5 (some 71)) 6 (some 72))) (k:=7) (v:=(some 73)) 0 rfl rfl rfl rfl rfl) ?_
 refine lv cC (lv dY (aN (aL ?_)))
 rw[aMu]
 refine aC (lE (dD 4) (gB fun b6=> ?_))
 refine lu (mS 0 (#[.map (some mp),.map (some mh),Ix (s.last),Ix (s.su.a0),Ix (s.su.a1),Ix (s.su.a2),Ix (s.su.a3),.map (some mm)])) (aN (aL ?_))
 refine jH [sv 16 (pp b1 0) [] [] [0],sv 17 (.map (some mp)) [0] [0] [],⟨[0,1],[1],[],[18],fun f=>f 18= .map (some (kE (f 18)))⟩,sv 19 (pp b1 1) [] [] [0],sv 20 (.map (some mh)) [3] [3] [],⟨[0,1,2,3,4],[4],[],[21],fun f=>f 21= .map (some (kE (f 21)))⟩,sv 22 (pp b1 7) [] [] [0],sv 23 (.map (some mm)) [6] [6] [],⟨(List.range 8),[7],[],[24],fun f=>f 24= .map (some (kE (f 24)))⟩,sv 25 (pp b6 0) (List.range 9) [] [1],⟨(List.range 10),[9,2],[],[],fun _=>True⟩,sv 26 (pp b6 1) (List.range 11) [] [1],⟨(List.range 12),[11,5],[],[],fun _=>True⟩,sv 27 (pp b6 7) (List.range 13) [] [1],⟨(List.range 14),[13,8],[],[],fun _=>True⟩] [(some 10,[10]),u0,u0,u0,u0,u1 [1,4,7],(some 2,[2]),(some 5,[5]),(some 8,[8])] [⟨(some 2),none,[],[18],fun f=>aZ bW (kE (f 18)) s.ps⟩,⟨(some 2),none,[],[],fun _=>aZ bW mp s.ps⟩,⟨(some 5),none,[],[21],fun f=>aZ bK (kE (f 21)) s.hs⟩,⟨(some 5),none,[],[],fun _=>aZ bK mh s.hs⟩,⟨(some 8),none,[],[24],fun f=>aZ dS (kE (f 24)) ms⟩,⟨(some 8),none,[],[],fun _=>aZ dS mm ms⟩,⟨(some 10),(some 12),[12],[18],fun f=>pt b6 (.cells #[.map (some (kE (f 18))),.map (some mh),Ix (s.last),Ix (s.su.a0),Ix (s.su.a1),Ix (s.su.a2),Ix (s.su.a3),.map (some mm)] 88)⟩,⟨(some 12),(some 14),[14],[18,21],fun f=>pt b6 (.cells #[.map (some (kE (f 18))),.map (some (kE (f 21))),Ix (s.last),Ix (s.su.a0),Ix (s.su.a1),Ix (s.su.a2),Ix (s.su.a3),.map (some mm)] 88)⟩,⟨(some 14),none,[],[18,21,24],fun f=>pt b6 (.cells #[.map (some (kE (f 18))),.map (some (kE (f 21))),Ix (s.last),Ix (s.su.a0),Ix (s.su.a1),Ix (s.su.a2),Ix (s.su.a3),.map (some (kE (f 24)))] 88)⟩] [(2,pp b1 0),(7,pp b6 0),(3,pp b2 0),(4,pp b3 0),(5,pp b4 0),(6,.map (some b5))] [0,2,3,4,5,1] ⟨rfl,rfl,rfl,rfl,rfl,rfl,trivial⟩ ⟨?_,?_,?_,?_,?_,?_,?_,?_,?_,?_,?_,?_,?_,?_,?_,trivial⟩ ?_
 ·rintro f M-⟨i0,-⟩
  exact aU aY
 ·rintro f M ⟨k0,-⟩-
  exact wL (L':=pt b1 (.cells #[.map (some mp),.map (some mh),Ix (s.last),Ix (s.su.a0),Ix (s.su.a1),Ix (s.su.a2),Ix (s.su.a3),.map (some mm)] 88)::M) (aB (d:=16) rfl k0) rfl (bH rL.ok rfl (bY 0 rfl rfl)) (aA 0 rfl) (by rfl)
 ·rintro f M ⟨k0,-⟩-
  refine dU (aB (d:=17) rfl k0) ?_
  refine aW rfl rfl rfl (cK (vs:=[.map (some mp)]) bIh.ok rfl rfl) ?_
  intro w hw
  obtain⟨β1,sb,kn,hw1,back⟩:=St.frame (L:=[_]) (M:=M) hw
  refine(aMc β1 w mp s.ps hw1).mono ?_
  rintro e w' ⟨b8,rfl,hw'⟩
  refine⟨_,rfl,_,back _ _ hw',?_⟩
  refine aH ?_
  exact aO (aB (d:=17) rfl k0) rfl ((aA 1 rfl).trans (aA 1 rfl))
 ·rintro f M-⟨i0,-⟩
  exact aU aY
 ·rintro f M ⟨k0,-⟩-
  exact wL (L':=pt b1 (.cells #[.map (some mp),.map (some mh),Ix (s.last),Ix (s.su.a0),Ix (s.su.a1),Ix (s.su.a2),Ix (s.su.a3),.map (some mm)] 88)::M) (aB (d:=19) rfl k0) rfl (bH uZ.ok rfl (bY 0 rfl rfl)) (aA 0 rfl) (by rfl)
 ·rintro f M ⟨k0,-⟩-
  refine dU (aB (d:=20) rfl k0) ?_
  refine aW rfl rfl rfl (cK (vs:=[.map (some mh)]) bIi.ok rfl rfl) ?_
  intro w hw
  obtain⟨β1,sb,kn,hw1,back⟩:=St.frame (L:=[_]) (M:=M) hw
  refine(aLz β1 w mh s.hs hw1).mono ?_
  rintro e w' ⟨b10,rfl,hw'⟩
  refine⟨_,rfl,_,back _ _ hw',?_⟩
  refine aH ?_
  exact aO (aB (d:=20) rfl k0) rfl ((aA 1 rfl).trans (aA 1 rfl))
 ·rintro f M-⟨i0,-⟩
  exact aU aY
 ·rintro f M ⟨k0,-⟩-
  exact wL (L':=pt b1 (.cells #[.map (some mp),.map (some mh),Ix (s.last),Ix (s.su.a0),Ix (s.su.a1),Ix (s.su.a2),Ix (s.su.a3),.map (some mm)] 88)::M) (aB (d:=22) rfl k0) rfl (bH aEc.ok rfl (bY 0 rfl rfl)) (aA 0 rfl) (by rfl)
 ·rintro f M ⟨k0,-⟩-
  refine dU (aB (d:=23) rfl k0) ?_
  refine aW rfl rfl rfl (cK (vs:=[.map (some mm)]) bIj.ok rfl rfl) ?_
  intro w hw
  obtain⟨β1,sb,kn,hw1,back⟩:=St.frame (L:=[_]) (M:=M) hw
  refine(aMb β1 w mm ms hw1).mono ?_
  rintro e w' ⟨b12,rfl,hw'⟩
  refine⟨_,rfl,_,back _ _ hw',?_⟩
  refine aH ?_
  exact aO (aB (d:=23) rfl k0) rfl ((aA 1 rfl).trans (aA 1 rfl))
 ·rintro f M-⟨i0,-⟩
  exact aU aY
 ·rintro f M ⟨k0,k1,-⟩-
  have hs18:f 18= .map (some (kE (f 18))):=k1
  refine dU (aB (aB (d:=25) rfl k0) hs18) ?_
  refine lu (mS 0 (#[.map (some (kE (f 18))),.map (some mh),Ix (s.last),Ix (s.su.a0),Ix (s.su.a1),Ix (s.su.a2),Ix (s.su.a3),.map (some mm)])) ?_
  refine aH ?_
  exact bB (aB (aB (d:=25) rfl k0) hs18) trivial (aA 0 rfl)
 ·rintro f M-⟨i0,-⟩
  exact aU aY
 ·rintro f M ⟨k0,k1,-⟩-
  have hs21:f 21= .map (some (kE (f 21))):=k1
  refine dU (aB (aB (d:=26) rfl k0) hs21) ?_
  refine lu (mS 0 (#[.map (some (kE (f 18))),.map (some (kE (f 21))),Ix (s.last),Ix (s.su.a0),Ix (s.su.a1),Ix (s.su.a2),Ix (s.su.a3),.map (some mm)])) ?_
  refine aH ?_
  exact bB (aB (aB (d:=26) rfl k0) hs21) trivial (aA 0 rfl)
 ·rintro f M-⟨i0,-⟩
  exact aU aY
 ·rintro f M ⟨k0,k1,-⟩-
  have hs24:f 24= .map (some (kE (f 24))):=k1
  refine dU (aB (aB (d:=27) rfl k0) hs24) ?_
  refine lu (mS 0 (#[.map (some (kE (f 18))),.map (some (kE (f 21))),Ix (s.last),Ix (s.su.a0),Ix (s.su.a1),Ix (s.su.a2),Ix (s.su.a3),.map (some (kE (f 24)))])) ?_
  refine aH ?_
  exact bB (aB (aB (d:=27) rfl k0) hs24) trivial (aA 0 rfl)
 rintro fa13 ⟨-,-,-,-,-,-,-,-,-,-,-,-,-,-,-,-⟩ ⟨j0,j1,j2,j3,j4,j5,-⟩
 refine jI ?_
 refine aD (d:=2) j0 (aD (d:=3) j1 (aD (d:=4) j2 (aD (d:=5) j3 (aD (d:=6) j4 (aD (d:=7) j5 (kM ?_))))))
 refine lv (v:= .agg #[.bool true,.int .i64 (0),.int .i64 (0),.slice none 0 0]) (cR aOe.ok aOf (vs:=[(0,.bool true)]) (cells:= #[.bool true,.int .i64 (0),.int .i64 (0),.slice none 0 0]) rfl rfl) ?_
 refine gB fun b14=>lu (mS 0 (#[.bool true,.int .i64 (0),.int .i64 (0),.slice none 0 0])) (aN (aL (aUw (bD ?_))))
 refine gG (fun(f:Fm) (L:List bU)=>∃(mq:Nat) (hq:Nat) (z:KSt) (ro:KRes) (p:Option Addr) (c:Nat),(f 3=pp b2 0∧f 4=pp b3 0∧f 5=pp b4 0∧f 7=pp b6 0∧f 8=pp b14 0)∧L=[pt b14 (.cells #[.bool (ro.done),Ix (ro.at_),Ix (ro.e),sB p ro.holds c] 37),pt b4 (.cells #[.bool false,.int .i64 (0),.int .i64 (0),.slice none 0 0] 37),pt b3 (.cells #[.map none,.map none,.int .i64 (0),.int .i64 (0),.int .i64 (0),.int .i64 (0),.int .i64 (0),.map none] 88),pt b2 (.cells #[Ix (au),Ix (nu),sB va xs (vc)] 80),aZ dS (kE (fa13 24)) ms,aZ dS mm ms,pt b6 (.cells #[.map (some mq),.map (some hq),Ix (z.last),Ix (z.su.a0),Ix (z.su.a1),Ix (z.su.a2),Ix (z.su.a3),.map (some (kE (fa13 24)))] 88),aZ bW mq z.ps,aZ bK hq z.hs,aM bA 3 p c ro.holds]∧((z,ro)=aE s xs)) ?_ ?_
 ·refine aL (jN (r:=aM bA 3 none 0 []) (eG _ _ _) (aC (lE aY (lE (fR 5) (lE gO (lE aX (aN (aK ?_))))))))
  refine dB (fun(x_:Nat×KSt×List Int×Option Addr×Nat) f L=>match x_ with|(k,z,made,p,c)=>(f 2=pp b1 0∧f 3=pp b2 0∧f 4=pp b3 0∧f 5=pp b4 0∧f 6= .map (some b5)∧f 7=pp b6 0∧f 8=pp b14 0∧f 30=sB va xs (vc)∧f 31=Nx (xs.length)∧f 32=Nx (k))∧L=[aM bA 3 p c made,pt b14 (.cells #[.bool true,.int .i64 (0),.int .i64 (0),sB p made c] 37),aZ oI b5 yL,pt b4 (.cells #[.bool false,.int .i64 (0),.int .i64 (0),.slice none 0 0] 37),pt b3 (.cells #[.map none,.map none,.int .i64 (0),.int .i64 (0),.int .i64 (0),.int .i64 (0),.int .i64 (0),.map none] 88),pt b2 (.cells #[Ix (au),Ix (nu),sB va xs (vc)] 80),pt b1 (.cells #[.map (some mp),.map (some mh),Ix (s.last),Ix (s.su.a0),Ix (s.su.a1),Ix (s.su.a2),Ix (s.su.a3),.map (some mm)] 88),aZ bW (kE (fa13 18)) z.ps,aZ bW mp s.ps,aZ bK (kE (fa13 21)) z.hs,aZ bK mh s.hs,aZ dS (kE (fa13 24)) ms,aZ dS mm ms,pt b6 (.cells #[.map (some (kE (fa13 18))),.map (some (kE (fa13 21))),Ix (z.last),Ix (z.su.a0),Ix (z.su.a1),Ix (z.su.a2),Ix (z.su.a3),.map (some (kE (fa13 24)))] 88)]∧(k≤xs.length∧made.length≤k∧jR s z made k (xs.drop k)=aE s xs∧GoodS z (M+k*2147483648))) (fun(k,z,made,p,c)=>xs.length-k) (0,s,[],none,0) ?_ ?_
  ·exact⟨⟨rfl,rfl,rfl,rfl,rfl,rfl,rfl,rfl,rfl,rfl⟩,rfl,⟨by omega,by simp,rfl,hg.le (by omega)⟩⟩
  rintro⟨k,z,made,p,c⟩ f0 L0 ⟨⟨hs2,hs3,hs4,hs5,hs6,hs7,hs8,hs30,hs31,hs32⟩,hL,⟨hk,hmk,hrun,hg1⟩⟩
  subst L0
  refine bM 2 hs2 (bM 3 hs3 (bM 4 hs4 (bM 5 hs5 (bM 6 hs6 (bM 7 hs7 (bM 8 hs8 (bM 30 hs30 (bM 31 hs31 (bM 32 hs32 (bE (lE gH (aN (aL ?_)))))))))))))
  refine cG _ rfl (fun hc15=> ?_) (fun hc15=> ?_)
  ·refine eF (aL (aK (bE (lE aX ?_))))
   obtain⟨x16,hx17⟩:=kO xs k (by omega)
   obtain⟨ha18,cs19,hc20,rfl⟩:=ve _ _ hx17
   refine lE (sJ vZ ha18) ?_
   refine lv (v:= .agg #[Bx (x16.kind),Ix (x16.owner),Ix (x16.other),Ix (x16.hold),Ix (x16.a.a0),Ix (x16.a.a1),Ix (x16.a.a2),Ix (x16.a.a3)]) (fS aOd.ok rfl (kB hc20) rfl) ?_
   refine gB fun b22=>lE bN ?_
   refine lu (mS 0 (#[Bx (x16.kind),Ix (x16.owner),Ix (x16.other),Ix (x16.hold),Ix (x16.a.a0),Ix (x16.a.a1),Ix (x16.a.a2),Ix (x16.a.a3)])) (aN ?_)
   refine aL ?_
   have hxf:=hfo _ (List.mem_of_getElem? hx17)
   have hklt:=(List.getElem?_eq_some_iff.1 hx17).1
   obtain⟨gg,hgg,hcf,hact⟩:=aOs x16 hxf
   refine aC (lv cC (lE aY (lE (cQ 0) ?_)))
   refine lv (v:= .func (.func gg) #[] #[]) (fI (congrArg oI.encv hgg) (lA (K:=oI) (b:=b5) (ks:=yL) (k:=((x16.kind).toNat:Int)) rfl rfl rfl (bF.of_res 3 rfl (aZ.mono _ _ _) fun _ h=>h))) ?_
   refine lE (dD 0) ?_
   refine aW rfl rfl rfl (cK (vs:=[pp b6 0,.agg #[Bx (x16.kind),Ix (x16.owner),Ix (x16.other),Ix (x16.hold),Ix (x16.a.a0),Ix (x16.a.a1),Ix (x16.a.a2),Ix (x16.a.a3)]]) hcf rfl rfl) ?_
   intro w hw
   replace hw:=hw.perm (L':=[pt b6 (.cells #[.map (some (kE (fa13 18))),.map (some (kE (fa13 21))),Ix (z.last),Ix (z.su.a0),Ix (z.su.a1),Ix (z.su.a2),Ix (z.su.a3),.map (some (kE (fa13 24)))] 88),aZ bW (kE (fa13 18)) z.ps,aZ bK (kE (fa13 21)) z.hs,pt b22 (.cells #[Bx (x16.kind),Ix (x16.owner),Ix (x16.other),Ix (x16.hold),Ix (x16.a.a0),Ix (x16.a.a1),Ix (x16.a.a2),Ix (x16.a.a3)] 47),aM bA 3 p c made,pt b14 (.cells #[.bool true,.int .i64 (0),.int .i64 (0),sB p made c] 37),aZ oI b5 yL,pt b4 (.cells #[.bool false,.int .i64 (0),.int .i64 (0),.slice none 0 0] 37),pt b3 (.cells #[.map none,.map none,.int .i64 (0),.int .i64 (0),.int .i64 (0),.int .i64 (0),.int .i64 (0),.map none] 88),pt b2 (.cells #[Ix (au),Ix (nu),sB va xs (vc)] 80),pt b1 (.cells #[.map (some mp),.map (some mh),Ix (s.last),Ix (s.su.a0),Ix (s.su.a1),Ix (s.su.a2),Ix (s.su.a3),.map (some mm)] 88),aZ bW mp s.ps,aZ bK mh s.hs,aZ dS (kE (fa13 24)) ms,aZ dS mm ms]) (by exact(aV [14,8,10,0,1,2,3,4,5,6,7,9,11,12,13] 15 rfl (by kernel_rfl) (by kernel_rfl)))
   obtain⟨β1,sb,kn,hw1,back⟩:=St.frame (L:=[_,_,_]) (M:=_::_::_::_::_::_::_::_::_::_::_::_::[]) hw
   refine(hact β1 w b6 (kE (fa13 18)) (kE (fa13 21)) (kE (fa13 24)) z hw1 hg1.p hg1.h (nI hg1.su (by omega)) ⟨by have:=hg1.l0;omega,by have:=hg1.lM;omega⟩).mono ?_
   rintro e w' ⟨rfl,hw'⟩
   refine⟨_,rfl,_,back _ _ hw',?_⟩
   refine lE oE (lE pO (lE pO (lE bN (lE bN (aN (aK (bE (lE aX (lE lC (lE dW (aN (cG _ rfl (fun hc23=> ?_) (fun hc23=> ?_)))))))))))))
   ·refine bE (lE aX (lE aX ?_))
    refine lv (v:= .agg #[.bool false,Nx (k),Ix ((cS z x16).2.2),.slice none 0 0]) (cR aOe.ok aOf (vs:=[(1,Nx (k)),(2,Ix ((cS z x16).2.2))]) (cells:= #[.bool false,Nx (k),Ix ((cS z x16).2.2),.slice none 0 0]) rfl rfl) ?_
    refine lu (mS 5 (#[.bool false,Nx (k),Ix ((cS z x16).2.2),.slice none 0 0])) (aN (aL ?_))
    refine jH [sv 52 (pp b1 0) [] [] [0],sv 53 (.map (some mp)) [0] [0] [],sv 54 (pp b1 1) [] [] [0],sv 55 (.map (some mh)) [2] [2] [],sv 56 (pp b1 2) [] [] [0],sv 57 (Ix (s.last)) [4] [4] [],sv 58 (pp b1 3) [] [] [0],sv 59 (.agg (eI s.su)) [6] [6] [],sv 60 (pp b6 0) [0,1] [] [1],⟨[0,1,8],[8,1],[],[],fun _=>True⟩,sv 61 (pp b6 1) [0,1,2,3,8,9] [] [1],⟨[0,1,2,3,8,9,10],[10,3],[],[],fun _=>True⟩,sv 62 (pp b6 2) [0,1,2,3,4,5,8,9,10,11] [] [1],⟨[0,1,2,3,4,5,8,9,10,11,12],[12,5],[],[],fun _=>True⟩,sv 63 (pp b6 3) (List.range 14) [] [1],⟨(List.range 15),[14,7],[],[],fun _=>True⟩] [(some 9,[9]),u0,u0,u0,u0,u0,u0,u0,u0,u0,u1 [1,3,5,7]] [⟨(some 9),(some 11),[11],[],fun _=>pt b6 (.cells #[.map (some mp),.map (some (kE (fa13 21))),Ix ((cS z x16).1.last),Ix ((cS z x16).1.su.a0),Ix ((cS z x16).1.su.a1),Ix ((cS z x16).1.su.a2),Ix ((cS z x16).1.su.a3),.map (some (kE (fa13 24)))] 88)⟩,⟨(some 11),(some 13),[13],[],fun _=>pt b6 (.cells #[.map (some mp),.map (some mh),Ix ((cS z x16).1.last),Ix ((cS z x16).1.su.a0),Ix ((cS z x16).1.su.a1),Ix ((cS z x16).1.su.a2),Ix ((cS z x16).1.su.a3),.map (some (kE (fa13 24)))] 88)⟩,⟨(some 13),(some 15),[15],[],fun _=>pt b6 (.cells #[.map (some mp),.map (some mh),Ix (s.last),Ix ((cS z x16).1.su.a0),Ix ((cS z x16).1.su.a1),Ix ((cS z x16).1.su.a2),Ix ((cS z x16).1.su.a3),.map (some (kE (fa13 24)))] 88)⟩,⟨(some 15),none,[],[],fun _=>pt b6 (.cells #[.map (some mp),.map (some mh),Ix (s.last),Ix (s.su.a0),Ix (s.su.a1),Ix (s.su.a2),Ix (s.su.a3),.map (some (kE (fa13 24)))] 88)⟩] [(2,pp b1 0),(7,pp b6 0),(3,pp b2 0),(4,pp b3 0),(5,pp b4 0),(8,pp b14 0)] [2,3,4,1,5] ⟨rfl,rfl,rfl,rfl,rfl,rfl,trivial⟩ ⟨?_,?_,?_,?_,?_,?_,?_,?_,?_,?_,?_,?_,?_,?_,?_,?_,trivial⟩ ?_
    ·rintro f M-⟨i0,-⟩
     exact aU aY
    ·rintro f M ⟨k0,-⟩-
     exact wL (L':=pt b1 (.cells #[.map (some mp),.map (some mh),Ix (s.last),Ix (s.su.a0),Ix (s.su.a1),Ix (s.su.a2),Ix (s.su.a3),.map (some mm)] 88)::M) (aB (d:=52) rfl k0) rfl (bH rL.ok rfl (bY 0 rfl rfl)) (aA 0 rfl) (by rfl)
    ·rintro f M-⟨i0,-⟩
     exact aU aY
    ·rintro f M ⟨k0,-⟩-
     exact wL (L':=pt b1 (.cells #[.map (some mp),.map (some mh),Ix (s.last),Ix (s.su.a0),Ix (s.su.a1),Ix (s.su.a2),Ix (s.su.a3),.map (some mm)] 88)::M) (aB (d:=54) rfl k0) rfl (bH uZ.ok rfl (bY 0 rfl rfl)) (aA 0 rfl) (by rfl)
    ·rintro f M-⟨i0,-⟩
     exact aU aY
    ·rintro f M ⟨k0,-⟩-
     exact aU (cQ 0)
    ·rintro f M-⟨i0,-⟩
     exact aU aY
    ·rintro f M ⟨k0,-⟩-
     exact aU (dD 0)
    ·rintro f M-⟨i0,-⟩
     exact aU aY
    ·rintro f M ⟨k0,k1,-⟩-
     refine dU (aB (d:=53) (aB (d:=60) rfl k0) k1) ?_
     refine lu (mS 0 (#[.map (some mp),.map (some (kE (fa13 21))),Ix ((cS z x16).1.last),Ix ((cS z x16).1.su.a0),Ix ((cS z x16).1.su.a1),Ix ((cS z x16).1.su.a2),Ix ((cS z x16).1.su.a3),.map (some (kE (fa13 24)))])) ?_
     refine aH ?_
     exact bB (aB (d:=53) (aB (d:=60) rfl k0) k1) trivial (aA 0 rfl)
    ·rintro f M-⟨i0,-⟩
     exact aU aY
    ·rintro f M ⟨k0,k1,-⟩-
     refine dU (aB (d:=55) (aB (d:=61) rfl k0) k1) ?_
     refine lu (mS 0 (#[.map (some mp),.map (some mh),Ix ((cS z x16).1.last),Ix ((cS z x16).1.su.a0),Ix ((cS z x16).1.su.a1),Ix ((cS z x16).1.su.a2),Ix ((cS z x16).1.su.a3),.map (some (kE (fa13 24)))])) ?_
     refine aH ?_
     exact bB (aB (d:=55) (aB (d:=61) rfl k0) k1) trivial (aA 0 rfl)
    ·rintro f M-⟨i0,-⟩
     exact aU aY
    ·rintro f M ⟨k0,k1,-⟩-
     refine dU (aB (d:=57) (aB (d:=62) rfl k0) k1) ?_
     refine lu (mS 0 (#[.map (some mp),.map (some mh),Ix (s.last),Ix ((cS z x16).1.su.a0),Ix ((cS z x16).1.su.a1),Ix ((cS z x16).1.su.a2),Ix ((cS z x16).1.su.a3),.map (some (kE (fa13 24)))])) ?_
     refine aH ?_
     exact bB (aB (d:=57) (aB (d:=62) rfl k0) k1) trivial (aA 0 rfl)
    ·rintro f M-⟨i0,-⟩
     exact aU aY
    ·rintro f M ⟨k0,k1,-⟩-
     refine dU (aB (d:=59) (aB (d:=63) rfl k0) k1) ?_
     refine lu (mS 0 (#[.map (some mp),.map (some mh),Ix (s.last),Ix (s.su.a0),Ix (s.su.a1),Ix (s.su.a2),Ix (s.su.a3),.map (some (kE (fa13 24)))])) ?_
     refine aH ?_
     exact bB (aB (d:=59) (aB (d:=63) rfl k0) k1) trivial (aA 0 rfl)
    rintro fa24 ⟨-,-,-,-,-,-,-,-,-,-,-,-,-,-,-,-,-⟩ ⟨j0,j1,j2,j3,j4,-⟩
    refine jI ?_
    refine aD (d:=3) j0 (aD (d:=4) j1 (aD (d:=5) j2 (aD (d:=7) j3 (aD (d:=8) j4 (bD (cM ?_))))))
    refine pZ rfl (pZ rfl (aG (aG (cN (aFm (r:=aM bA 3 none 0 []) (eG _ _ _) ?_)))))
    refine vP [5,7,8,9,13,14,15,11,12,0,1,2,3,4,6,10] 16 ?_
    refine dM [true,true,true,true,true,true,true,true,true,true,false,false,false,false,false,false] rfl ?_
    exact bI ⟨mp,mh,s,⟨false,((k:Nat):Int),(cS z x16).2.2,[]⟩,none,0,⟨rfl,rfl,rfl,rfl,rfl⟩,rfl,by rw[←hrun,aKz hx17 hc23]⟩
   refine bE (lE aX (lE oG (lE dW (aN (cG _ rfl (fun hc25=> ?_) (fun hc25=> ?_))))))
   ·refine aC (lE aY (lE (fR 5) (lE aX (dX rfl rfl rfl (dO rK aTu.ok (cells:= #[Ix ((cS z x16).2.1)]) rfl rfl rfl rfl) ?_))))
    rintro _ _ ⟨b26,rfl,rfl⟩
    refine dX rfl rfl rfl (dF (F:=bA) 5 rK aYc (p:=p) (m:=made.length) (xs:=made) (ys:=[((cS z x16).2.1)]) (ao:=(some ⟨b26,0,none⟩)) (k:=1) (c:=1) rfl rfl rfl rfl rfl (jM (z:=((cS z x16).2.1)) 0 rfl rfl) (by first|omega|simp only[List.length_nil,List.length_cons,List.length_append,List.length_set];omega) (by first|omega|simp only[List.length_nil,List.length_cons,List.length_append,List.length_set];omega)) ?_
    rintro _ _ ⟨rp27,rc28,rfl,rfl⟩
    refine lE aY (lu (mS 6 (#[.bool true,.int .i64 (0),.int .i64 (0),sB rp27 (made++[((cS z x16).2.1)]) rc28])) (aH (aR (aR (bD ?_)))))
    refine aC (lv (v:=Nx (k+1)) (bX rfl rfl (dA (by omega) (by omega))) (lE aX (aH (vP [5,6,7,8,9,10,11,2,12,3,13,14,15,1,0,4] 16 ?_))))
    refine dM [true,true,true,true,true,true,true,true,true,true,true,true,true,true,false,false] rfl ?_
    exact bI ⟨(k+1,(cS z x16).1,(made++[((cS z x16).2.1)]),rp27,rc28),⟨⟨rfl,rfl,rfl,rfl,rfl,rfl,rfl,rfl,rfl,rfl⟩,rfl,⟨by omega,by first|omega|(simp only[sB,rB,List.length_append,List.length_cons,List.length_nil];omega),by rw[←hrun,zI hx17 (Decidable.not_not.1 hc23),if_pos hc25],(aAj hg1 (cP hxf)).le (by omega)⟩⟩,(show xs.length-(k+1)<xs.length-k from by omega)⟩
   refine cD (aR (aR (bD (aC (lv (v:=Nx (k+1)) (bX rfl rfl (dA (by omega) (by omega))) (lE aX (aH ?_)))))))
   refine vP [4,5,6,7,8,9,10,1,11,2,12,13,14,0,3] 15 ?_
   refine dM [true,true,true,true,true,true,true,true,true,true,true,true,true,true,false] rfl ?_
   exact bI ⟨(k+1,(cS z x16).1,made,p,c),⟨⟨rfl,rfl,rfl,rfl,rfl,rfl,rfl,rfl,rfl,rfl⟩,rfl,⟨by omega,by first|omega|(simp only[sB,rB,List.length_append,List.length_cons,List.length_nil];omega),by rw[←hrun,zI hx17 (Decidable.not_not.1 hc23),if_neg hc25],(aAj hg1 (cP hxf)).le (by omega)⟩⟩,(show xs.length-(k+1)<xs.length-k from by omega)⟩
  refine cM (aG (aG (cN (vP [1,3,4,5,11,12,13,7,9,0,2,6,8,10] 14 ?_))))
  refine dM [true,true,true,true,true,true,true,true,true,true,false,false,false,false] rfl ?_
  exact bI ⟨(kE (fa13 18)),(kE (fa13 21)),z,⟨true,0,0,made⟩,p,c,⟨rfl,rfl,rfl,rfl,rfl⟩,rfl,by rw[←hrun,aLa (by omega)]⟩
 rintro f0 L0 ⟨mq,hq,z,ro,p,c,⟨hs3,hs4,hs5,hs7,hs8⟩,hL,hcar⟩
 subst L0
 refine bM 3 hs3 (bM 4 hs4 (bM 5 hs5 (bM 7 hs7 (bM 8 hs8 (bE (lE aY ?_))))))
 refine lv (v:= .map (some (kE (fa13 24)))) (bH aEc.ok rfl (bY 6 rfl rfl)) (lE aY (lE (cQ 3) (lE (dD 3) (lE (dD 0) ?_))))
 refine lv (v:= .agg #[Ix (au),Ix (nu),sB va xs (vc),.bool (ro.done),Ix (ro.at_),Ix (ro.e),sB p ro.holds c]) (cR bFz.ok bFy (vs:=[(0,.agg #[Ix (au),Ix (nu),sB va xs (vc)]),(1,.agg #[.bool (ro.done),Ix (ro.at_),Ix (ro.e),sB p ro.holds c])]) (cells:= #[Ix (au),Ix (nu),sB va xs (vc),.bool (ro.done),Ix (ro.at_),Ix (ro.e),sB p ro.holds c]) rfl rfl) ?_
 refine lu (qY (K:=dS) (b:=(kE (fa13 24))) (ks:=ms) (k:=(au)) (v:=(⟨au,nu,va,xs.length,vc,ro.done,ro.at_,ro.e,p,ro.holds.length,c⟩:KMh)) 4 rfl rfl rfl rfl rfl) ?_
 refine aN (aL ?_)
 refine jH [sv 81 (.agg #[.map (some mq),.map (some hq),Ix (z.last),Ix (z.su.a0),Ix (z.su.a1),Ix (z.su.a2),Ix (z.su.a3),.map (some (kE (fa13 24)))]) [] [] [0],sv 82 (.agg #[.bool (ro.done),Ix (ro.at_),Ix (ro.e),sB p ro.holds c]) [] [] [1],⟨[0],[0],[2],[],fun _=>True⟩,⟨[0,1,2],[1],[3],[],fun _=>True⟩] [u1 [1],(some 3,[3]),(some 2,[2]),u0,u0,u0,u1 [0]] [⟨(some 2),none,[],[],fun _=>pt b3 (.cells #[.map (some mq),.map (some hq),Ix (z.last),Ix (z.su.a0),Ix (z.su.a1),Ix (z.su.a2),Ix (z.su.a3),.map (some (kE (fa13 24)))] 88)⟩,⟨(some 3),none,[],[],fun _=>pt b4 (.cells #[.bool (ro.done),Ix (ro.at_),Ix (ro.e),sB p ro.holds c] 37)⟩] [(7,pp b6 0),(8,pp b14 0),(4,pp b3 0),(5,pp b4 0)] [2,3] ⟨rfl,rfl,rfl,rfl,trivial⟩ ⟨?_,?_,?_,?_,trivial⟩ ?_
 ·rintro f M-⟨i0,-⟩
  exact aU (dD 0)
 ·rintro f M-⟨i0,-⟩
  exact aU (dD 0)
 ·rintro f M ⟨k0,-⟩ ⟨i0,-⟩
  refine dU (aB (d:=81) (aB (d:=4) rfl i0) k0) ?_
  refine lu (mS 0 (#[.map (some mq),.map (some hq),Ix (z.last),Ix (z.su.a0),Ix (z.su.a1),Ix (z.su.a2),Ix (z.su.a3),.map (some (kE (fa13 24)))])) ?_
  refine aH ?_
  exact bB (aB (d:=81) (aB (d:=4) rfl i0) k0) trivial (aA 0 rfl)
 ·rintro f M ⟨k0,-⟩ ⟨i0,-⟩
  refine dU (aB (d:=82) (aB (d:=5) rfl i0) k0) ?_
  refine lu (mS 0 (#[.bool (ro.done),Ix (ro.at_),Ix (ro.e),sB p ro.holds c])) (aH ?_)
  exact bB (aB (d:=82) (aB (d:=5) rfl i0) k0) trivial (aA 0 rfl)
 rintro fa29 ⟨-,-,-,-,-⟩ ⟨j0,j1,-⟩
 refine jI ?_
 refine aD (d:=4) j0 (aD (d:=5) j1 (ftr (aFn ?_)))
 refine gA (m:=[.agg #[.map (some mq),.map (some hq),Ix (z.last),Ix (z.su.a0),Ix (z.su.a1),Ix (z.su.a2),Ix (z.su.a3),.map (some (kE (fa13 24)))],.agg #[.bool (ro.done),Ix (ro.at_),Ix (ro.e),sB p ro.holds c]]) Tryz.results39 ⟨bQ aYe.ok rfl (bY 8 rfl rfl) rfl,bQ aEd.ok rfl (bY 9 rfl rfl) rfl,trivial⟩ rfl ?_
 intro w hw
 replace hw:=hw.perm (L':=[aZ bW mq z.ps,aZ bK hq z.hs,aZ dS (kE (fa13 24)) (dS.put ms (au) (⟨au,nu,va,xs.length,vc,ro.done,ro.at_,ro.e,p,ro.holds.length,c⟩:KMh)),aM bA 3 p c ro.holds,pt b14 (.cells #[.bool (ro.done),Ix (ro.at_),Ix (ro.e),sB p ro.holds c] 37),pt b2 (.cells #[Ix (au),Ix (nu),sB va xs (vc)] 80),aZ dS mm ms,pt b6 (.cells #[.map (some mq),.map (some hq),Ix (z.last),Ix (z.su.a0),Ix (z.su.a1),Ix (z.su.a2),Ix (z.su.a3),.map (some (kE (fa13 24)))] 88),pt b3 (.cells #[.map (some mq),.map (some hq),Ix (z.last),Ix (z.su.a0),Ix (z.su.a1),Ix (z.su.a2),Ix (z.su.a3),.map (some (kE (fa13 24)))] 88),pt b4 (.cells #[.bool (ro.done),Ix (ro.at_),Ix (ro.e),sB p ro.holds c] 37)]) (by exact(aV [5,6,2,7,0,1,3,4,8,9] 10 rfl (by kernel_rfl) (by kernel_rfl)))
 exact⟨mq,hq,(kE (fa13 24)),p,c,z,ro,hcar.symm,rfl,aF (L':=[aZ bW mq z.ps,aZ bK hq z.hs,aZ dS (kE (fa13 24)) (dS.put ms (au) (⟨au,nu,va,xs.length,vc,ro.done,ro.at_,ro.e,p,ro.holds.length,c⟩:KMh)),aM bA 3 p c ro.holds]) [true,true,true,true,false,false,false,false,false,false] rfl hw⟩
end Go.Proofs
