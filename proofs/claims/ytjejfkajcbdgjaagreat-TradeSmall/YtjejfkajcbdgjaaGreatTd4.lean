/-
 Copies of maps; a transaction carried out: walked. Printed by a program of my own.
-/
import Derived.Test.YtjejfkajcbdgjaaGreatTdLk
set_option linter.all false
set_option maxHeartbeats 4000000
namespace Go.Proofs
open Go Go.Sl Go.Td
theorem bDd:Tryz.prog.underlying 84=some (.map 3 44):=by kernel_rfl
theorem bDe:Tryz.prog.underlying 85=some (.map 3 104):=by kernel_rfl
theorem bDf:Tryz.prog.underlying 86=some (.map 3 82):=by kernel_rfl
instance bJh:ZerC Tryz.prog 88 (.agg #[.map none,.map none,.int .i64 (0),.int .i64 (0),.int .i64 (0),.int .i64 (0),.int .i64 (0),.map none]):={}
instance aOs:ZerC Tryz.prog 37 (.agg #[.bool false,.int .i64 (0),.int .i64 (0),.slice none 0 0]):={}
instance aYu:TyC Tryz.prog 88 true 8:={}
instance bJi:CfC Tryz.prog 74:={}
instance bJj:CfC Tryz.prog 75:={}
instance tt57:FldC Tryz.prog 88 4 7 1 false:={}
instance aEo:TyC Tryz.prog 86 false 1:={}
instance bJk:CfC Tryz.prog 76:={}
theorem aOt:xC Tryz.prog 37 [(0,1),(1,1),(2,1),(3,1)]=true:=by kernel_rfl
instance aEp:TyC Tryz.prog 37 true 4:={}
instance tt62:FldC Tryz.prog 37 3 3 1 false:={}
instance tt63:TyC Tryz.prog 35 false 1:={}
instance aUk:ZerC Tryz.prog 3 (.int .i64 (0)):={}
instance bGu:TyC Tryz.prog 80 true 3:={}
theorem bGv:xC Tryz.prog 82 [(0,3),(3,4)]=true:=by kernel_rfl
instance bGw:ZerC Tryz.prog 82 (.agg #[.int .i64 (0),.int .i64 (0),.slice none 0 0,.bool false,.int .i64 (0),.int .i64 (0),.slice none 0 0]):={}
theorem aMs(β:Base)(w:World)(m:Nat)(ks:List (Int×KAm))(hw:St β [bB cC m ks] w):Calls Tryz.prog 74 #[.map (some m)] w fun r w'=>∃b,r= .returned (.map (some b))∧St β [bB cC b ks,bB cC m ks] w':=by
 refine enter (n:=9) Tryz.func74 rfl Tryz.ntmps74 rfl ?_ hw
 refine bD (lv eC (aN (eR (aC (lv cI (lv (v:= .bool false) (tK (b:=some m) rfl rfl bDd) (aN (cR rfl (eB (bD ?_))))))))))
 refine lv cI (lv (v:= .iface 84 (.map (some m))) (wC (v:= .map (some m)) rfl bDd rfl) ?_)
 refine dA rfl rfl rfl (aDp (K:=cC) (h:=110) (b:=m) (ks:=ks) 0 rfl yO rfl rfl) ?_
 rintro _ _ ⟨b1,rfl,rfl⟩
 refine lv (v:= .map (some b1)) (yQ (v:= .map (some b1)) rfl bDd rfl) (lv eC (aN (aV (dJ Tryz.results74 rfl ?_))))
 intro w hw
 exact⟨b1,rfl,aG [true,true] rfl hw⟩
theorem aMp(β:Base)(w:World)(m:Nat)(ks:List (Int×KHo))(hw:St β [bB bL m ks] w):Calls Tryz.prog 75 #[.map (some m)] w fun r w'=>∃b,r= .returned (.map (some b))∧St β [bB bL b ks,bB bL m ks] w':=by
 refine enter (n:=9) Tryz.func75 rfl Tryz.ntmps75 rfl ?_ hw
 refine bD (lv eC (aN (eR (aC (lv cI (lv (v:= .bool false) (tK (b:=some m) rfl rfl bDe) (aN (cR rfl (eB (bD ?_))))))))))
 refine lv cI (lv (v:= .iface 85 (.map (some m))) (wC (v:= .map (some m)) rfl bDe rfl) ?_)
 refine dA rfl rfl rfl (aDp (K:=bL) (h:=110) (b:=m) (ks:=ks) 0 rfl yO rfl rfl) ?_
 rintro _ _ ⟨b1,rfl,rfl⟩
 refine lv (v:= .map (some b1)) (yQ (v:= .map (some b1)) rfl bDe rfl) (lv eC (aN (aV (dJ Tryz.results75 rfl ?_))))
 intro w hw
 exact⟨b1,rfl,aG [true,true] rfl hw⟩
theorem aMr(β:Base)(w:World)(m:Nat)(ks:List (Int×KMh))(hw:St β [bB dW m ks] w):Calls Tryz.prog 76 #[.map (some m)] w fun r w'=>∃b,r= .returned (.map (some b))∧St β [bB dW b ks,bB dW m ks] w':=by
 refine enter (n:=9) Tryz.func76 rfl Tryz.ntmps76 rfl ?_ hw
 refine bD (lv eC (aN (eR (aC (lv cI (lv (v:= .bool false) (tK (b:=some m) rfl rfl bDf) (aN (cR rfl (eB (bD ?_))))))))))
 refine lv cI (lv (v:= .iface 86 (.map (some m))) (wC (v:= .map (some m)) rfl bDf rfl) ?_)
 refine dA rfl rfl rfl (aDp (K:=dW) (h:=110) (b:=m) (ks:=ks) 0 rfl yO rfl rfl) ?_
 rintro _ _ ⟨b1,rfl,rfl⟩
 refine lv (v:= .map (some b1)) (yQ (v:= .map (some b1)) rfl bDf rfl) (lv eC (aN (aV (dJ Tryz.results76 rfl ?_))))
 intro w hw
 exact⟨b1,rfl,aG [true,true] rfl hw⟩
theorem aPu(β:Base)(w:World)(mp mh mm:Nat)(s:KSt)(ms:List (Int×KMh))(hw:St β [bB cC mp s.ps,bB bL mh s.hs,bB dW mm ms] w)(au nu:Int)(v:Value)(xs:List KAct)(hs:Sl cJ.R β.heap v xs)(hfo:∀x∈xs,x.formed=true)(hn:xs.length≤16)(M:Int)(hM:M≤1152921504606846976)(hg:GoodS s M):Calls Tryz.prog 39 #[.agg (vO mp mh mm s.last s.su),.agg #[Ix au,Ix nu,v]] w fun r w'=>∃mq hq mn p c z ro,aE s xs=(z,ro)∧r= .returned (.tuple #[.agg (vO mq hq mn z.last z.su),.agg #[.bool ro.done,Ix ro.at_,Ix ro.e,sB p ro.holds c]])∧St β [bB cC mq z.ps,bB bL hq z.hs,bB dW mn (dW.put ms au ⟨au,nu,dC v,xs.length,dE v,ro.done,ro.at_,ro.e,p,ro.holds.length,c⟩),aK aZ 3 p c ro.holds] w':=by
 obtain⟨va,vc,rfl,vl,vm,ve⟩:=hs.get
 refine enter (n:=83) Tryz.func39 rfl Tryz.ntmps39 rfl ?_ hw
 refine bD (mL fun b1=> ?_)
 refine mL fun b2=> ?_
 refine gB fun b3=>gB fun b4=>aN (aVn (bD (dA rfl rfl rfl (xY (K:=oS)) ?_)))
 rintro _ _ ⟨b5,rfl,rfl⟩
 refine lu (lG (K:=oS) (b:=b5) (ks:=[]) (k:=1) (v:=(some 67)) 0 rfl rfl rfl rfl rfl) ?_
 refine lu (lG (K:=oS) (b:=b5) (ks:=(oS.put [] 1 (some 67))) (k:=2) (v:=(some 68)) 0 rfl rfl rfl rfl rfl) ?_
 refine lu (lG (K:=oS) (b:=b5) (ks:=(oS.put (oS.put [] 1 (some 67)) 2 (some 68))) (k:=3) (v:=(some 69)) 0 rfl rfl rfl rfl rfl) ?_
 refine lu (lG (K:=oS) (b:=b5) (ks:=(oS.put (oS.put (oS.put [] 1 (some 67)) 2 (some 68)) 3 (some 69))) (k:=4) (v:=(some 70)) 0 rfl rfl rfl rfl rfl) ?_
 refine lu (lG (K:=oS) (b:=b5) (ks:=(oS.put (oS.put (oS.put (oS.put [] 1 (some 67)) 2 (some 68)) 3 (some 69)) 4 (some 70))) (k:=5) (v:=(some 71)) 0 rfl rfl rfl rfl rfl) ?_
 refine lu (lG (K:=oS) (b:=b5) (ks:=(oS.put (oS.put (oS.put (oS.put (oS.put [] 1 (some 67)) 2 (some 68)) 3 (some 69)) 4 (some 70)) 5 (some 71))) (k:=6) (v:=(some 72)) 0 rfl rfl rfl rfl rfl) ?_
 refine lu (lG (K:=oS) (b:=b5) (ks:=(oS.put (oS.put (oS.put (oS.put (oS.put (oS.put [] 1 (some 67)) 2 (some 68)) 3 (some 69)) 4 (some 70)) 5 (some 71)) 6 (some 72))) (k:=7) (v:=(some 73)) 0 rfl rfl rfl rfl rfl) ?_
 refine lv cI (lv eC (aN (aL ?_)))
 rw[aNj]
 refine aC (lE (dK 4) (gB fun b6=> ?_))
 refine lu (mS 0 (#[.map (some mp),.map (some mh),Ix (s.last),Ix (s.su.a0),Ix (s.su.a1),Ix (s.su.a2),Ix (s.su.a3),.map (some mm)])) (aN (aL ?_))
 refine jS [sv 16 (pp b1 0) [] [] [0],sv 17 (.map (some mp)) [0] [0] [],⟨[0,1],[1],[],[18],fun f=>f 18= .map (some (kL (f 18)))⟩,sv 19 (pp b1 1) [] [] [0],sv 20 (.map (some mh)) [3] [3] [],⟨[0,1,2,3,4],[4],[],[21],fun f=>f 21= .map (some (kL (f 21)))⟩,sv 22 (pp b1 7) [] [] [0],sv 23 (.map (some mm)) [6] [6] [],⟨(List.range 8),[7],[],[24],fun f=>f 24= .map (some (kL (f 24)))⟩,sv 25 (pp b6 0) (List.range 9) [] [1],⟨(List.range 10),[9,2],[],[],fun _=>True⟩,sv 26 (pp b6 1) (List.range 11) [] [1],⟨(List.range 12),[11,5],[],[],fun _=>True⟩,sv 27 (pp b6 7) (List.range 13) [] [1],⟨(List.range 14),[13,8],[],[],fun _=>True⟩] [(some 10,[10]),u0,u0,u0,u0,u1 [1,4,7],(some 2,[2]),(some 5,[5]),(some 8,[8])] [⟨(some 2),none,[],[18],fun f=>bB cC (kL (f 18)) s.ps⟩,⟨(some 2),none,[],[],fun _=>bB cC mp s.ps⟩,⟨(some 5),none,[],[21],fun f=>bB bL (kL (f 21)) s.hs⟩,⟨(some 5),none,[],[],fun _=>bB bL mh s.hs⟩,⟨(some 8),none,[],[24],fun f=>bB dW (kL (f 24)) ms⟩,⟨(some 8),none,[],[],fun _=>bB dW mm ms⟩,⟨(some 10),(some 12),[12],[18],fun f=>pt b6 (.cells #[.map (some (kL (f 18))),.map (some mh),Ix (s.last),Ix (s.su.a0),Ix (s.su.a1),Ix (s.su.a2),Ix (s.su.a3),.map (some mm)] 88)⟩,⟨(some 12),(some 14),[14],[18,21],fun f=>pt b6 (.cells #[.map (some (kL (f 18))),.map (some (kL (f 21))),Ix (s.last),Ix (s.su.a0),Ix (s.su.a1),Ix (s.su.a2),Ix (s.su.a3),.map (some mm)] 88)⟩,⟨(some 14),none,[],[18,21,24],fun f=>pt b6 (.cells #[.map (some (kL (f 18))),.map (some (kL (f 21))),Ix (s.last),Ix (s.su.a0),Ix (s.su.a1),Ix (s.su.a2),Ix (s.su.a3),.map (some (kL (f 24)))] 88)⟩] [(2,pp b1 0),(7,pp b6 0),(3,pp b2 0),(4,pp b3 0),(5,pp b4 0),(6,.map (some b5))] [0,2,3,4,5,1] ⟨rfl,rfl,rfl,rfl,rfl,rfl,trivial⟩ ⟨?_,?_,?_,?_,?_,?_,?_,?_,?_,?_,?_,?_,?_,?_,?_,trivial⟩ ?_
 ·rintro f M-⟨i0,-⟩
  exact aT aY
 ·rintro f M ⟨k0,-⟩-
  exact vS (L':=pt b1 (.cells #[.map (some mp),.map (some mh),Ix (s.last),Ix (s.su.a0),Ix (s.su.a1),Ix (s.su.a2),Ix (s.su.a3),.map (some mm)] 88)::M) (aA (d:=16) rfl k0) rfl (bI rZ.ok rfl (cD 0 rfl rfl)) (aB 0 rfl) (by rfl)
 ·rintro f M ⟨k0,-⟩-
  refine dL (aA (d:=17) rfl k0) ?_
  refine aX rfl rfl rfl (cT (vs:=[.map (some mp)]) bJi.ok rfl rfl) ?_
  intro w hw
  obtain⟨β1,sb,kn,hw1,back⟩:=St.frame (L:=[_]) (M:=M) hw
  refine(aMs β1 w mp s.ps hw1).mono ?_
  rintro e w' ⟨b8,rfl,hw'⟩
  refine⟨_,rfl,_,back _ _ hw',?_⟩
  refine aH ?_
  exact aO (aA (d:=17) rfl k0) rfl ((aB 1 rfl).trans (aB 1 rfl))
 ·rintro f M-⟨i0,-⟩
  exact aT aY
 ·rintro f M ⟨k0,-⟩-
  exact vS (L':=pt b1 (.cells #[.map (some mp),.map (some mh),Ix (s.last),Ix (s.su.a0),Ix (s.su.a1),Ix (s.su.a2),Ix (s.su.a3),.map (some mm)] 88)::M) (aA (d:=19) rfl k0) rfl (bI vQ.ok rfl (cD 0 rfl rfl)) (aB 0 rfl) (by rfl)
 ·rintro f M ⟨k0,-⟩-
  refine dL (aA (d:=20) rfl k0) ?_
  refine aX rfl rfl rfl (cT (vs:=[.map (some mh)]) bJj.ok rfl rfl) ?_
  intro w hw
  obtain⟨β1,sb,kn,hw1,back⟩:=St.frame (L:=[_]) (M:=M) hw
  refine(aMp β1 w mh s.hs hw1).mono ?_
  rintro e w' ⟨b10,rfl,hw'⟩
  refine⟨_,rfl,_,back _ _ hw',?_⟩
  refine aH ?_
  exact aO (aA (d:=20) rfl k0) rfl ((aB 1 rfl).trans (aB 1 rfl))
 ·rintro f M-⟨i0,-⟩
  exact aT aY
 ·rintro f M ⟨k0,-⟩-
  exact vS (L':=pt b1 (.cells #[.map (some mp),.map (some mh),Ix (s.last),Ix (s.su.a0),Ix (s.su.a1),Ix (s.su.a2),Ix (s.su.a3),.map (some mm)] 88)::M) (aA (d:=22) rfl k0) rfl (bI aEo.ok rfl (cD 0 rfl rfl)) (aB 0 rfl) (by rfl)
 ·rintro f M ⟨k0,-⟩-
  refine dL (aA (d:=23) rfl k0) ?_
  refine aX rfl rfl rfl (cT (vs:=[.map (some mm)]) bJk.ok rfl rfl) ?_
  intro w hw
  obtain⟨β1,sb,kn,hw1,back⟩:=St.frame (L:=[_]) (M:=M) hw
  refine(aMr β1 w mm ms hw1).mono ?_
  rintro e w' ⟨b12,rfl,hw'⟩
  refine⟨_,rfl,_,back _ _ hw',?_⟩
  refine aH ?_
  exact aO (aA (d:=23) rfl k0) rfl ((aB 1 rfl).trans (aB 1 rfl))
 ·rintro f M-⟨i0,-⟩
  exact aT aY
 ·rintro f M ⟨k0,k1,-⟩-
  have hs18:f 18= .map (some (kL (f 18))):=k1
  refine dL (aA (aA (d:=25) rfl k0) hs18) ?_
  refine lu (mS 0 (#[.map (some (kL (f 18))),.map (some mh),Ix (s.last),Ix (s.su.a0),Ix (s.su.a1),Ix (s.su.a2),Ix (s.su.a3),.map (some mm)])) ?_
  refine aH ?_
  exact bC (aA (aA (d:=25) rfl k0) hs18) trivial (aB 0 rfl)
 ·rintro f M-⟨i0,-⟩
  exact aT aY
 ·rintro f M ⟨k0,k1,-⟩-
  have hs21:f 21= .map (some (kL (f 21))):=k1
  refine dL (aA (aA (d:=26) rfl k0) hs21) ?_
  refine lu (mS 0 (#[.map (some (kL (f 18))),.map (some (kL (f 21))),Ix (s.last),Ix (s.su.a0),Ix (s.su.a1),Ix (s.su.a2),Ix (s.su.a3),.map (some mm)])) ?_
  refine aH ?_
  exact bC (aA (aA (d:=26) rfl k0) hs21) trivial (aB 0 rfl)
 ·rintro f M-⟨i0,-⟩
  exact aT aY
 ·rintro f M ⟨k0,k1,-⟩-
  have hs24:f 24= .map (some (kL (f 24))):=k1
  refine dL (aA (aA (d:=27) rfl k0) hs24) ?_
  refine lu (mS 0 (#[.map (some (kL (f 18))),.map (some (kL (f 21))),Ix (s.last),Ix (s.su.a0),Ix (s.su.a1),Ix (s.su.a2),Ix (s.su.a3),.map (some (kL (f 24)))])) ?_
  refine aH ?_
  exact bC (aA (aA (d:=27) rfl k0) hs24) trivial (aB 0 rfl)
 rintro fa13 ⟨-,-,-,-,-,-,-,-,-,-,-,-,-,-,-,-⟩ ⟨j0,j1,j2,j3,j4,j5,-⟩
 refine jD ?_
 refine aD (d:=2) j0 (aD (d:=3) j1 (aD (d:=4) j2 (aD (d:=5) j3 (aD (d:=6) j4 (aD (d:=7) j5 (kM ?_))))))
 refine lv (v:= .agg #[.bool true,.int .i64 (0),.int .i64 (0),.slice none 0 0]) (bV aOs.ok aOt (vs:=[(0,.bool true)]) (cells:= #[.bool true,.int .i64 (0),.int .i64 (0),.slice none 0 0]) rfl rfl) ?_
 refine gB fun b14=>lu (mS 0 (#[.bool true,.int .i64 (0),.int .i64 (0),.slice none 0 0])) (aN (aL (aVl (bA ?_))))
 refine gL (fun(f:Fm) (L:List bU)=>∃(mq:Nat) (hq:Nat) (z:KSt) (ro:KRes) (p:Option Addr) (c:Nat),(f 3=pp b2 0∧f 4=pp b3 0∧f 5=pp b4 0∧f 7=pp b6 0∧f 8=pp b14 0)∧L=[pt b14 (.cells #[.bool (ro.done),Ix (ro.at_),Ix (ro.e),sB p ro.holds c] 37),pt b4 (.cells #[.bool false,.int .i64 (0),.int .i64 (0),.slice none 0 0] 37),pt b3 (.cells #[.map none,.map none,.int .i64 (0),.int .i64 (0),.int .i64 (0),.int .i64 (0),.int .i64 (0),.map none] 88),pt b2 (.cells #[Ix (au),Ix (nu),sB va xs (vc)] 80),bB dW (kL (fa13 24)) ms,bB dW mm ms,pt b6 (.cells #[.map (some mq),.map (some hq),Ix (z.last),Ix (z.su.a0),Ix (z.su.a1),Ix (z.su.a2),Ix (z.su.a3),.map (some (kL (fa13 24)))] 88),bB cC mq z.ps,bB bL hq z.hs,aK aZ 3 p c ro.holds]∧((z,ro)=aE s xs)) ?_ ?_
 ·refine aL (iK (r:=aK aZ 3 none 0 []) (eA _ _ _) (aC (lE aY (lE (fQ 5) (lE gY (lE aU (aN (aJ ?_))))))))
  refine cZ (fun(x_:Nat×KSt×List Int×Option Addr×Nat) f L=>match x_ with|(k,z,made,p,c)=>(f 2=pp b1 0∧f 3=pp b2 0∧f 4=pp b3 0∧f 5=pp b4 0∧f 6= .map (some b5)∧f 7=pp b6 0∧f 8=pp b14 0∧f 30=sB va xs (vc)∧f 31=Nx (xs.length)∧f 32=Nx (k))∧L=[aK aZ 3 p c made,pt b14 (.cells #[.bool true,.int .i64 (0),.int .i64 (0),sB p made c] 37),bB oS b5 yZ,pt b4 (.cells #[.bool false,.int .i64 (0),.int .i64 (0),.slice none 0 0] 37),pt b3 (.cells #[.map none,.map none,.int .i64 (0),.int .i64 (0),.int .i64 (0),.int .i64 (0),.int .i64 (0),.map none] 88),pt b2 (.cells #[Ix (au),Ix (nu),sB va xs (vc)] 80),pt b1 (.cells #[.map (some mp),.map (some mh),Ix (s.last),Ix (s.su.a0),Ix (s.su.a1),Ix (s.su.a2),Ix (s.su.a3),.map (some mm)] 88),bB cC (kL (fa13 18)) z.ps,bB cC mp s.ps,bB bL (kL (fa13 21)) z.hs,bB bL mh s.hs,bB dW (kL (fa13 24)) ms,bB dW mm ms,pt b6 (.cells #[.map (some (kL (fa13 18))),.map (some (kL (fa13 21))),Ix (z.last),Ix (z.su.a0),Ix (z.su.a1),Ix (z.su.a2),Ix (z.su.a3),.map (some (kL (fa13 24)))] 88)]∧(k≤xs.length∧made.length≤k∧jY s z made k (xs.drop k)=aE s xs∧GoodS z (M+k*2147483648))) (fun(k,z,made,p,c)=>xs.length-k) (0,s,[],none,0) ?_ ?_
  ·exact⟨⟨rfl,rfl,rfl,rfl,rfl,rfl,rfl,rfl,rfl,rfl⟩,rfl,⟨by omega,by simp,rfl,hg.le (by omega)⟩⟩
  rintro⟨k,z,made,p,c⟩ f0 L0 ⟨⟨hs2,hs3,hs4,hs5,hs6,hs7,hs8,hs30,hs31,hs32⟩,hL,⟨hk,hmk,hrun,hg1⟩⟩
  subst L0
  refine bJ 2 hs2 (bJ 3 hs3 (bJ 4 hs4 (bJ 5 hs5 (bJ 6 hs6 (bJ 7 hs7 (bJ 8 hs8 (bJ 30 hs30 (bJ 31 hs31 (bJ 32 hs32 (bD (lE gN (aN (aL ?_)))))))))))))
  refine cN _ rfl (fun hc15=> ?_) (fun hc15=> ?_)
  ·refine eB (aL (aJ (bD (lE aU ?_))))
   obtain⟨x16,hx17⟩:=kX xs k (by omega)
   obtain⟨ha18,cs19,hc20,rfl⟩:=ve _ _ hx17
   refine lE (sW wR ha18) ?_
   refine lv (v:= .agg #[Bx (x16.kind),Ix (x16.owner),Ix (x16.other),Ix (x16.hold),Ix (x16.a.a0),Ix (x16.a.a1),Ix (x16.a.a2),Ix (x16.a.a3)]) (fV aOr.ok rfl (kB hc20) rfl) ?_
   refine gB fun b22=>lE bN ?_
   refine lu (mS 0 (#[Bx (x16.kind),Ix (x16.owner),Ix (x16.other),Ix (x16.hold),Ix (x16.a.a0),Ix (x16.a.a1),Ix (x16.a.a2),Ix (x16.a.a3)])) (aN ?_)
   refine aL ?_
   have hxf:=hfo _ (List.mem_of_getElem? hx17)
   have hklt:=(List.getElem?_eq_some_iff.1 hx17).1
   obtain⟨gg,hgg,hcf,hact⟩:=aPg x16 hxf
   refine aC (lv cI (lE aY (lE (cY 0) ?_)))
   refine lv (v:= .func (.func gg) #[] #[]) (eZ (congrArg oS.encv hgg) (lL (K:=oS) (b:=b5) (ks:=yZ) (k:=((x16.kind).toNat:Int)) rfl rfl rfl (bH.of_res 3 rfl (bB.mono _ _ _) fun _ h=>h))) ?_
   refine lE (dK 0) ?_
   refine aX rfl rfl rfl (cT (vs:=[pp b6 0,.agg #[Bx (x16.kind),Ix (x16.owner),Ix (x16.other),Ix (x16.hold),Ix (x16.a.a0),Ix (x16.a.a1),Ix (x16.a.a2),Ix (x16.a.a3)]]) hcf rfl rfl) ?_
   intro w hw
   replace hw:=hw.perm (L':=[pt b6 (.cells #[.map (some (kL (fa13 18))),.map (some (kL (fa13 21))),Ix (z.last),Ix (z.su.a0),Ix (z.su.a1),Ix (z.su.a2),Ix (z.su.a3),.map (some (kL (fa13 24)))] 88),bB cC (kL (fa13 18)) z.ps,bB bL (kL (fa13 21)) z.hs,pt b22 (.cells #[Bx (x16.kind),Ix (x16.owner),Ix (x16.other),Ix (x16.hold),Ix (x16.a.a0),Ix (x16.a.a1),Ix (x16.a.a2),Ix (x16.a.a3)] 47),aK aZ 3 p c made,pt b14 (.cells #[.bool true,.int .i64 (0),.int .i64 (0),sB p made c] 37),bB oS b5 yZ,pt b4 (.cells #[.bool false,.int .i64 (0),.int .i64 (0),.slice none 0 0] 37),pt b3 (.cells #[.map none,.map none,.int .i64 (0),.int .i64 (0),.int .i64 (0),.int .i64 (0),.int .i64 (0),.map none] 88),pt b2 (.cells #[Ix (au),Ix (nu),sB va xs (vc)] 80),pt b1 (.cells #[.map (some mp),.map (some mh),Ix (s.last),Ix (s.su.a0),Ix (s.su.a1),Ix (s.su.a2),Ix (s.su.a3),.map (some mm)] 88),bB cC mp s.ps,bB bL mh s.hs,bB dW (kL (fa13 24)) ms,bB dW mm ms]) (by exact(aW [14,8,10,0,1,2,3,4,5,6,7,9,11,12,13] 15 rfl (by kernel_rfl) (by kernel_rfl)))
   obtain⟨β1,sb,kn,hw1,back⟩:=St.frame (L:=[_,_,_]) (M:=_::_::_::_::_::_::_::_::_::_::_::_::[]) hw
   refine(hact β1 w b6 (kL (fa13 18)) (kL (fa13 21)) (kL (fa13 24)) z hw1 hg1.p hg1.h (nR hg1.su (by omega)) ⟨by have:=hg1.l0;omega,by have:=hg1.lM;omega⟩).mono ?_
   rintro e w' ⟨rfl,hw'⟩
   refine⟨_,rfl,_,back _ _ hw',?_⟩
   refine lE oM (lE pW (lE pW (lE bN (lE bN (aN (aJ (bD (lE aU (lE lO (lE dP (aN (cN _ rfl (fun hc23=> ?_) (fun hc23=> ?_)))))))))))))
   ·refine bD (lE aU (lE aU ?_))
    refine lv (v:= .agg #[.bool false,Nx (k),Ix ((dB z x16).2.2),.slice none 0 0]) (bV aOs.ok aOt (vs:=[(1,Nx (k)),(2,Ix ((dB z x16).2.2))]) (cells:= #[.bool false,Nx (k),Ix ((dB z x16).2.2),.slice none 0 0]) rfl rfl) ?_
    refine lu (mS 5 (#[.bool false,Nx (k),Ix ((dB z x16).2.2),.slice none 0 0])) (aN (aL ?_))
    refine jS [sv 52 (pp b1 0) [] [] [0],sv 53 (.map (some mp)) [0] [0] [],sv 54 (pp b1 1) [] [] [0],sv 55 (.map (some mh)) [2] [2] [],sv 56 (pp b1 2) [] [] [0],sv 57 (Ix (s.last)) [4] [4] [],sv 58 (pp b1 3) [] [] [0],sv 59 (.agg (eK s.su)) [6] [6] [],sv 60 (pp b6 0) [0,1] [] [1],⟨[0,1,8],[8,1],[],[],fun _=>True⟩,sv 61 (pp b6 1) [0,1,2,3,8,9] [] [1],⟨[0,1,2,3,8,9,10],[10,3],[],[],fun _=>True⟩,sv 62 (pp b6 2) [0,1,2,3,4,5,8,9,10,11] [] [1],⟨[0,1,2,3,4,5,8,9,10,11,12],[12,5],[],[],fun _=>True⟩,sv 63 (pp b6 3) (List.range 14) [] [1],⟨(List.range 15),[14,7],[],[],fun _=>True⟩] [(some 9,[9]),u0,u0,u0,u0,u0,u0,u0,u0,u0,u1 [1,3,5,7]] [⟨(some 9),(some 11),[11],[],fun _=>pt b6 (.cells #[.map (some mp),.map (some (kL (fa13 21))),Ix ((dB z x16).1.last),Ix ((dB z x16).1.su.a0),Ix ((dB z x16).1.su.a1),Ix ((dB z x16).1.su.a2),Ix ((dB z x16).1.su.a3),.map (some (kL (fa13 24)))] 88)⟩,⟨(some 11),(some 13),[13],[],fun _=>pt b6 (.cells #[.map (some mp),.map (some mh),Ix ((dB z x16).1.last),Ix ((dB z x16).1.su.a0),Ix ((dB z x16).1.su.a1),Ix ((dB z x16).1.su.a2),Ix ((dB z x16).1.su.a3),.map (some (kL (fa13 24)))] 88)⟩,⟨(some 13),(some 15),[15],[],fun _=>pt b6 (.cells #[.map (some mp),.map (some mh),Ix (s.last),Ix ((dB z x16).1.su.a0),Ix ((dB z x16).1.su.a1),Ix ((dB z x16).1.su.a2),Ix ((dB z x16).1.su.a3),.map (some (kL (fa13 24)))] 88)⟩,⟨(some 15),none,[],[],fun _=>pt b6 (.cells #[.map (some mp),.map (some mh),Ix (s.last),Ix (s.su.a0),Ix (s.su.a1),Ix (s.su.a2),Ix (s.su.a3),.map (some (kL (fa13 24)))] 88)⟩] [(2,pp b1 0),(7,pp b6 0),(3,pp b2 0),(4,pp b3 0),(5,pp b4 0),(8,pp b14 0)] [2,3,4,1,5] ⟨rfl,rfl,rfl,rfl,rfl,rfl,trivial⟩ ⟨?_,?_,?_,?_,?_,?_,?_,?_,?_,?_,?_,?_,?_,?_,?_,?_,trivial⟩ ?_
    ·rintro f M-⟨i0,-⟩
     exact aT aY
    ·rintro f M ⟨k0,-⟩-
     exact vS (L':=pt b1 (.cells #[.map (some mp),.map (some mh),Ix (s.last),Ix (s.su.a0),Ix (s.su.a1),Ix (s.su.a2),Ix (s.su.a3),.map (some mm)] 88)::M) (aA (d:=52) rfl k0) rfl (bI rZ.ok rfl (cD 0 rfl rfl)) (aB 0 rfl) (by rfl)
    ·rintro f M-⟨i0,-⟩
     exact aT aY
    ·rintro f M ⟨k0,-⟩-
     exact vS (L':=pt b1 (.cells #[.map (some mp),.map (some mh),Ix (s.last),Ix (s.su.a0),Ix (s.su.a1),Ix (s.su.a2),Ix (s.su.a3),.map (some mm)] 88)::M) (aA (d:=54) rfl k0) rfl (bI vQ.ok rfl (cD 0 rfl rfl)) (aB 0 rfl) (by rfl)
    ·rintro f M-⟨i0,-⟩
     exact aT aY
    ·rintro f M ⟨k0,-⟩-
     exact aT (cY 0)
    ·rintro f M-⟨i0,-⟩
     exact aT aY
    ·rintro f M ⟨k0,-⟩-
     exact aT (dK 0)
    ·rintro f M-⟨i0,-⟩
     exact aT aY
    ·rintro f M ⟨k0,k1,-⟩-
     refine dL (aA (d:=53) (aA (d:=60) rfl k0) k1) ?_
     refine lu (mS 0 (#[.map (some mp),.map (some (kL (fa13 21))),Ix ((dB z x16).1.last),Ix ((dB z x16).1.su.a0),Ix ((dB z x16).1.su.a1),Ix ((dB z x16).1.su.a2),Ix ((dB z x16).1.su.a3),.map (some (kL (fa13 24)))])) ?_
     refine aH ?_
     exact bC (aA (d:=53) (aA (d:=60) rfl k0) k1) trivial (aB 0 rfl)
    ·rintro f M-⟨i0,-⟩
     exact aT aY
    ·rintro f M ⟨k0,k1,-⟩-
     refine dL (aA (d:=55) (aA (d:=61) rfl k0) k1) ?_
     refine lu (mS 0 (#[.map (some mp),.map (some mh),Ix ((dB z x16).1.last),Ix ((dB z x16).1.su.a0),Ix ((dB z x16).1.su.a1),Ix ((dB z x16).1.su.a2),Ix ((dB z x16).1.su.a3),.map (some (kL (fa13 24)))])) ?_
     refine aH ?_
     exact bC (aA (d:=55) (aA (d:=61) rfl k0) k1) trivial (aB 0 rfl)
    ·rintro f M-⟨i0,-⟩
     exact aT aY
    ·rintro f M ⟨k0,k1,-⟩-
     refine dL (aA (d:=57) (aA (d:=62) rfl k0) k1) ?_
     refine lu (mS 0 (#[.map (some mp),.map (some mh),Ix (s.last),Ix ((dB z x16).1.su.a0),Ix ((dB z x16).1.su.a1),Ix ((dB z x16).1.su.a2),Ix ((dB z x16).1.su.a3),.map (some (kL (fa13 24)))])) ?_
     refine aH ?_
     exact bC (aA (d:=57) (aA (d:=62) rfl k0) k1) trivial (aB 0 rfl)
    ·rintro f M-⟨i0,-⟩
     exact aT aY
    ·rintro f M ⟨k0,k1,-⟩-
     refine dL (aA (d:=59) (aA (d:=63) rfl k0) k1) ?_
     refine lu (mS 0 (#[.map (some mp),.map (some mh),Ix (s.last),Ix (s.su.a0),Ix (s.su.a1),Ix (s.su.a2),Ix (s.su.a3),.map (some (kL (fa13 24)))])) ?_
     refine aH ?_
     exact bC (aA (d:=59) (aA (d:=63) rfl k0) k1) trivial (aB 0 rfl)
    rintro fa24 ⟨-,-,-,-,-,-,-,-,-,-,-,-,-,-,-,-,-⟩ ⟨j0,j1,j2,j3,j4,-⟩
    refine jD ?_
    refine aD (d:=3) j0 (aD (d:=4) j1 (aD (d:=5) j2 (aD (d:=7) j3 (aD (d:=8) j4 (bA (cK ?_))))))
    refine qK rfl (qK rfl (aF (aF (cL (aFy (r:=aK aZ 3 none 0 []) (eA _ _ _) ?_)))))
    refine tZ [5,7,8,9,13,14,15,11,12,0,1,2,3,4,6,10] 16 ?_
    refine dD [true,true,true,true,true,true,true,true,true,true,false,false,false,false,false,false] rfl ?_
    exact bG ⟨mp,mh,s,⟨false,((k:Nat):Int),(dB z x16).2.2,[]⟩,none,0,⟨rfl,rfl,rfl,rfl,rfl⟩,rfl,by rw[←hrun,aLp hx17 hc23]⟩
   refine bD (lE aU (lE oQ (lE dP (aN (cN _ rfl (fun hc25=> ?_) (fun hc25=> ?_))))))
   ·refine aC (lE aY (lE (fQ 5) (lE aU (dA rfl rfl rfl (bZ rY aUk.ok (cells:= #[Ix ((dB z x16).2.1)]) rfl rfl rfl rfl) ?_))))
    rintro _ _ ⟨b26,rfl,rfl⟩
    refine dA rfl rfl rfl (cF (F:=aZ) 5 rY aYs (p:=p) (m:=made.length) (xs:=made) (ys:=[((dB z x16).2.1)]) (ao:=(some ⟨b26,0,none⟩)) (k:=1) (c:=1) rfl rfl rfl rfl rfl (gX (z:=((dB z x16).2.1)) 0 rfl rfl) (by first|omega|simp only[List.length_nil,List.length_cons,List.length_append,List.length_set];omega) (by first|omega|simp only[List.length_nil,List.length_cons,List.length_append,List.length_set];omega)) ?_
    rintro _ _ ⟨rp27,rc28,rfl,rfl⟩
    refine lE aY (lu (mS 6 (#[.bool true,.int .i64 (0),.int .i64 (0),sB rp27 (made++[((dB z x16).2.1)]) rc28])) (aH (aP (aP (bA ?_)))))
    refine aC (lv (v:=Nx (k+1)) (bO rfl rfl (cW (by omega) (by omega))) (lE aU (aH (tZ [5,6,7,8,9,10,11,2,12,3,13,14,15,1,0,4] 16 ?_))))
    refine dD [true,true,true,true,true,true,true,true,true,true,true,true,true,true,false,false] rfl ?_
    exact bG ⟨(k+1,(dB z x16).1,(made++[((dB z x16).2.1)]),rp27,rc28),⟨⟨rfl,rfl,rfl,rfl,rfl,rfl,rfl,rfl,rfl,rfl⟩,rfl,⟨by omega,by first|omega|(simp only[sB,rB,List.length_append,List.length_cons,List.length_nil];omega),by rw[←hrun,zY hx17 (Decidable.not_not.1 hc23),if_pos hc25],(aAu hg1 (cX hxf)).le (by omega)⟩⟩,(show xs.length-(k+1)<xs.length-k from by omega)⟩
   refine cG (aP (aP (bA (aC (lv (v:=Nx (k+1)) (bO rfl rfl (cW (by omega) (by omega))) (lE aU (aH ?_)))))))
   refine tZ [4,5,6,7,8,9,10,1,11,2,12,13,14,0,3] 15 ?_
   refine dD [true,true,true,true,true,true,true,true,true,true,true,true,true,true,false] rfl ?_
   exact bG ⟨(k+1,(dB z x16).1,made,p,c),⟨⟨rfl,rfl,rfl,rfl,rfl,rfl,rfl,rfl,rfl,rfl⟩,rfl,⟨by omega,by first|omega|(simp only[sB,rB,List.length_append,List.length_cons,List.length_nil];omega),by rw[←hrun,zY hx17 (Decidable.not_not.1 hc23),if_neg hc25],(aAu hg1 (cX hxf)).le (by omega)⟩⟩,(show xs.length-(k+1)<xs.length-k from by omega)⟩
  refine cK (aF (aF (cL (tZ [1,3,4,5,11,12,13,7,9,0,2,6,8,10] 14 ?_))))
  refine dD [true,true,true,true,true,true,true,true,true,true,false,false,false,false] rfl ?_
  exact bG ⟨(kL (fa13 18)),(kL (fa13 21)),z,⟨true,0,0,made⟩,p,c,⟨rfl,rfl,rfl,rfl,rfl⟩,rfl,by rw[←hrun,aLq (by omega)]⟩
 rintro f0 L0 ⟨mq,hq,z,ro,p,c,⟨hs3,hs4,hs5,hs7,hs8⟩,hL,hcar⟩
 subst L0
 refine bJ 3 hs3 (bJ 4 hs4 (bJ 5 hs5 (bJ 7 hs7 (bJ 8 hs8 (bD (lE aY ?_))))))
 refine lv (v:= .map (some (kL (fa13 24)))) (bI aEo.ok rfl (cD 6 rfl rfl)) (lE aY (lE (cY 3) (lE (dK 3) (lE (dK 0) ?_))))
 refine lv (v:= .agg #[Ix (au),Ix (nu),sB va xs (vc),.bool (ro.done),Ix (ro.at_),Ix (ro.e),sB p ro.holds c]) (bV bGw.ok bGv (vs:=[(0,.agg #[Ix (au),Ix (nu),sB va xs (vc)]),(1,.agg #[.bool (ro.done),Ix (ro.at_),Ix (ro.e),sB p ro.holds c])]) (cells:= #[Ix (au),Ix (nu),sB va xs (vc),.bool (ro.done),Ix (ro.at_),Ix (ro.e),sB p ro.holds c]) rfl rfl) ?_
 refine lu (rM (K:=dW) (b:=(kL (fa13 24))) (ks:=ms) (k:=(au)) (v:=(⟨au,nu,va,xs.length,vc,ro.done,ro.at_,ro.e,p,ro.holds.length,c⟩:KMh)) 4 rfl rfl rfl rfl rfl) ?_
 refine aN (aL ?_)
 refine jS [sv 81 (.agg #[.map (some mq),.map (some hq),Ix (z.last),Ix (z.su.a0),Ix (z.su.a1),Ix (z.su.a2),Ix (z.su.a3),.map (some (kL (fa13 24)))]) [] [] [0],sv 82 (.agg #[.bool (ro.done),Ix (ro.at_),Ix (ro.e),sB p ro.holds c]) [] [] [1],⟨[0],[0],[2],[],fun _=>True⟩,⟨[0,1,2],[1],[3],[],fun _=>True⟩] [u1 [1],(some 3,[3]),(some 2,[2]),u0,u0,u0,u1 [0]] [⟨(some 2),none,[],[],fun _=>pt b3 (.cells #[.map (some mq),.map (some hq),Ix (z.last),Ix (z.su.a0),Ix (z.su.a1),Ix (z.su.a2),Ix (z.su.a3),.map (some (kL (fa13 24)))] 88)⟩,⟨(some 3),none,[],[],fun _=>pt b4 (.cells #[.bool (ro.done),Ix (ro.at_),Ix (ro.e),sB p ro.holds c] 37)⟩] [(7,pp b6 0),(8,pp b14 0),(4,pp b3 0),(5,pp b4 0)] [2,3] ⟨rfl,rfl,rfl,rfl,trivial⟩ ⟨?_,?_,?_,?_,trivial⟩ ?_
 ·rintro f M-⟨i0,-⟩
  exact aT (dK 0)
 ·rintro f M-⟨i0,-⟩
  exact aT (dK 0)
 ·rintro f M ⟨k0,-⟩ ⟨i0,-⟩
  refine dL (aA (d:=81) (aA (d:=4) rfl i0) k0) ?_
  refine lu (mS 0 (#[.map (some mq),.map (some hq),Ix (z.last),Ix (z.su.a0),Ix (z.su.a1),Ix (z.su.a2),Ix (z.su.a3),.map (some (kL (fa13 24)))])) ?_
  refine aH ?_
  exact bC (aA (d:=81) (aA (d:=4) rfl i0) k0) trivial (aB 0 rfl)
 ·rintro f M ⟨k0,-⟩ ⟨i0,-⟩
  refine dL (aA (d:=82) (aA (d:=5) rfl i0) k0) ?_
  refine lu (mS 0 (#[.bool (ro.done),Ix (ro.at_),Ix (ro.e),sB p ro.holds c])) (aH ?_)
  exact bC (aA (d:=82) (aA (d:=5) rfl i0) k0) trivial (aB 0 rfl)
 rintro fa29 ⟨-,-,-,-,-⟩ ⟨j0,j1,-⟩
 refine jD ?_
 refine aD (d:=4) j0 (aD (d:=5) j1 (ftr (aFz ?_)))
 refine gK (m:=[.agg #[.map (some mq),.map (some hq),Ix (z.last),Ix (z.su.a0),Ix (z.su.a1),Ix (z.su.a2),Ix (z.su.a3),.map (some (kL (fa13 24)))],.agg #[.bool (ro.done),Ix (ro.at_),Ix (ro.e),sB p ro.holds c]]) Tryz.results39 ⟨bS aYu.ok rfl (cD 8 rfl rfl) rfl,bS aEp.ok rfl (cD 9 rfl rfl) rfl,trivial⟩ rfl ?_
 intro w hw
 replace hw:=hw.perm (L':=[bB cC mq z.ps,bB bL hq z.hs,bB dW (kL (fa13 24)) (dW.put ms (au) (⟨au,nu,va,xs.length,vc,ro.done,ro.at_,ro.e,p,ro.holds.length,c⟩:KMh)),aK aZ 3 p c ro.holds,pt b14 (.cells #[.bool (ro.done),Ix (ro.at_),Ix (ro.e),sB p ro.holds c] 37),pt b2 (.cells #[Ix (au),Ix (nu),sB va xs (vc)] 80),bB dW mm ms,pt b6 (.cells #[.map (some mq),.map (some hq),Ix (z.last),Ix (z.su.a0),Ix (z.su.a1),Ix (z.su.a2),Ix (z.su.a3),.map (some (kL (fa13 24)))] 88),pt b3 (.cells #[.map (some mq),.map (some hq),Ix (z.last),Ix (z.su.a0),Ix (z.su.a1),Ix (z.su.a2),Ix (z.su.a3),.map (some (kL (fa13 24)))] 88),pt b4 (.cells #[.bool (ro.done),Ix (ro.at_),Ix (ro.e),sB p ro.holds c] 37)]) (by exact(aW [5,6,2,7,0,1,3,4,8,9] 10 rfl (by kernel_rfl) (by kernel_rfl)))
 exact⟨mq,hq,(kL (fa13 24)),p,c,z,ro,hcar.symm,rfl,aG (L':=[bB cC mq z.ps,bB bL hq z.hs,bB dW (kL (fa13 24)) (dW.put ms (au) (⟨au,nu,va,xs.length,vc,ro.done,ro.at_,ro.e,p,ro.holds.length,c⟩:KMh)),aK aZ 3 p c ro.holds]) [true,true,true,true,false,false,false,false,false,false] rfl hw⟩
end Go.Proofs
