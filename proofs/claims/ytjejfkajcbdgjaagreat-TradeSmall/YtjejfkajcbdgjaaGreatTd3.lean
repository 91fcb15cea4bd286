/-
 What acts do to a state: walked. Printed by a program of my own.
-/
import Derived.Test.YtjejfkajcbdgjaaGreatTd2
set_option linter.all false
set_option maxHeartbeats 4000000
namespace Go.Proofs
open Go Go.Sl Go.Td
theorem jA{β:Base}{w:World}{zb mp mh mm:Nat}{V:KSt}{m e:Int}{o:KSt×Int×Int}(h:(V,m,e)=o)(hw:St β [pt zb (.cells (vO mp mh mm V.last V.su) 88),bB cC mp V.ps,bB bL mh V.hs] w):
 Ending.returned (.tuple #[Ix m,Ix e])= .returned (.tuple #[Ix o.2.1,Ix o.2.2])∧St β [pt zb (.cells (vO mp mh mm o.1.last o.1.su) 88),bB cC mp o.1.ps,bB bL mh o.1.hs] w:=by subst h;exact⟨rfl,hw⟩
instance tt32:FldC Tryz.prog 88 0 0 1 false:={}
instance rZ:TyC Tryz.prog 84 false 1:={}
instance bJe:CfC Tryz.prog 108:={}
instance bDa:CfC Tryz.prog 107:={}
instance tt36:FldC Tryz.prog 88 3 3 4 true:={}
instance bDb:CfC Tryz.prog 109:={}
instance tt38:FldC Tryz.prog 88 1 1 1 false:={}
instance vQ:TyC Tryz.prog 85 false 1:={}
instance tt40:FldC Tryz.prog 88 2 2 1 false:={}
theorem aYt:xC Tryz.prog 104 [(0,1),(1,1),(2,4)]=true:=by kernel_rfl
instance aUj:ZerC Tryz.prog 104 (.agg #[.int .i64 (0),.int .i64 (0),.int .i64 (0),.int .i64 (0),.int .i64 (0),.int .i64 (0)]):={}
instance bGt:TyC Tryz.prog 104 true 6:={}
instance tt44:FldC Tryz.prog 104 2 2 4 true:={}
instance bJf:FldC Tryz.prog 104 1 1 1 false:={}
theorem bDc:xC Tryz.prog 47 [(0,1),(1,1),(2,1),(3,1),(4,4)]=true:=by kernel_rfl
instance aHh:ZerC Tryz.prog 47 (.agg #[.int .u8 (0),.int .i64 (0),.int .i64 (0),.int .i64 (0),.int .i64 (0),.int .i64 (0),.int .i64 (0),.int .i64 (0)]):={}
instance bJg:CfC Tryz.prog 72:={}
theorem aHs(β:Base)(w:World)(zb mp mh mm:Nat)(la:Int)(su:KAm)(ps:List (Int×KAm))(hw:St β [pt zb (.cells (vO mp mh mm la su) 88),bB cC mp ps] w)(n:Int)(a x:KAm)(hx:(cC.look ps n).getD zeroA=x)(hxb:x.bd 4611686018427387903)(hab:a.bd 4611686018427387903):Calls Tryz.prog 107 #[pp zb 0,Ix n,.agg (eK a)] w fun r w'=>r= .returned (Ix (hO ps n a))∧St β [pt zb (.cells (vO mp mh mm la su) 88),bB cC mp (iI ps n a)] w':=by
 refine enter (n:=56) Tryz.func107 rfl Tryz.ntmps107 rfl ?_ hw
 refine bD (mL fun b1=> ?_)
 refine lE bN (aN (aL ?_))
 refine jS [sv 10 (pp zb 0) [] [] [0],sv 11 (pp zb 0) [0] [0] [],sv 12 (pp zb 0) [0,1] [1] [],sv 13 (.map (some mp)) [0,1,2] [2] [],sv 14 (Ix (n)) [] [] [1],sv 15 (.agg (eK x)) [0,1,2,3,4] [3,4] [],sv 16 (.agg (eK a)) [] [] [2],sv 17 (.agg (eK (x.plus a (1)))) (List.range 7) [5,6] [],⟨[],[],[],[7],fun f=>f 7= .pointer (some ⟨(bY (f 7)),0,none⟩)⟩,⟨(List.range 9),[8,7],[],[],fun _=>True⟩] [u1 [6],u1 [3],u1 [5]] [⟨(some 8),(some 9),[9],[7],fun f=>pt (bY (f 7)) (.cells #[.int .i64 (0),.int .i64 (0),.int .i64 (0),.int .i64 (0)] 44)⟩,⟨(some 9),none,[],[7],fun f=>pt (bY (f 7)) (.cells (eK (x.plus a (1))) 44)⟩] [(0,pp zb 0),(1,Ix (n)),(5,pp b1 0)] [0,1] ⟨rfl,rfl,rfl,trivial⟩ ⟨?_,?_,?_,?_,?_,?_,?_,?_,?_,?_,trivial⟩ ?_
 ·rintro f M-⟨i0,-⟩
  exact aT dS
 ·rintro f M ⟨k0,-⟩-
  exact aT eS
 ·rintro f M ⟨k0,-⟩-
  exact aT aY
 ·rintro f M ⟨k0,-⟩-
  exact vS (L':=pt zb (.cells #[.map (some mp),.map (some mh),Ix (la),Ix (su.a0),Ix (su.a1),Ix (su.a2),Ix (su.a3),.map (some mm)] 88)::M) (aA (d:=12) rfl k0) rfl (bI rZ.ok rfl (cD 0 rfl rfl)) (aB 0 rfl) (by rfl)
 ·rintro f M-⟨i0,-⟩
  exact aT aU
 ·rintro f M ⟨k0,k1,-⟩-
  exact vS (L':=bB cC mp ps::M) (aA (d:=14) (aA (d:=13) rfl k0) k1) rfl (eZ (congrArg cC.encv hx) (lL (K:=cC) (b:=mp) (ks:=ps) (k:=n) rfl rfl rfl (bH.of_res 0 rfl (bB.mono _ _ _) fun _ h=>h))) (aB 0 rfl) (by rfl)
 ·rintro f M-⟨i0,-⟩
  exact aT (dK 0)
 ·rintro f M ⟨k0,k1,-⟩-
  refine dL (aA (d:=16) (aA (d:=15) rfl k0) k1) ?_
  refine gI gH (fun w β1 sb kn hw1=>vA β1 w hw1 x a (1) (by decide) hxb hab) (aH ?_)
  exact aO (aA (d:=16) (aA (d:=15) rfl k0) k1) rfl (List.Perm.refl _)
 ·rintro f M- -
  refine dL rfl ?_
  refine gB fun b3=>aH ?_
  exact aO rfl rfl (aB 0 rfl)
 ·rintro f M ⟨k0,k1,-⟩-
  have hs7:f 7= .pointer (some ⟨(bY (f 7)),0,none⟩):=k0
  refine dL (aA (d:=17) (aA rfl hs7) k1) ?_
  refine lu (mS 0 (eK (x.plus a (1)))) (aH ?_)
  exact bC (aA (d:=17) (aA rfl hs7) k1) trivial (aB 0 rfl)
 rintro fa4 ⟨-,-,-,-,-,-,-,-,k8,-,-⟩ ⟨j0,j1,-⟩
 refine jD ?_
 refine aD (d:=0) j0 (aD (d:=1) j1 (aD (d:=7) k8 (kM (lE dS (lE eS (lE aY ?_))))))
 refine lv (v:= .map (some mp)) (bI rZ.ok rfl (cD 1 rfl rfl)) (lE aU ?_)
 refine lv (v:= .tuple #[.agg (eK x),.bool ((cC.look ps n).isSome)]) (eZ (congrArg (fun z=>Value.tuple #[cC.encv z,.bool (cC.look ps n).isSome]) hx) (xS (K:=cC) (b:=mp) (ks:=ps) (k:=n) rfl rfl rfl (bH.of_res 2 rfl (bB.mono _ _ _) fun _ h=>h))) ?_
 refine lE oM (lE rG (lE yA (gB fun b5=>lu (mS 0 (eK x)) (lE dP (aN (aL (aJ ?_)))))))
 refine gL (fun(f:Fm) (L:List bU)=>∃(jn:Bool),(f 0=pp zb 0∧f 1=Ix (n)∧f 7= .pointer (some ⟨(bY (fa4 7)),0,none⟩)∧f 27= .bool (jn))∧L=[pt b5 (.cells (eK x) 44),pt b1 (.cells (eK a) 44),pt zb (.cells #[.map (some mp),.map (some mh),Ix (la),Ix (su.a0),Ix (su.a1),Ix (su.a2),Ix (su.a3),.map (some mm)] 88),bB cC mp ps,pt (bY (fa4 7)) (.cells (eK (x.plus a (1))) 44)]∧(jn=addX ps n a)) ?_ ?_
 ·refine bD (lE (dK 4) (gI gH (fun w β1 sb kn hw1=>pQ β1 w hw1 (x.plus a (1))) (lE mB (lE dP (aN ?_)))))
  refine fH (!((x.plus a (1)).within)) rfl (fun hc6=> ?_) (fun hc6=> ?_)
  ·refine cG ?_
   exact bG ⟨!((x.plus a (1)).within),⟨rfl,rfl,rfl,rfl⟩,rfl,(by simp_all [addX,iS])⟩
  refine aC (lE fM (lE mB ?_))
  refine gF (!((cC.look ps n).isSome)) (decide (¬((x.plus a (1))=zeroA))) rfl (fun hb7 hk7=> ?_) (fun z8 z9 z10=> ?_)
  ·refine gE (dK 4) ?_
   refine cU (v:= .agg #[.int .i64 (0),.int .i64 (0),.int .i64 (0),.int .i64 (0)]) rfl rfl rfl rfl rfl (eQ tt3.ok qY.ok (vs:=[]) (cells:= #[.int .i64 (0),.int .i64 (0),.int .i64 (0),.int .i64 (0)]) rfl rfl) ?_
   refine cU (v:= .bool (decide (¬((x.plus a (1))=zeroA)))) rfl rfl rfl rfl rfl (iA (xs:=oT (x.plus a (1))) (ys:=oT zeroA) xM xN xO rfl rfl rfl rfl (not_congr (kY (x:=(x.plus a (1))) (y:=zeroA)))) ?_
   refine lE eF ?_
   exact hk7 _ _ _
  refine bCf ((!((cC.look ps n).isSome))&&(decide (¬((x.plus a (1))=zeroA)))) (decide ((256:Int)≤((ps.length:Nat):Int))) rfl (fun hb11 hk11=> ?_) (fun z12 z13 z14 z15 z16 z17=> ?_)
  ·refine gE dS (gE eS (gE aY (cU (v:= .map (some mp)) rfl rfl rfl rfl rfl (bI rZ.ok rfl (cD 2 rfl rfl)) ?_)))
   refine cU (v:=Nx (ps.length)) rfl rfl rfl rfl rfl (yS (K:=cC) (b:=mp) (ks:=ps) rfl rfl (bH.of_res 3 rfl (bB.mono _ _ _) fun _ h=>h)) ?_
   refine gE oge (lE eF ?_)
   exact hk11 _ _ _ _ _ _
  refine lE dP (aH ?_)
  exact bG ⟨(((!((cC.look ps n).isSome))&&(decide (¬((x.plus a (1))=zeroA))))&&(decide ((256:Int)≤((ps.length:Nat):Int)))),⟨rfl,rfl,rfl,rfl⟩,rfl,(by simp_all [addX,iS])⟩
 rintro f0 L0 ⟨jn,⟨hs0,hs1,hs7,hs27⟩,hL,hjn⟩
 subst L0
 refine bJ 0 hs0 (bJ 1 hs1 (bJ 7 hs7 (bJ 27 hs27 (fH (jn) rfl (fun hc18=> ?_) (fun hc18=> ?_)))))
 ·refine bD (lE bN (aN (aV (aR (aI (dJ Tryz.results107 rfl ?_))))))
  intro w hw
  replace hw:=hw.perm (L':=[pt zb (.cells #[.map (some mp),.map (some mh),Ix (la),Ix (su.a0),Ix (su.a1),Ix (su.a2),Ix (su.a3),.map (some mm)] 88),bB cC mp ps,pt b5 (.cells (eK x) 44),pt b1 (.cells (eK a) 44),pt (bY (fa4 7)) (.cells (eK (x.plus a (1))) 44)]) (by exact(aW [2,3,0,1,4] 5 rfl (by kernel_rfl) (by kernel_rfl)))
  exact⟨congrArg (fun z:Int=>Ending.returned (Ix z)) (show 4=hO ps n a by simp_all [hO,iI,iS]),(show ps=iI ps n a by simp_all [hO,iI,iS])▸aG (L':=[pt zb (.cells #[.map (some mp),.map (some mh),Ix (la),Ix (su.a0),Ix (su.a1),Ix (su.a2),Ix (su.a3),.map (some mm)] 88),bB cC mp ps]) [true,true,false,false,false] rfl hw⟩
 refine bD (lE (dK 4) ?_)
 refine lv (v:= .agg #[.int .i64 (0),.int .i64 (0),.int .i64 (0),.int .i64 (0)]) (eQ tt3.ok qY.ok (vs:=[]) (cells:= #[.int .i64 (0),.int .i64 (0),.int .i64 (0),.int .i64 (0)]) rfl rfl) ?_
 refine lv (v:= .bool (decide (¬((x.plus a (1))=zeroA)))) (iA (xs:=oT (x.plus a (1))) (ys:=oT zeroA) xM xN xO rfl rfl rfl rfl (not_congr (kY (x:=(x.plus a (1))) (y:=zeroA)))) ?_
 refine lE dP (aN (cN _ rfl (fun hc19=> ?_) (fun hc19=> ?_)))
 ·refine jS [sv 50 (pp zb 0) [] [] [0],sv 51 (pp zb 0) [0] [0] [],sv 52 (pp zb 0) [0,1] [1] [],sv 53 (.map (some mp)) [0,1,2] [2] [],sv 54 (Ix (n)) [] [] [1],sv 55 (.agg (eK (x.plus a (1)))) [] [] [2],⟨(List.range 6),[3,4,5],[],[],fun _=>True⟩] [u0,u0,u1 [3],(some 6,[6]),u1 [5]] [⟨(some 6),none,[],[],fun _=>bB cC mp (cC.put ps (n) (x.plus a (1)))⟩] [(0,pp zb 0),(1,Ix (n)),(7,.pointer (some ⟨(bY (fa4 7)),0,none⟩))] [] ⟨rfl,rfl,rfl,trivial⟩ ⟨?_,?_,?_,?_,?_,?_,?_,trivial⟩ ?_
  ·rintro f M-⟨i0,-⟩
   exact aT dS
  ·rintro f M ⟨k0,-⟩-
   exact aT eS
  ·rintro f M ⟨k0,-⟩-
   exact aT aY
  ·rintro f M ⟨k0,-⟩-
   exact vS (L':=pt zb (.cells #[.map (some mp),.map (some mh),Ix (la),Ix (su.a0),Ix (su.a1),Ix (su.a2),Ix (su.a3),.map (some mm)] 88)::M) (aA (d:=52) rfl k0) rfl (bI rZ.ok rfl (cD 0 rfl rfl)) (aB 0 rfl) (by rfl)
  ·rintro f M-⟨i0,-⟩
   exact aT aU
  ·rintro f M-⟨i0,-⟩
   exact aT (dK 0)
  ·rintro f M ⟨k0,k1,k2,-⟩-
   refine dL (aA (d:=55) (aA (d:=54) (aA (d:=53) rfl k0) k1) k2) ?_
   refine lu (rM (K:=cC) (b:=mp) (ks:=ps) (k:=(n)) (v:=(x.plus a (1))) 0 rfl rfl rfl rfl rfl) (aH ?_)
   exact bC (aA (d:=55) (aA (d:=54) (aA (d:=53) rfl k0) k1) k2) trivial (aB 0 rfl)
  rintro fa20 ⟨-,-,-,-,-,-,-,-⟩-
  refine jD ?_
  refine aP (kM (lE bN (aN (aV (dJ Tryz.results107 rfl ?_)))))
  intro w hw
  replace hw:=hw.perm (L':=[pt zb (.cells #[.map (some mp),.map (some mh),Ix (la),Ix (su.a0),Ix (su.a1),Ix (su.a2),Ix (su.a3),.map (some mm)] 88),bB cC mp (cC.put ps (n) (x.plus a (1))),pt b5 (.cells (eK x) 44),pt b1 (.cells (eK a) 44),pt (bY (fa4 7)) (.cells (eK (x.plus a (1))) 44)]) (by exact(aW [2,4,0,1,3] 5 rfl (by kernel_rfl) (by kernel_rfl)))
  exact⟨congrArg (fun z:Int=>Ending.returned (Ix z)) (show 0=hO ps n a by simp_all [hO,iI,iS]),(show(cC.put ps (n) (x.plus a (1)))=iI ps n a by simp_all [hO,iI,iS])▸aG (L':=[pt zb (.cells #[.map (some mp),.map (some mh),Ix (la),Ix (su.a0),Ix (su.a1),Ix (su.a2),Ix (su.a3),.map (some mm)] 88),bB cC mp (cC.put ps (n) (x.plus a (1)))]) [true,true,false,false,false] rfl hw⟩
 refine cG (aP (kM (lE bN (aN (aV (dJ Tryz.results107 rfl ?_))))))
 intro w hw
 replace hw:=hw.perm (L':=[pt zb (.cells #[.map (some mp),.map (some mh),Ix (la),Ix (su.a0),Ix (su.a1),Ix (su.a2),Ix (su.a3),.map (some mm)] 88),bB cC mp ps,pt b5 (.cells (eK x) 44),pt b1 (.cells (eK a) 44),pt (bY (fa4 7)) (.cells (eK (x.plus a (1))) 44)]) (by exact(aW [2,3,0,1,4] 5 rfl (by kernel_rfl) (by kernel_rfl)))
 exact⟨congrArg (fun z:Int=>Ending.returned (Ix z)) (show 0=hO ps n a by simp_all [hO,iI,iS]),(show ps=iI ps n a by simp_all [hO,iI,iS])▸aG (L':=[pt zb (.cells #[.map (some mp),.map (some mh),Ix (la),Ix (su.a0),Ix (su.a1),Ix (su.a2),Ix (su.a3),.map (some mm)] 88),bB cC mp ps]) [true,true,false,false,false] rfl hw⟩
theorem aEk(β:Base)(w:World)(zb mp mh mm:Nat)(la:Int)(su:KAm)(ps:List (Int×KAm))(hw:St β [pt zb (.cells (vO mp mh mm la su) 88),bB cC mp ps] w)(n:Int)(a x:KAm)(hx:(cC.look ps n).getD zeroA=x)(hxb:x.bd 4611686018427387903)(hab:a.bd 4611686018427387903):Calls Tryz.prog 109 #[pp zb 0,Ix n,.agg (eK a)] w fun r w'=>r= .returned (Ix (eI ps n a))∧St β [pt zb (.cells (vO mp mh mm la su) 88),bB cC mp (dQ ps n a)] w':=by
 refine enter (n:=33) Tryz.func109 rfl Tryz.ntmps109 rfl ?_ hw
 refine bD (mL fun b1=> ?_)
 refine lE bN (aN (aL ?_))
 refine jS [sv 8 (pp zb 0) [] [] [0],sv 9 (pp zb 0) [0] [0] [],sv 10 (pp zb 0) [0,1] [1] [],sv 11 (.map (some mp)) [0,1,2] [2] [],sv 12 (Ix (n)) [] [] [1],sv 13 (.agg (eK x)) [0,1,2,3,4] [3,4] [],sv 14 (.agg (eK a)) [] [] [2],sv 15 (.agg (eK (x.plus a (-1)))) (List.range 7) [5,6] [],⟨[],[],[],[7],fun f=>f 7= .pointer (some ⟨(bY (f 7)),0,none⟩)⟩,⟨(List.range 9),[8,7],[],[],fun _=>True⟩] [u1 [6],u1 [3],u1 [5]] [⟨(some 8),(some 9),[9],[7],fun f=>pt (bY (f 7)) (.cells #[.int .i64 (0),.int .i64 (0),.int .i64 (0),.int .i64 (0)] 44)⟩,⟨(some 9),none,[],[7],fun f=>pt (bY (f 7)) (.cells (eK (x.plus a (-1))) 44)⟩] [(0,pp zb 0),(1,Ix (n)),(5,pp b1 0)] [0,1] ⟨rfl,rfl,rfl,trivial⟩ ⟨?_,?_,?_,?_,?_,?_,?_,?_,?_,?_,trivial⟩ ?_
 ·rintro f M-⟨i0,-⟩
  exact aT dS
 ·rintro f M ⟨k0,-⟩-
  exact aT eS
 ·rintro f M ⟨k0,-⟩-
  exact aT aY
 ·rintro f M ⟨k0,-⟩-
  exact vS (L':=pt zb (.cells #[.map (some mp),.map (some mh),Ix (la),Ix (su.a0),Ix (su.a1),Ix (su.a2),Ix (su.a3),.map (some mm)] 88)::M) (aA (d:=10) rfl k0) rfl (bI rZ.ok rfl (cD 0 rfl rfl)) (aB 0 rfl) (by rfl)
 ·rintro f M-⟨i0,-⟩
  exact aT aU
 ·rintro f M ⟨k0,k1,-⟩-
  exact vS (L':=bB cC mp ps::M) (aA (d:=12) (aA (d:=11) rfl k0) k1) rfl (eZ (congrArg cC.encv hx) (lL (K:=cC) (b:=mp) (ks:=ps) (k:=n) rfl rfl rfl (bH.of_res 0 rfl (bB.mono _ _ _) fun _ h=>h))) (aB 0 rfl) (by rfl)
 ·rintro f M-⟨i0,-⟩
  exact aT (dK 0)
 ·rintro f M ⟨k0,k1,-⟩-
  refine dL (aA (d:=14) (aA (d:=13) rfl k0) k1) ?_
  refine gI gH (fun w β1 sb kn hw1=>vA β1 w hw1 x a (-1) (by decide) hxb hab) (aH ?_)
  exact aO (aA (d:=14) (aA (d:=13) rfl k0) k1) rfl (List.Perm.refl _)
 ·rintro f M- -
  refine dL rfl ?_
  refine gB fun b3=>aH ?_
  exact aO rfl rfl (aB 0 rfl)
 ·rintro f M ⟨k0,k1,-⟩-
  have hs7:f 7= .pointer (some ⟨(bY (f 7)),0,none⟩):=k0
  refine dL (aA (d:=15) (aA rfl hs7) k1) ?_
  refine lu (mS 0 (eK (x.plus a (-1)))) (aH ?_)
  exact bC (aA (d:=15) (aA rfl hs7) k1) trivial (aB 0 rfl)
 rintro fa4 ⟨-,-,-,-,-,-,-,-,k8,-,-⟩ ⟨j0,j1,-⟩
 refine jD ?_
 refine aD (d:=0) j0 (aD (d:=1) j1 (aD (d:=7) k8 (qV (bD (lE (dK 3) ?_)))))
 refine gI gH (fun w β1 sb kn hw1=>pQ β1 w hw1 (x.plus a (-1))) (lE mB (aN ?_))
 refine fH (!((x.plus a (-1)).within)) rfl (fun hc5=> ?_) (fun hc5=> ?_)
 ·refine bD (lE bN (aN (aV (aI (dJ Tryz.results109 rfl ?_)))))
  intro w hw
  replace hw:=hw.perm (L':=[pt zb (.cells #[.map (some mp),.map (some mh),Ix (la),Ix (su.a0),Ix (su.a1),Ix (su.a2),Ix (su.a3),.map (some mm)] 88),bB cC mp ps,pt b1 (.cells (eK a) 44),pt (bY (fa4 7)) (.cells (eK (x.plus a (-1))) 44)]) (by exact(aW [1,2,0,3] 4 rfl (by kernel_rfl) (by kernel_rfl)))
  exact⟨congrArg (fun z:Int=>Ending.returned (Ix z)) (show 330=eI ps n a by simp_all [eI,dQ,iW,iS]),(show ps=dQ ps n a by simp_all [eI,dQ,iW,iS])▸aG (L':=[pt zb (.cells #[.map (some mp),.map (some mh),Ix (la),Ix (su.a0),Ix (su.a1),Ix (su.a2),Ix (su.a3),.map (some mm)] 88),bB cC mp ps]) [true,true,false,false] rfl hw⟩
 refine eB (eR ?_)
 refine jS [sv 19 (pp zb 0) [] [] [0],sv 20 (pp zb 0) [0] [0] [],sv 21 (pp zb 0) [0,1] [1] [],sv 22 (.map (some mp)) [0,1,2] [2] [],sv 23 (Ix (n)) [] [] [1],sv 24 (.agg (eK (x.plus a (-1)))) [] [] [2],⟨(List.range 6),[3,4,5],[],[],fun _=>True⟩] [u0,u1 [3],(some 6,[6]),u1 [5]] [⟨(some 6),none,[],[],fun _=>bB cC mp (cC.put ps (n) (x.plus a (-1)))⟩] [(0,pp zb 0),(1,Ix (n)),(7,.pointer (some ⟨(bY (fa4 7)),0,none⟩))] [0,1,2] ⟨rfl,rfl,rfl,trivial⟩ ⟨?_,?_,?_,?_,?_,?_,?_,trivial⟩ ?_
 ·rintro f M-⟨i0,-⟩
  exact aT dS
 ·rintro f M ⟨k0,-⟩-
  exact aT eS
 ·rintro f M ⟨k0,-⟩-
  exact aT aY
 ·rintro f M ⟨k0,-⟩-
  exact vS (L':=pt zb (.cells #[.map (some mp),.map (some mh),Ix (la),Ix (su.a0),Ix (su.a1),Ix (su.a2),Ix (su.a3),.map (some mm)] 88)::M) (aA (d:=21) rfl k0) rfl (bI rZ.ok rfl (cD 0 rfl rfl)) (aB 0 rfl) (by rfl)
 ·rintro f M-⟨i0,-⟩
  exact aT aU
 ·rintro f M-⟨i0,-⟩
  exact aT (dK 0)
 ·rintro f M ⟨k0,k1,k2,-⟩-
  refine dL (aA (d:=24) (aA (d:=23) (aA (d:=22) rfl k0) k1) k2) ?_
  refine lu (rM (K:=cC) (b:=mp) (ks:=ps) (k:=(n)) (v:=(x.plus a (-1))) 0 rfl rfl rfl rfl rfl) (aH ?_)
  exact bC (aA (d:=24) (aA (d:=23) (aA (d:=22) rfl k0) k1) k2) trivial (aB 0 rfl)
 rintro fa6 ⟨-,-,-,-,-,-,-,-⟩ ⟨j0,j1,j2,-⟩
 refine jD ?_
 refine aD (d:=0) j0 (aD (d:=1) j1 (aD (d:=7) j2 (kM (lE (dK 2) ?_))))
 refine lv (v:= .agg #[.int .i64 (0),.int .i64 (0),.int .i64 (0),.int .i64 (0)]) (eQ tt3.ok qY.ok (vs:=[]) (cells:= #[.int .i64 (0),.int .i64 (0),.int .i64 (0),.int .i64 (0)]) rfl rfl) ?_
 refine lv (v:= .bool (decide ((x.plus a (-1))=zeroA))) (qF (xs:=oT (x.plus a (-1))) (ys:=oT zeroA) xM xN xO rfl rfl rfl rfl (kY (x:=(x.plus a (-1))) (y:=zeroA))) ?_
 refine aN (cN _ rfl (fun hc7=> ?_) (fun hc7=> ?_))
 ·refine aC (lE dS (lE eS (lE aY (lv (v:= .map (some mp)) (bI rZ.ok rfl (cD 1 rfl rfl)) (lE aU ?_)))))
  refine bEv rfl rfl (aRt (K:=cC) (b:=mp) (ks:=(cC.put ps (n) (x.plus a (-1)))) (k:=(n)) 3 rfl rfl rfl rfl) ?_
  rintro _ _ ⟨rfl,rfl⟩
  refine eY (lE bN (aN (aV (dJ Tryz.results109 rfl ?_))))
  intro w hw
  replace hw:=hw.perm (L':=[pt zb (.cells #[.map (some mp),.map (some mh),Ix (la),Ix (su.a0),Ix (su.a1),Ix (su.a2),Ix (su.a3),.map (some mm)] 88),bB cC mp (cC.del (cC.put ps (n) (x.plus a (-1))) (n)),pt b1 (.cells (eK a) 44),pt (bY (fa4 7)) (.cells (eK (x.plus a (-1))) 44)]) (by exact(aW [1,3,0,2] 4 rfl (by kernel_rfl) (by kernel_rfl)))
  exact⟨congrArg (fun z:Int=>Ending.returned (Ix z)) (show 0=eI ps n a by simp_all [eI,dQ,iW,iS]),(show(cC.del (cC.put ps (n) (x.plus a (-1))) (n))=dQ ps n a by simp_all [eI,dQ,iW,iS])▸aG (L':=[pt zb (.cells #[.map (some mp),.map (some mh),Ix (la),Ix (su.a0),Ix (su.a1),Ix (su.a2),Ix (su.a3),.map (some mm)] 88),bB cC mp (cC.del (cC.put ps (n) (x.plus a (-1))) (n))]) [true,true,false,false] rfl hw⟩
 refine eB (bD (lE bN (aN (aV (dJ Tryz.results109 rfl ?_)))))
 intro w hw
 replace hw:=hw.perm (L':=[pt zb (.cells #[.map (some mp),.map (some mh),Ix (la),Ix (su.a0),Ix (su.a1),Ix (su.a2),Ix (su.a3),.map (some mm)] 88),bB cC mp (cC.put ps (n) (x.plus a (-1))),pt b1 (.cells (eK a) 44),pt (bY (fa4 7)) (.cells (eK (x.plus a (-1))) 44)]) (by exact(aW [1,3,0,2] 4 rfl (by kernel_rfl) (by kernel_rfl)))
 exact⟨congrArg (fun z:Int=>Ending.returned (Ix z)) (show 0=eI ps n a by simp_all [eI,dQ,iW,iS]),(show(cC.put ps (n) (x.plus a (-1)))=dQ ps n a by simp_all [eI,dQ,iW,iS])▸aG (L':=[pt zb (.cells #[.map (some mp),.map (some mh),Ix (la),Ix (su.a0),Ix (su.a1),Ix (su.a2),Ix (su.a3),.map (some mm)] 88),bB cC mp (cC.put ps (n) (x.plus a (-1)))]) [true,true,false,false] rfl hw⟩
theorem aXa(β:Base)(w:World)(zb mp mh mm:Nat)(s:KSt)(hw:St β [pt zb (.cells (vO mp mh mm s.last s.su) 88),bB cC mp s.ps,bB bL mh s.hs] w)(hP:okP s.ps)(hH:okH s.hs)(hsu:s.su.bd 4611686018427387903)(hla: -4611686018427387903≤s.last∧s.last≤4611686018427387903)(x:KAct)(hxa:x.a.bd 4611686018427387903):Calls Tryz.prog 67 #[pp zb 0,.agg #[Bx (x.kind),Ix (x.owner),Ix (x.other),Ix (x.hold),Ix (x.a.a0),Ix (x.a.a1),Ix (x.a.a2),Ix (x.a.a3)]] w fun r w'=>r= .returned (.tuple #[Ix (mF s x).2.1,Ix (mF s x).2.2])∧St β [pt zb (.cells (vO mp mh mm (mF s x).1.last (mF s x).1.su) 88),bB cC mp (mF s x).1.ps,bB bL mh (mF s x).1.hs] w':=by
 refine enter (n:=26) Tryz.func67 rfl Tryz.ntmps67 rfl ?_ hw
 refine bD (mL fun b1=> ?_)
 refine lE bN (lE bN (eY (lE dS (lE aY (lE (cY 0) (lE aY (lE (dK 0) ?_)))))))
 refine aX rfl rfl rfl (cT (vs:=[pp zb 0,Ix (x.owner),.agg (eK x.a)]) bDa.ok rfl rfl) ?_
 intro w hw
 replace hw:=hw.perm (L':=_::_::_::_::[]) (by exact((((aB 3 rfl).trans (aB 1 rfl)).trans (aB 3 rfl)).trans (aB 3 rfl)))
 obtain⟨β1,sb,kn,hw1,back⟩:=St.frame (L:=[_,_]) (M:=_::_::[]) hw
 refine(aHs β1 w zb mp mh mm s.last s.su s.ps hw1 x.owner x.a _ rfl (tO hP _) hxa).mono ?_
 rintro e w' ⟨rfl,hw'⟩
 refine⟨_,rfl,_,back _ _ hw',?_⟩
 refine lE bN (aN (eR (aC (lE aU (lE fD (aN (cN _ rfl (fun hc2=> ?_) (fun hc2=> ?_))))))))
 ·refine jS [sv 15 (pp zb 0) [] [] [0],sv 16 (pp zb 0) [] [] [0],sv 17 (pp zb 0) [1] [1] [],sv 18 (pp zb 3) [1,2] [2] [],sv 19 (.agg (eK s.su)) [1,2,3] [3] [],sv 20 (pp b1 4) [] [] [1],sv 21 (.agg (eK x.a)) [5] [5] [],sv 22 (.agg (eK (s.su.plus x.a (1)))) [1,2,3,4,5,6] [4,6] [],sv 23 (pp zb 0) (List.range 8) [0] [],sv 24 (pp zb 3) (List.range 9) [8] [],⟨(List.range 10),[9,7],[],[],fun _=>True⟩] [(some 10,[4,10]),u0,u1 [6]] [⟨(some 10),none,[],[],fun _=>pt zb (.cells #[.map (some mp),.map (some mh),Ix (s.last),Ix ((s.su.plus x.a (1)).a0),Ix ((s.su.plus x.a (1)).a1),Ix ((s.su.plus x.a (1)).a2),Ix ((s.su.plus x.a (1)).a3),.map (some mm)] 88)⟩] [(0,pp zb 0),(3,pp b1 0),(6,Ix (hO s.ps x.owner x.a))] [2] ⟨rfl,rfl,rfl,trivial⟩ ⟨?_,?_,?_,?_,?_,?_,?_,?_,?_,?_,?_,trivial⟩ ?_
  ·rintro f M-⟨i0,-⟩
   exact aT dS
  ·rintro f M-⟨i0,-⟩
   exact aT dS
  ·rintro f M ⟨k0,-⟩-
   exact aT eS
  ·rintro f M ⟨k0,-⟩-
   exact aT aY
  ·rintro f M ⟨k0,-⟩-
   exact aT (dK 0)
  ·rintro f M-⟨i0,-⟩
   exact aT aY
  ·rintro f M ⟨k0,-⟩-
   exact aT (dK 0)
  ·rintro f M ⟨k0,k1,-⟩-
   refine dL (aA (d:=21) (aA (d:=19) rfl k0) k1) ?_
   refine gI gH (fun w β1 sb kn hw1=>vA β1 w hw1 s.su x.a (1) (by decide) hsu hxa) (aH ?_)
   exact aO (aA (d:=21) (aA (d:=19) rfl k0) k1) rfl (List.Perm.refl _)
  ·rintro f M ⟨k0,-⟩-
   exact aT eS
  ·rintro f M ⟨k0,-⟩-
   exact aT aY
  ·rintro f M ⟨k0,k1,-⟩-
   refine dL (aA (d:=22) (aA (d:=24) rfl k0) k1) ?_
   refine lu (mS 0 (#[.map (some mp),.map (some mh),Ix (s.last),Ix ((s.su.plus x.a (1)).a0),Ix ((s.su.plus x.a (1)).a1),Ix ((s.su.plus x.a (1)).a2),Ix ((s.su.plus x.a (1)).a3),.map (some mm)])) ?_
   refine aH ?_
   exact bC (aA (d:=22) (aA (d:=24) rfl k0) k1) trivial (aB 0 rfl)
  rintro fa3 ⟨-,-,-,-,-,-,-,-,-,-,-,-⟩ ⟨j0,-⟩
  refine jD ?_
  refine aD (d:=6) j0 (kM (lE aU (lE bN (lE bN (aN (aV ?_))))))
  refine nO (v:= .int .i64 (0)) (v':=Ix (hO s.ps x.owner x.a)) Tryz.results67 rfl rfl ?_
  intro w hw
  replace hw:=hw.perm (L':=[pt zb (.cells #[.map (some mp),.map (some mh),Ix (s.last),Ix ((s.su.plus x.a (1)).a0),Ix ((s.su.plus x.a (1)).a1),Ix ((s.su.plus x.a (1)).a2),Ix ((s.su.plus x.a (1)).a3),.map (some mm)] 88),bB cC mp (iI s.ps x.owner x.a),bB bL mh s.hs,pt b1 (.cells #[Bx (x.kind),Ix (x.owner),Ix (x.other),Ix (x.hold),Ix (x.a.a0),Ix (x.a.a1),Ix (x.a.a2),Ix (x.a.a3)] 47)]) (by exact(aW [3,0,2,1] 4 rfl (by kernel_rfl) (by kernel_rfl)))
  exact jA (V:=(⟨(iI s.ps x.owner x.a),s.hs,s.last,(s.su.plus x.a (1))⟩:KSt)) (show((⟨(iI s.ps x.owner x.a),s.hs,s.last,(s.su.plus x.a (1))⟩:KSt),0,hO s.ps x.owner x.a)=mF s x by simp_all [mF]) (aG (L':=[pt zb (.cells #[.map (some mp),.map (some mh),Ix (s.last),Ix ((s.su.plus x.a (1)).a0),Ix ((s.su.plus x.a (1)).a1),Ix ((s.su.plus x.a (1)).a2),Ix ((s.su.plus x.a (1)).a3),.map (some mm)] 88),bB cC mp (iI s.ps x.owner x.a),bB bL mh s.hs]) [true,true,true,false] rfl hw)
 refine eB (bD (lE aU (lE bN (lE bN (aN (aV (nO (v:= .int .i64 (0)) (v':=Ix (hO s.ps x.owner x.a)) Tryz.results67 rfl rfl ?_)))))))
 intro w hw
 replace hw:=hw.perm (L':=[pt zb (.cells #[.map (some mp),.map (some mh),Ix (s.last),Ix (s.su.a0),Ix (s.su.a1),Ix (s.su.a2),Ix (s.su.a3),.map (some mm)] 88),bB cC mp (iI s.ps x.owner x.a),bB bL mh s.hs,pt b1 (.cells #[Bx (x.kind),Ix (x.owner),Ix (x.other),Ix (x.hold),Ix (x.a.a0),Ix (x.a.a1),Ix (x.a.a2),Ix (x.a.a3)] 47)]) (by exact(aW [0,1,3,2] 4 rfl (by kernel_rfl) (by kernel_rfl)))
 exact jA (V:=(⟨(iI s.ps x.owner x.a),s.hs,s.last,s.su⟩:KSt)) (show((⟨(iI s.ps x.owner x.a),s.hs,s.last,s.su⟩:KSt),0,hO s.ps x.owner x.a)=mF s x by simp_all [mF]) (aG (L':=[pt zb (.cells #[.map (some mp),.map (some mh),Ix (s.last),Ix (s.su.a0),Ix (s.su.a1),Ix (s.su.a2),Ix (s.su.a3),.map (some mm)] 88),bB cC mp (iI s.ps x.owner x.a),bB bL mh s.hs]) [true,true,true,false] rfl hw)
theorem aVj(β:Base)(w:World)(zb mp mh mm:Nat)(s:KSt)(hw:St β [pt zb (.cells (vO mp mh mm s.last s.su) 88),bB cC mp s.ps,bB bL mh s.hs] w)(hP:okP s.ps)(hH:okH s.hs)(hsu:s.su.bd 4611686018427387903)(hla: -4611686018427387903≤s.last∧s.last≤4611686018427387903)(x:KAct)(hxa:x.a.bd 4611686018427387903):Calls Tryz.prog 68 #[pp zb 0,.agg #[Bx (x.kind),Ix (x.owner),Ix (x.other),Ix (x.hold),Ix (x.a.a0),Ix (x.a.a1),Ix (x.a.a2),Ix (x.a.a3)]] w fun r w'=>r= .returned (.tuple #[Ix (mD s x).2.1,Ix (mD s x).2.2])∧St β [pt zb (.cells (vO mp mh mm (mD s x).1.last (mD s x).1.su) 88),bB cC mp (mD s x).1.ps,bB bL mh (mD s x).1.hs] w':=by
 refine enter (n:=26) Tryz.func68 rfl Tryz.ntmps68 rfl ?_ hw
 refine bD (mL fun b1=> ?_)
 refine lE bN (lE bN (eY (lE dS (lE aY (lE (cY 0) (lE aY (lE (dK 0) ?_)))))))
 refine aX rfl rfl rfl (cT (vs:=[pp zb 0,Ix (x.owner),.agg (eK x.a)]) bDb.ok rfl rfl) ?_
 intro w hw
 replace hw:=hw.perm (L':=_::_::_::_::[]) (by exact((((aB 3 rfl).trans (aB 1 rfl)).trans (aB 3 rfl)).trans (aB 3 rfl)))
 obtain⟨β1,sb,kn,hw1,back⟩:=St.frame (L:=[_,_]) (M:=_::_::[]) hw
 refine(aEk β1 w zb mp mh mm s.last s.su s.ps hw1 x.owner x.a _ rfl (tO hP _) hxa).mono ?_
 rintro e w' ⟨rfl,hw'⟩
 refine⟨_,rfl,_,back _ _ hw',?_⟩
 refine lE bN (aN (eR (aC (lE aU (lE fD (aN (cN _ rfl (fun hc2=> ?_) (fun hc2=> ?_))))))))
 ·refine jS [sv 15 (pp zb 0) [] [] [0],sv 16 (pp zb 0) [] [] [0],sv 17 (pp zb 0) [1] [1] [],sv 18 (pp zb 3) [1,2] [2] [],sv 19 (.agg (eK s.su)) [1,2,3] [3] [],sv 20 (pp b1 4) [] [] [1],sv 21 (.agg (eK x.a)) [5] [5] [],sv 22 (.agg (eK (s.su.plus x.a (-1)))) [1,2,3,4,5,6] [4,6] [],sv 23 (pp zb 0) (List.range 8) [0] [],sv 24 (pp zb 3) (List.range 9) [8] [],⟨(List.range 10),[9,7],[],[],fun _=>True⟩] [(some 10,[4,10]),u0,u1 [6]] [⟨(some 10),none,[],[],fun _=>pt zb (.cells #[.map (some mp),.map (some mh),Ix (s.last),Ix ((s.su.plus x.a (-1)).a0),Ix ((s.su.plus x.a (-1)).a1),Ix ((s.su.plus x.a (-1)).a2),Ix ((s.su.plus x.a (-1)).a3),.map (some mm)] 88)⟩] [(0,pp zb 0),(3,pp b1 0),(6,Ix (eI s.ps x.owner x.a))] [2] ⟨rfl,rfl,rfl,trivial⟩ ⟨?_,?_,?_,?_,?_,?_,?_,?_,?_,?_,?_,trivial⟩ ?_
  ·rintro f M-⟨i0,-⟩
   exact aT dS
  ·rintro f M-⟨i0,-⟩
   exact aT dS
  ·rintro f M ⟨k0,-⟩-
   exact aT eS
  ·rintro f M ⟨k0,-⟩-
   exact aT aY
  ·rintro f M ⟨k0,-⟩-
   exact aT (dK 0)
  ·rintro f M-⟨i0,-⟩
   exact aT aY
  ·rintro f M ⟨k0,-⟩-
   exact aT (dK 0)
  ·rintro f M ⟨k0,k1,-⟩-
   refine dL (aA (d:=21) (aA (d:=19) rfl k0) k1) ?_
   refine gI gH (fun w β1 sb kn hw1=>vA β1 w hw1 s.su x.a (-1) (by decide) hsu hxa) (aH ?_)
   exact aO (aA (d:=21) (aA (d:=19) rfl k0) k1) rfl (List.Perm.refl _)
  ·rintro f M ⟨k0,-⟩-
   exact aT eS
  ·rintro f M ⟨k0,-⟩-
   exact aT aY
  ·rintro f M ⟨k0,k1,-⟩-
   refine dL (aA (d:=22) (aA (d:=24) rfl k0) k1) ?_
   refine lu (mS 0 (#[.map (some mp),.map (some mh),Ix (s.last),Ix ((s.su.plus x.a (-1)).a0),Ix ((s.su.plus x.a (-1)).a1),Ix ((s.su.plus x.a (-1)).a2),Ix ((s.su.plus x.a (-1)).a3),.map (some mm)])) ?_
   refine aH ?_
   exact bC (aA (d:=22) (aA (d:=24) rfl k0) k1) trivial (aB 0 rfl)
  rintro fa3 ⟨-,-,-,-,-,-,-,-,-,-,-,-⟩ ⟨j0,-⟩
  refine jD ?_
  refine aD (d:=6) j0 (kM (lE aU (lE bN (lE bN (aN (aV ?_))))))
  refine nO (v:= .int .i64 (0)) (v':=Ix (eI s.ps x.owner x.a)) Tryz.results68 rfl rfl ?_
  intro w hw
  replace hw:=hw.perm (L':=[pt zb (.cells #[.map (some mp),.map (some mh),Ix (s.last),Ix ((s.su.plus x.a (-1)).a0),Ix ((s.su.plus x.a (-1)).a1),Ix ((s.su.plus x.a (-1)).a2),Ix ((s.su.plus x.a (-1)).a3),.map (some mm)] 88),bB cC mp (dQ s.ps x.owner x.a),bB bL mh s.hs,pt b1 (.cells #[Bx (x.kind),Ix (x.owner),Ix (x.other),Ix (x.hold),Ix (x.a.a0),Ix (x.a.a1),Ix (x.a.a2),Ix (x.a.a3)] 47)]) (by exact(aW [3,0,2,1] 4 rfl (by kernel_rfl) (by kernel_rfl)))
  exact jA (V:=(⟨(dQ s.ps x.owner x.a),s.hs,s.last,(s.su.plus x.a (-1))⟩:KSt)) (show((⟨(dQ s.ps x.owner x.a),s.hs,s.last,(s.su.plus x.a (-1))⟩:KSt),0,eI s.ps x.owner x.a)=mD s x by simp_all [mD]) (aG (L':=[pt zb (.cells #[.map (some mp),.map (some mh),Ix (s.last),Ix ((s.su.plus x.a (-1)).a0),Ix ((s.su.plus x.a (-1)).a1),Ix ((s.su.plus x.a (-1)).a2),Ix ((s.su.plus x.a (-1)).a3),.map (some mm)] 88),bB cC mp (dQ s.ps x.owner x.a),bB bL mh s.hs]) [true,true,true,false] rfl hw)
 refine eB (bD (lE aU (lE bN (lE bN (aN (aV (nO (v:= .int .i64 (0)) (v':=Ix (eI s.ps x.owner x.a)) Tryz.results68 rfl rfl ?_)))))))
 intro w hw
 replace hw:=hw.perm (L':=[pt zb (.cells #[.map (some mp),.map (some mh),Ix (s.last),Ix (s.su.a0),Ix (s.su.a1),Ix (s.su.a2),Ix (s.su.a3),.map (some mm)] 88),bB cC mp (dQ s.ps x.owner x.a),bB bL mh s.hs,pt b1 (.cells #[Bx (x.kind),Ix (x.owner),Ix (x.other),Ix (x.hold),Ix (x.a.a0),Ix (x.a.a1),Ix (x.a.a2),Ix (x.a.a3)] 47)]) (by exact(aW [0,1,3,2] 4 rfl (by kernel_rfl) (by kernel_rfl)))
 exact jA (V:=(⟨(dQ s.ps x.owner x.a),s.hs,s.last,s.su⟩:KSt)) (show((⟨(dQ s.ps x.owner x.a),s.hs,s.last,s.su⟩:KSt),0,eI s.ps x.owner x.a)=mD s x by simp_all [mD]) (aG (L':=[pt zb (.cells #[.map (some mp),.map (some mh),Ix (s.last),Ix (s.su.a0),Ix (s.su.a1),Ix (s.su.a2),Ix (s.su.a3),.map (some mm)] 88),bB cC mp (dQ s.ps x.owner x.a),bB bL mh s.hs]) [true,true,true,false] rfl hw)
theorem aXd(β:Base)(w:World)(zb mp mh mm:Nat)(s:KSt)(hw:St β [pt zb (.cells (vO mp mh mm s.last s.su) 88),bB cC mp s.ps,bB bL mh s.hs] w)(hP:okP s.ps)(hH:okH s.hs)(hsu:s.su.bd 4611686018427387903)(hla: -4611686018427387903≤s.last∧s.last≤4611686018427387903)(x:KAct)(hxa:x.a.bd 4611686018427387903):Calls Tryz.prog 69 #[pp zb 0,.agg #[Bx (x.kind),Ix (x.owner),Ix (x.other),Ix (x.hold),Ix (x.a.a0),Ix (x.a.a1),Ix (x.a.a2),Ix (x.a.a3)]] w fun r w'=>r= .returned (.tuple #[Ix (lA s x).2.1,Ix (lA s x).2.2])∧St β [pt zb (.cells (vO mp mh mm (lA s x).1.last (lA s x).1.su) 88),bB cC mp (lA s x).1.ps,bB bL mh (lA s x).1.hs] w':=by
 refine enter (n:=22) Tryz.func69 rfl Tryz.ntmps69 rfl ?_ hw
 refine bD (mL fun b1=> ?_)
 refine lE bN (lE bN (aN (eR (aC (lE dS (lE aY (lE (cY 0) (lE aY (lE (dK 0) ?_)))))))))
 refine aX rfl rfl rfl (cT (vs:=[pp zb 0,Ix (x.owner),.agg (eK x.a)]) bDb.ok rfl rfl) ?_
 intro w hw
 replace hw:=hw.perm (L':=_::_::_::_::[]) (by exact((((aB 3 rfl).trans (aB 1 rfl)).trans (aB 3 rfl)).trans (aB 3 rfl)))
 obtain⟨β1,sb,kn,hw1,back⟩:=St.frame (L:=[_,_]) (M:=_::_::[]) hw
 refine(aEk β1 w zb mp mh mm s.last s.su s.ps hw1 x.owner x.a _ rfl (tO hP _) hxa).mono ?_
 rintro e w' ⟨rfl,hw'⟩
 refine⟨_,rfl,_,back _ _ hw',?_⟩
 refine lE bN (eY (lE aU (lE lO (aN (cN _ rfl (fun hc2=> ?_) (fun hc2=> ?_))))))
 ·refine bD (lE aU (lE bN (lE bN (aN (aV (aI (nO (v:= .int .i64 (0)) (v':=Ix (eI s.ps x.owner x.a)) Tryz.results69 rfl rfl ?_)))))))
  intro w hw
  replace hw:=hw.perm (L':=[pt zb (.cells #[.map (some mp),.map (some mh),Ix (s.last),Ix (s.su.a0),Ix (s.su.a1),Ix (s.su.a2),Ix (s.su.a3),.map (some mm)] 88),bB cC mp (dQ s.ps x.owner x.a),bB bL mh s.hs,pt b1 (.cells #[Bx (x.kind),Ix (x.owner),Ix (x.other),Ix (x.hold),Ix (x.a.a0),Ix (x.a.a1),Ix (x.a.a2),Ix (x.a.a3)] 47)]) (by exact(aW [0,1,3,2] 4 rfl (by kernel_rfl) (by kernel_rfl)))
  exact jA (V:=(⟨(dQ s.ps x.owner x.a),s.hs,s.last,s.su⟩:KSt)) (show((⟨(dQ s.ps x.owner x.a),s.hs,s.last,s.su⟩:KSt),0,eI s.ps x.owner x.a)=lA s x by simp_all [lA]) (aG (L':=[pt zb (.cells #[.map (some mp),.map (some mh),Ix (s.last),Ix (s.su.a0),Ix (s.su.a1),Ix (s.su.a2),Ix (s.su.a3),.map (some mm)] 88),bB cC mp (dQ s.ps x.owner x.a),bB bL mh s.hs]) [true,true,true,false] rfl hw)
 refine eB (bD (lE dS (lE aY (lE (cY 2) (lE aY (lE (dK 2) ?_))))))
 refine aX rfl rfl rfl (cT (vs:=[pp zb 0,Ix (x.other),.agg (eK x.a)]) bDa.ok rfl rfl) ?_
 intro w hw
 obtain⟨β1,sb,kn,hw1,back⟩:=St.frame (L:=[_,_]) (M:=_::_::[]) hw
 refine(aHs β1 w zb mp mh mm s.last s.su (dQ s.ps x.owner x.a) hw1 x.other x.a _ rfl (tO (rX hP _ _) _) hxa).mono ?_
 rintro e w' ⟨rfl,hw'⟩
 refine⟨_,rfl,_,back _ _ hw',?_⟩
 refine lE bN (lE bN (aN (aV (nO (v:= .int .i64 (0)) (v':=Ix (hO (dQ s.ps x.owner x.a) x.other x.a)) Tryz.results69 rfl rfl ?_))))
 intro w hw
 replace hw:=hw.perm (L':=[pt zb (.cells #[.map (some mp),.map (some mh),Ix (s.last),Ix (s.su.a0),Ix (s.su.a1),Ix (s.su.a2),Ix (s.su.a3),.map (some mm)] 88),bB cC mp (iI (dQ s.ps x.owner x.a) x.other x.a),bB bL mh s.hs,pt b1 (.cells #[Bx (x.kind),Ix (x.owner),Ix (x.other),Ix (x.hold),Ix (x.a.a0),Ix (x.a.a1),Ix (x.a.a2),Ix (x.a.a3)] 47)]) (by exact(aW [0,1,3,2] 4 rfl (by kernel_rfl) (by kernel_rfl)))
 exact jA (V:=(⟨(iI (dQ s.ps x.owner x.a) x.other x.a),s.hs,s.last,s.su⟩:KSt)) (show((⟨(iI (dQ s.ps x.owner x.a) x.other x.a),s.hs,s.last,s.su⟩:KSt),0,hO (dQ s.ps x.owner x.a) x.other x.a)=lA s x by simp_all [lA]) (aG (L':=[pt zb (.cells #[.map (some mp),.map (some mh),Ix (s.last),Ix (s.su.a0),Ix (s.su.a1),Ix (s.su.a2),Ix (s.su.a3),.map (some mm)] 88),bB cC mp (iI (dQ s.ps x.owner x.a) x.other x.a),bB bL mh s.hs]) [true,true,true,false] rfl hw)
theorem aWl(β:Base)(w:World)(zb mp mh mm:Nat)(s:KSt)(hw:St β [pt zb (.cells (vO mp mh mm s.last s.su) 88),bB cC mp s.ps,bB bL mh s.hs] w)(hP:okP s.ps)(hH:okH s.hs)(hsu:s.su.bd 4611686018427387903)(hla: -4611686018427387903≤s.last∧s.last≤4611686018427387903)(x:KAct)(hxa:x.a.bd 4611686018427387903):Calls Tryz.prog 70 #[pp zb 0,.agg #[Bx (x.kind),Ix (x.owner),Ix (x.other),Ix (x.hold),Ix (x.a.a0),Ix (x.a.a1),Ix (x.a.a2),Ix (x.a.a3)]] w fun r w'=>r= .returned (.tuple #[Ix (kI s x).2.1,Ix (kI s x).2.2])∧St β [pt zb (.cells (vO mp mh mm (kI s x).1.last (kI s x).1.su) 88),bB cC mp (kI s x).1.ps,bB bL mh (kI s x).1.hs] w':=by
 refine enter (n:=50) Tryz.func70 rfl Tryz.ntmps70 rfl ?_ hw
 refine bD (mL fun b1=> ?_)
 refine lE bN (lE bN (aN (eR (aC (lE dS (lE aY (lE (cY 0) (lE aY (lE (dK 0) ?_)))))))))
 refine aX rfl rfl rfl (cT (vs:=[pp zb 0,Ix (x.owner),.agg (eK x.a)]) bDb.ok rfl rfl) ?_
 intro w hw
 replace hw:=hw.perm (L':=_::_::_::_::[]) (by exact((((aB 3 rfl).trans (aB 1 rfl)).trans (aB 3 rfl)).trans (aB 3 rfl)))
 obtain⟨β1,sb,kn,hw1,back⟩:=St.frame (L:=[_,_]) (M:=_::_::[]) hw
 refine(aEk β1 w zb mp mh mm s.last s.su s.ps hw1 x.owner x.a _ rfl (tO hP _) hxa).mono ?_
 rintro e w' ⟨rfl,hw'⟩
 refine⟨_,rfl,_,back _ _ hw',?_⟩
 refine lE bN (eY (lE aU (lE lO (aN (cN _ rfl (fun hc2=> ?_) (fun hc2=> ?_))))))
 ·refine bD (lE aU (lE bN (lE bN (aN (aV (aI (nO (v:= .int .i64 (0)) (v':=Ix (eI s.ps x.owner x.a)) Tryz.results70 rfl rfl ?_)))))))
  intro w hw
  replace hw:=hw.perm (L':=[pt zb (.cells #[.map (some mp),.map (some mh),Ix (s.last),Ix (s.su.a0),Ix (s.su.a1),Ix (s.su.a2),Ix (s.su.a3),.map (some mm)] 88),bB cC mp (dQ s.ps x.owner x.a),bB bL mh s.hs,pt b1 (.cells #[Bx (x.kind),Ix (x.owner),Ix (x.other),Ix (x.hold),Ix (x.a.a0),Ix (x.a.a1),Ix (x.a.a2),Ix (x.a.a3)] 47)]) (by exact(aW [0,1,3,2] 4 rfl (by kernel_rfl) (by kernel_rfl)))
  exact jA (V:=(⟨(dQ s.ps x.owner x.a),s.hs,s.last,s.su⟩:KSt)) (show((⟨(dQ s.ps x.owner x.a),s.hs,s.last,s.su⟩:KSt),0,eI s.ps x.owner x.a)=kI s x by simp_all [kI]) (aG (L':=[pt zb (.cells #[.map (some mp),.map (some mh),Ix (s.last),Ix (s.su.a0),Ix (s.su.a1),Ix (s.su.a2),Ix (s.su.a3),.map (some mm)] 88),bB cC mp (dQ s.ps x.owner x.a),bB bL mh s.hs]) [true,true,true,false] rfl hw)
 refine eB (eR (aC (lE dS (lE eS (lE aY (lv (v:= .map (some mh)) (bI vQ.ok rfl (cD 0 rfl rfl)) ?_))))))
 refine lv (v:=Nx (s.hs.length)) (yS (K:=bL) (b:=mh) (ks:=s.hs) rfl rfl (bH.of_res 3 rfl (bB.mono _ _ _) fun _ h=>h)) (lE oge ?_)
 refine aN (cN _ rfl (fun hc3=> ?_) (fun hc3=> ?_))
 ·refine bD (lE bN (lE bN (aN (aV (aI (nO (v:= .int .i64 (0)) (v':= .int .i64 (5)) Tryz.results70 rfl rfl ?_))))))
  intro w hw
  replace hw:=hw.perm (L':=[pt zb (.cells #[.map (some mp),.map (some mh),Ix (s.last),Ix (s.su.a0),Ix (s.su.a1),Ix (s.su.a2),Ix (s.su.a3),.map (some mm)] 88),bB cC mp (dQ s.ps x.owner x.a),bB bL mh s.hs,pt b1 (.cells #[Bx (x.kind),Ix (x.owner),Ix (x.other),Ix (x.hold),Ix (x.a.a0),Ix (x.a.a1),Ix (x.a.a2),Ix (x.a.a3)] 47)]) (by exact(aW [0,1,3,2] 4 rfl (by kernel_rfl) (by kernel_rfl)))
  exact jA (V:=(⟨(dQ s.ps x.owner x.a),s.hs,s.last,s.su⟩:KSt)) (show((⟨(dQ s.ps x.owner x.a),s.hs,s.last,s.su⟩:KSt),0,5)=kI s x by simp_all [kI]) (aG (L':=[pt zb (.cells #[.map (some mp),.map (some mh),Ix (s.last),Ix (s.su.a0),Ix (s.su.a1),Ix (s.su.a2),Ix (s.su.a3),.map (some mm)] 88),bB cC mp (dQ s.ps x.owner x.a),bB bL mh s.hs]) [true,true,true,false] rfl hw)
 refine eB (bD (lE dS (lE eS (lE aY (lE (cY 0) (lE rF (lE eS (lE aY ?_))))))))
 refine lu (mS 0 (#[.map (some mp),.map (some mh),Ix ((s.last)+(1:Int)),Ix (s.su.a0),Ix (s.su.a1),Ix (s.su.a2),Ix (s.su.a3),.map (some mm)])) ?_
 refine aN (aL ?_)
 refine jS [sv 29 (pp zb 0) [] [] [0],sv 30 (pp zb 0) [0] [0] [],sv 31 (pp zb 1) [0,1] [1] [],sv 32 (.map (some mh)) [0,1,2] [2] [],sv 33 (pp zb 0) [] [] [0],sv 34 (pp zb 0) [4] [4] [],sv 35 (pp zb 2) [4,5] [5] [],sv 36 (Ix ((s.last)+(1:Int))) [4,5,6] [6] [],sv 37 (pp zb 0) [] [] [0],sv 38 (pp zb 0) [8] [8] [],sv 39 (pp zb 2) [8,9] [9] [],sv 40 (Ix ((s.last)+(1:Int))) [8,9,10] [10] [],sv 41 (pp b1 1) [] [] [1],sv 42 (Ix (x.owner)) [12] [12] [],sv 43 (pp b1 4) [] [] [1],sv 44 (.agg (eK x.a)) [14] [14] [],sv 45 (.agg #[Ix ((s.last)+(1:Int)),Ix (x.owner),Ix (x.a.a0),Ix (x.a.a1),Ix (x.a.a2),Ix (x.a.a3)]) [8,9,10,11,12,13,14,15] [11,13,15] [],⟨(List.range 17),[3,7,16],[],[],fun _=>True⟩] [u1 [3,7,11],u0,u1 [13,15],(some 17,[17])] [⟨(some 17),none,[],[],fun _=>bB bL mh (bL.put s.hs ((s.last)+(1:Int)) (⟨(s.last)+(1:Int),x.owner,x.a⟩:KHo))⟩] [(0,pp zb 0),(3,pp b1 0)] [0] ⟨rfl,rfl,trivial⟩ ⟨?_,?_,?_,?_,?_,?_,?_,?_,?_,?_,?_,?_,?_,?_,?_,?_,?_,?_,trivial⟩ ?_
 ·rintro f M-⟨i0,-⟩
  exact aT dS
 ·rintro f M ⟨k0,-⟩-
  exact aT eS
 ·rintro f M ⟨k0,-⟩-
  exact aT aY
 ·rintro f M ⟨k0,-⟩-
  exact vS (L':=pt zb (.cells #[.map (some mp),.map (some mh),Ix ((s.last)+(1:Int)),Ix (s.su.a0),Ix (s.su.a1),Ix (s.su.a2),Ix (s.su.a3),.map (some mm)] 88)::M) (aA (d:=31) rfl k0) rfl (bI vQ.ok rfl (cD 0 rfl rfl)) (aB 0 rfl) (by rfl)
 ·rintro f M-⟨i0,-⟩
  exact aT dS
 ·rintro f M ⟨k0,-⟩-
  exact aT eS
 ·rintro f M ⟨k0,-⟩-
  exact aT aY
 ·rintro f M ⟨k0,-⟩-
  exact aT (cY 0)
 ·rintro f M-⟨i0,-⟩
  exact aT dS
 ·rintro f M ⟨k0,-⟩-
  exact aT eS
 ·rintro f M ⟨k0,-⟩-
  exact aT aY
 ·rintro f M ⟨k0,-⟩-
  exact aT (cY 0)
 ·rintro f M-⟨i0,-⟩
  exact aT aY
 ·rintro f M ⟨k0,-⟩-
  exact aT (cY 0)
 ·rintro f M-⟨i0,-⟩
  exact aT aY
 ·rintro f M ⟨k0,-⟩-
  exact aT (dK 0)
 ·rintro f M ⟨k0,k1,k2,-⟩-
  exact gO (aA (d:=44) (aA (d:=42) (aA (d:=40) rfl k0) k1) k2) rfl (bV aUj.ok aYt (vs:=[(0,Ix ((s.last)+(1:Int))),(1,Ix (x.owner)),(2,.agg (eK x.a))]) (cells:= #[Ix ((s.last)+(1:Int)),Ix (x.owner),Ix (x.a.a0),Ix (x.a.a1),Ix (x.a.a2),Ix (x.a.a3)]) rfl rfl) (.refl _)
 ·rintro f M ⟨k0,k1,k2,-⟩-
  refine dL (aA (d:=45) (aA (d:=36) (aA (d:=32) rfl k0) k1) k2) ?_
  refine lu (rM (K:=bL) (b:=mh) (ks:=s.hs) (k:=((s.last)+(1:Int))) (v:=(⟨(s.last)+(1:Int),x.owner,x.a⟩:KHo)) 0 rfl rfl rfl rfl rfl) ?_
  refine aH ?_
  exact bC (aA (d:=45) (aA (d:=36) (aA (d:=32) rfl k0) k1) k2) trivial (aB 0 rfl)
 rintro fa4 ⟨-,-,-,-,-,-,-,-,-,-,-,-,-,-,-,-,-,-,-⟩ ⟨j0,-⟩
 refine jD ?_
 refine aD (d:=0) j0 (kM (lE dS (lE eS (lE aY (lE (cY 0) (lE bN (lE bN (aN (aV ?_)))))))))
 refine nO (v:=Ix ((s.last)+(1:Int))) (v':= .int .i64 (0)) Tryz.results70 rfl rfl ?_
 intro w hw
 replace hw:=hw.perm (L':=[pt zb (.cells #[.map (some mp),.map (some mh),Ix ((s.last)+(1:Int)),Ix (s.su.a0),Ix (s.su.a1),Ix (s.su.a2),Ix (s.su.a3),.map (some mm)] 88),bB cC mp (dQ s.ps x.owner x.a),bB bL mh (bL.put s.hs ((s.last)+(1:Int)) (⟨(s.last)+(1:Int),x.owner,x.a⟩:KHo)),pt b1 (.cells #[Bx (x.kind),Ix (x.owner),Ix (x.other),Ix (x.hold),Ix (x.a.a0),Ix (x.a.a1),Ix (x.a.a2),Ix (x.a.a3)] 47)]) (by exact(aW [0,1,3,2] 4 rfl (by kernel_rfl) (by kernel_rfl)))
 exact jA (V:=(⟨(dQ s.ps x.owner x.a),(bL.put s.hs ((s.last)+(1:Int)) (⟨(s.last)+(1:Int),x.owner,x.a⟩:KHo)),(s.last)+(1:Int),s.su⟩:KSt)) (show((⟨(dQ s.ps x.owner x.a),(bL.put s.hs ((s.last)+(1:Int)) (⟨(s.last)+(1:Int),x.owner,x.a⟩:KHo)),(s.last)+(1:Int),s.su⟩:KSt),(s.last)+(1:Int),0)=kI s x by simp_all [kI]) (aG (L':=[pt zb (.cells #[.map (some mp),.map (some mh),Ix ((s.last)+(1:Int)),Ix (s.su.a0),Ix (s.su.a1),Ix (s.su.a2),Ix (s.su.a3),.map (some mm)] 88),bB cC mp (dQ s.ps x.owner x.a),bB bL mh (bL.put s.hs ((s.last)+(1:Int)) (⟨(s.last)+(1:Int),x.owner,x.a⟩:KHo))]) [true,true,true,false] rfl hw)
theorem aSo(β:Base)(w:World)(zb mp mh mm:Nat)(s:KSt)(hw:St β [pt zb (.cells (vO mp mh mm s.last s.su) 88),bB cC mp s.ps,bB bL mh s.hs] w)(hP:okP s.ps)(hH:okH s.hs)(hsu:s.su.bd 4611686018427387903)(hla: -4611686018427387903≤s.last∧s.last≤4611686018427387903)(x:KAct)(hxa:x.a.bd 4611686018427387903):Calls Tryz.prog 72 #[pp zb 0,.agg #[Bx (x.kind),Ix (x.owner),Ix (x.other),Ix (x.hold),Ix (x.a.a0),Ix (x.a.a1),Ix (x.a.a2),Ix (x.a.a3)]] w fun r w'=>r= .returned (.tuple #[Ix (eD s x.hold x.other).2.1,Ix (eD s x.hold x.other).2.2])∧St β [pt zb (.cells (vO mp mh mm (eD s x.hold x.other).1.last (eD s x.hold x.other).1.su) 88),bB cC mp (eD s x.hold x.other).1.ps,bB bL mh (eD s x.hold x.other).1.hs] w':=by
 refine enter (n:=32) Tryz.func72 rfl Tryz.ntmps72 rfl ?_ hw
 refine bD (mL fun b1=> ?_)
 refine lE bN (lE bN (aN (aL ?_)))
 refine jS [sv 9 (pp zb 0) [] [] [0],sv 10 (pp zb 0) [0] [0] [],sv 11 (pp zb 1) [0,1] [1] [],sv 12 (.map (some mh)) [0,1,2] [2] [],sv 13 (pp b1 3) [] [] [1],sv 14 (Ix (x.hold)) [4] [4] [],sv 15 (.tuple #[.agg #[Ix (((bL.look s.hs (x.hold)).getD bE).number),Ix (((bL.look s.hs (x.hold)).getD bE).owner),Ix (((bL.look s.hs (x.hold)).getD bE).a.a0),Ix (((bL.look s.hs (x.hold)).getD bE).a.a1),Ix (((bL.look s.hs (x.hold)).getD bE).a.a2),Ix (((bL.look s.hs (x.hold)).getD bE).a.a3)],.bool ((bL.look s.hs (x.hold)).isSome)]) (List.range 6) [3,5] [],sv 8 (.tuple #[.agg #[Ix (((bL.look s.hs (x.hold)).getD bE).number),Ix (((bL.look s.hs (x.hold)).getD bE).owner),Ix (((bL.look s.hs (x.hold)).getD bE).a.a0),Ix (((bL.look s.hs (x.hold)).getD bE).a.a1),Ix (((bL.look s.hs (x.hold)).getD bE).a.a2),Ix (((bL.look s.hs (x.hold)).getD bE).a.a3)],.bool ((bL.look s.hs (x.hold)).isSome)]) (List.range 7) [6] [],sv 16 (.agg #[Ix (((bL.look s.hs (x.hold)).getD bE).number),Ix (((bL.look s.hs (x.hold)).getD bE).owner),Ix (((bL.look s.hs (x.hold)).getD bE).a.a0),Ix (((bL.look s.hs (x.hold)).getD bE).a.a1),Ix (((bL.look s.hs (x.hold)).getD bE).a.a2),Ix (((bL.look s.hs (x.hold)).getD bE).a.a3)]) (List.range 8) [7] [],sv 17 (.bool ((bL.look s.hs (x.hold)).isSome)) (List.range 8) [7] [],⟨[],[],[],[6],fun f=>f 6= .pointer (some ⟨(bY (f 6)),0,none⟩)⟩,⟨[0,1,2,3,4,5,6,7,8,10],[10,8],[],[],fun _=>True⟩,sv 7 (.bool ((bL.look s.hs (x.hold)).isSome)) (List.range 12) [9] []] [u1 [5],u1 [3],u0,u1 [6]] [⟨(some 10),(some 11),[11],[6],fun f=>pt (bY (f 6)) (.cells #[.int .i64 (0),.int .i64 (0),.int .i64 (0),.int .i64 (0),.int .i64 (0),.int .i64 (0)] 104)⟩,⟨(some 11),none,[],[6],fun f=>pt (bY (f 6)) (.cells #[Ix (((bL.look s.hs (x.hold)).getD bE).number),Ix (((bL.look s.hs (x.hold)).getD bE).owner),Ix (((bL.look s.hs (x.hold)).getD bE).a.a0),Ix (((bL.look s.hs (x.hold)).getD bE).a.a1),Ix (((bL.look s.hs (x.hold)).getD bE).a.a2),Ix (((bL.look s.hs (x.hold)).getD bE).a.a3)] 104)⟩] [(0,pp zb 0),(3,pp b1 0)] [0,1] ⟨rfl,rfl,trivial⟩ ⟨?_,?_,?_,?_,?_,?_,?_,?_,?_,?_,?_,?_,?_,trivial⟩ ?_
 ·rintro f M-⟨i0,-⟩
  exact aT dS
 ·rintro f M ⟨k0,-⟩-
  exact aT eS
 ·rintro f M ⟨k0,-⟩-
  exact aT aY
 ·rintro f M ⟨k0,-⟩-
  exact vS (L':=pt zb (.cells #[.map (some mp),.map (some mh),Ix (s.last),Ix (s.su.a0),Ix (s.su.a1),Ix (s.su.a2),Ix (s.su.a3),.map (some mm)] 88)::M) (aA (d:=11) rfl k0) rfl (bI vQ.ok rfl (cD 0 rfl rfl)) (aB 0 rfl) (by rfl)
 ·rintro f M-⟨i0,-⟩
  exact aT aY
 ·rintro f M ⟨k0,-⟩-
  exact aT (cY 0)
 ·rintro f M ⟨k0,k1,-⟩-
  exact vS (L':=bB bL mh s.hs::M) (aA (d:=14) (aA (d:=12) rfl k0) k1) rfl (xS (K:=bL) (b:=mh) (ks:=s.hs) (k:=(x.hold)) rfl rfl rfl (bH.of_res 0 rfl (bB.mono _ _ _) fun _ h=>h)) (aB 0 rfl) (by rfl)
 ·rintro f M ⟨k0,-⟩-
  exact aT oM
 ·rintro f M ⟨k0,-⟩-
  exact aT rG
 ·rintro f M ⟨k0,-⟩-
  exact aT yA
 ·rintro f M- -
  refine dL rfl ?_
  refine gB fun b3=>aH ?_
  exact aO rfl rfl (aB 0 rfl)
 ·rintro f M ⟨k0,k1,-⟩-
  have hs6:f 6= .pointer (some ⟨(bY (f 6)),0,none⟩):=k0
  refine dL (aA (d:=16) (aA rfl hs6) k1) ?_
  refine lu (mS 0 (#[Ix (((bL.look s.hs (x.hold)).getD bE).number),Ix (((bL.look s.hs (x.hold)).getD bE).owner),Ix (((bL.look s.hs (x.hold)).getD bE).a.a0),Ix (((bL.look s.hs (x.hold)).getD bE).a.a1),Ix (((bL.look s.hs (x.hold)).getD bE).a.a2),Ix (((bL.look s.hs (x.hold)).getD bE).a.a3)])) ?_
  refine aH ?_
  exact bC (aA (d:=16) (aA rfl hs6) k1) trivial (aB 0 rfl)
 ·rintro f M ⟨k0,-⟩-
  exact aT dP
 rintro fa4 ⟨-,-,-,-,-,-,-,-,-,-,k10,-,k12,-⟩ ⟨j0,j1,-⟩
 refine jD ?_
 refine aD (d:=0) j0 (aD (d:=3) j1 (aD (d:=6) k10 (aD (d:=7) k12 (qV (bD (lE fM (lE mB (aN ?_))))))))
 refine fH (!((bL.look s.hs (x.hold)).isSome)) rfl (fun hc5=> ?_) (fun hc5=> ?_)
 ·refine bD (lE bN (lE bN (aN (aV (aI (nO (v:= .int .i64 (0)) (v':= .int .i64 (6)) Tryz.results72 rfl rfl ?_))))))
  intro w hw
  replace hw:=hw.perm (L':=[pt zb (.cells #[.map (some mp),.map (some mh),Ix (s.last),Ix (s.su.a0),Ix (s.su.a1),Ix (s.su.a2),Ix (s.su.a3),.map (some mm)] 88),bB cC mp s.ps,bB bL mh s.hs,pt b1 (.cells #[Bx (x.kind),Ix (x.owner),Ix (x.other),Ix (x.hold),Ix (x.a.a0),Ix (x.a.a1),Ix (x.a.a2),Ix (x.a.a3)] 47),pt (bY (fa4 6)) (.cells #[Ix (((bL.look s.hs (x.hold)).getD bE).number),Ix (((bL.look s.hs (x.hold)).getD bE).owner),Ix (((bL.look s.hs (x.hold)).getD bE).a.a0),Ix (((bL.look s.hs (x.hold)).getD bE).a.a1),Ix (((bL.look s.hs (x.hold)).getD bE).a.a2),Ix (((bL.look s.hs (x.hold)).getD bE).a.a3)] 104)]) (by exact(aW [1,2,3,0,4] 5 rfl (by kernel_rfl) (by kernel_rfl)))
  exact jA (V:=(⟨s.ps,s.hs,s.last,s.su⟩:KSt)) (show((⟨s.ps,s.hs,s.last,s.su⟩:KSt),0,6)=eD s x.hold x.other by simp_all [eD,mM]) (aG (L':=[pt zb (.cells #[.map (some mp),.map (some mh),Ix (s.last),Ix (s.su.a0),Ix (s.su.a1),Ix (s.su.a2),Ix (s.su.a3),.map (some mm)] 88),bB cC mp s.ps,bB bL mh s.hs]) [true,true,true,false,false] rfl hw)
 refine eB (aL ?_)
 refine jS [sv 20 (pp zb 0) [] [] [0],sv 21 (pp zb 0) [0] [0] [],sv 22 (pp zb 1) [0,1] [1] [],sv 23 (.map (some mh)) [0,1,2] [2] [],sv 24 (pp b1 3) [] [] [1],sv 25 (Ix (x.hold)) [4] [4] [],⟨(List.range 6),[3,5],[],[],fun _=>True⟩] [u1 [5],u1 [3],u0,(some 6,[6])] [⟨(some 6),none,[],[],fun _=>bB bL mh (bL.del s.hs (x.hold))⟩] [(0,pp zb 0),(3,pp b1 0),(6,.pointer (some ⟨(bY (fa4 6)),0,none⟩))] [0,1,2] ⟨rfl,rfl,rfl,trivial⟩ ⟨?_,?_,?_,?_,?_,?_,?_,trivial⟩ ?_
 ·rintro f M-⟨i0,-⟩
  exact aT dS
 ·rintro f M ⟨k0,-⟩-
  exact aT eS
 ·rintro f M ⟨k0,-⟩-
  exact aT aY
 ·rintro f M ⟨k0,-⟩-
  exact vS (L':=pt zb (.cells #[.map (some mp),.map (some mh),Ix (s.last),Ix (s.su.a0),Ix (s.su.a1),Ix (s.su.a2),Ix (s.su.a3),.map (some mm)] 88)::M) (aA (d:=22) rfl k0) rfl (bI vQ.ok rfl (cD 0 rfl rfl)) (aB 0 rfl) (by rfl)
 ·rintro f M-⟨i0,-⟩
  exact aT aY
 ·rintro f M ⟨k0,-⟩-
  exact aT (cY 0)
 ·rintro f M ⟨k0,k1,-⟩-
  refine dL (aA (d:=25) (aA (d:=23) rfl k0) k1) ?_
  refine bEv rfl rfl (aRt (K:=bL) (b:=mh) (ks:=s.hs) (k:=(x.hold)) 0 rfl rfl rfl rfl) ?_
  rintro _ _ ⟨rfl,rfl⟩
  refine aH ?_
  exact bC (aA (d:=25) (aA (d:=23) rfl k0) k1) trivial (aB 0 rfl)
 rintro fa6 ⟨-,-,-,-,-,-,-,-⟩ ⟨j0,j1,j2,-⟩
 refine jD ?_
 refine aD (d:=0) j0 (aD (d:=3) j1 (aD (d:=6) j2 (kM (lE dS (lE aY (lE (cY 0) (lE aY (lE (dK 3) ?_))))))))
 refine aX rfl rfl rfl (cT (vs:=[pp zb 0,Ix (x.other),.agg #[Ix (((bL.look s.hs (x.hold)).getD bE).a.a0),Ix (((bL.look s.hs (x.hold)).getD bE).a.a1),Ix (((bL.look s.hs (x.hold)).getD bE).a.a2),Ix (((bL.look s.hs (x.hold)).getD bE).a.a3)]]) bDa.ok rfl rfl) ?_
 intro w hw
 replace hw:=hw.perm (L':=_::_::_::_::_::[]) (by exact(((((aB 4 rfl).trans (aB 4 rfl)).trans (aB 2 rfl)).trans (aB 4 rfl)).trans (aB 4 rfl)))
 obtain⟨β1,sb,kn,hw1,back⟩:=St.frame (L:=[_,_]) (M:=_::_::_::[]) hw
 refine(aHs β1 w zb mp mh mm s.last s.su s.ps hw1 x.other (((bL.look s.hs (x.hold)).getD bE).a) _ rfl (tO hP _) (bCk hH _)).mono ?_
 rintro e w' ⟨rfl,hw'⟩
 refine⟨_,rfl,_,back _ _ hw',?_⟩
 refine lE bN (lE bN (aN (aV ?_)))
 refine nO (v:= .int .i64 (0)) (v':=Ix (hO s.ps x.other (((bL.look s.hs (x.hold)).getD bE).a))) Tryz.results72 rfl rfl ?_
 intro w hw
 replace hw:=hw.perm (L':=[pt zb (.cells #[.map (some mp),.map (some mh),Ix (s.last),Ix (s.su.a0),Ix (s.su.a1),Ix (s.su.a2),Ix (s.su.a3),.map (some mm)] 88),bB cC mp (iI s.ps x.other (((bL.look s.hs (x.hold)).getD bE).a)),bB bL mh (bL.del s.hs (x.hold)),pt b1 (.cells #[Bx (x.kind),Ix (x.owner),Ix (x.other),Ix (x.hold),Ix (x.a.a0),Ix (x.a.a1),Ix (x.a.a2),Ix (x.a.a3)] 47),pt (bY (fa4 6)) (.cells #[Ix (((bL.look s.hs (x.hold)).getD bE).number),Ix (((bL.look s.hs (x.hold)).getD bE).owner),Ix (((bL.look s.hs (x.hold)).getD bE).a.a0),Ix (((bL.look s.hs (x.hold)).getD bE).a.a1),Ix (((bL.look s.hs (x.hold)).getD bE).a.a2),Ix (((bL.look s.hs (x.hold)).getD bE).a.a3)] 104)]) (by exact(aW [0,1,4,2,3] 5 rfl (by kernel_rfl) (by kernel_rfl)))
 exact jA (V:=(⟨(iI s.ps x.other (((bL.look s.hs (x.hold)).getD bE).a)),(bL.del s.hs (x.hold)),s.last,s.su⟩:KSt)) (show((⟨(iI s.ps x.other (((bL.look s.hs (x.hold)).getD bE).a)),(bL.del s.hs (x.hold)),s.last,s.su⟩:KSt),0,hO s.ps x.other (((bL.look s.hs (x.hold)).getD bE).a))=eD s x.hold x.other by simp_all [eD,mM]) (aG (L':=[pt zb (.cells #[.map (some mp),.map (some mh),Ix (s.last),Ix (s.su.a0),Ix (s.su.a1),Ix (s.su.a2),Ix (s.su.a3),.map (some mm)] 88),bB cC mp (iI s.ps x.other (((bL.look s.hs (x.hold)).getD bE).a)),bB bL mh (bL.del s.hs (x.hold))]) [true,true,true,false,false] rfl hw)
theorem aWi(β:Base)(w:World)(zb mp mh mm:Nat)(s:KSt)(hw:St β [pt zb (.cells (vO mp mh mm s.last s.su) 88),bB cC mp s.ps,bB bL mh s.hs] w)(hP:okP s.ps)(hH:okH s.hs)(hsu:s.su.bd 4611686018427387903)(hla: -4611686018427387903≤s.last∧s.last≤4611686018427387903)(x:KAct)(hxa:x.a.bd 4611686018427387903):Calls Tryz.prog 71 #[pp zb 0,.agg #[Bx (x.kind),Ix (x.owner),Ix (x.other),Ix (x.hold),Ix (x.a.a0),Ix (x.a.a1),Ix (x.a.a2),Ix (x.a.a3)]] w fun r w'=>r= .returned (.tuple #[Ix (eD s x.hold (mM s.hs x.hold).owner).2.1,Ix (eD s x.hold (mM s.hs x.hold).owner).2.2])∧St β [pt zb (.cells (vO mp mh mm (eD s x.hold (mM s.hs x.hold).owner).1.last (eD s x.hold (mM s.hs x.hold).owner).1.su) 88),bB cC mp (eD s x.hold (mM s.hs x.hold).owner).1.ps,bB bL mh (eD s x.hold (mM s.hs x.hold).owner).1.hs] w':=by
 refine enter (n:=21) Tryz.func71 rfl Tryz.ntmps71 rfl ?_ hw
 refine bD (mL fun b1=> ?_)
 refine lE bN (lE bN (aN (aL ?_)))
 refine jS [sv 6 (pp zb 0) [] [] [0],sv 7 (pp b1 3) [] [] [1],sv 8 (Ix (x.hold)) [1] [1] [],sv 9 (pp zb 0) [] [] [0],sv 10 (pp zb 0) [3] [3] [],sv 11 (pp zb 1) [3,4] [4] [],sv 12 (.map (some mh)) [3,4,5] [5] [],sv 13 (pp b1 3) [] [] [1],sv 14 (Ix (x.hold)) [7] [7] [],sv 15 (.agg #[Ix (((bL.look s.hs (x.hold)).getD bE).number),Ix (((bL.look s.hs (x.hold)).getD bE).owner),Ix (((bL.look s.hs (x.hold)).getD bE).a.a0),Ix (((bL.look s.hs (x.hold)).getD bE).a.a1),Ix (((bL.look s.hs (x.hold)).getD bE).a.a2),Ix (((bL.look s.hs (x.hold)).getD bE).a.a3)]) [3,4,5,6,7,8] [6,8] [],sv 16 (Ix (((bL.look s.hs (x.hold)).getD bE).owner)) [3,4,5,6,7,8,9] [9] [],sv 17 (.agg #[.int .u8 (0),.int .i64 (0),Ix (((bL.look s.hs (x.hold)).getD bE).owner),Ix (x.hold),.int .i64 (0),.int .i64 (0),.int .i64 (0),.int .i64 (0)]) [1,2,3,4,5,6,7,8,9,10] [2,10] [],sv 18 (.tuple #[Ix ((eD s x.hold (((bL.look s.hs (x.hold)).getD bE).owner)).2.1),Ix ((eD s x.hold (((bL.look s.hs (x.hold)).getD bE).owner)).2.2)]) (List.range 12) [0,11] [],sv 19 (Ix ((eD s x.hold (((bL.look s.hs (x.hold)).getD bE).owner)).2.1)) (List.range 13) [12] [],sv 20 (Ix ((eD s x.hold (((bL.look s.hs (x.hold)).getD bE).owner)).2.2)) (List.range 13) [12] [],sv 4 (Ix ((eD s x.hold (((bL.look s.hs (x.hold)).getD bE).owner)).2.1)) (List.range 15) [13] [],sv 5 (Ix ((eD s x.hold (((bL.look s.hs (x.hold)).getD bE).owner)).2.2)) (List.range 16) [14] []] [u1 [2,8],(some 12,[6,12]),(some 12,[12]),(some 12,[9,12])] [⟨(some 12),none,[],[],fun _=>pt zb (.cells #[.map (some mp),.map (some mh),Ix ((eD s x.hold (((bL.look s.hs (x.hold)).getD bE).owner)).1.last),Ix ((eD s x.hold (((bL.look s.hs (x.hold)).getD bE).owner)).1.su.a0),Ix ((eD s x.hold (((bL.look s.hs (x.hold)).getD bE).owner)).1.su.a1),Ix ((eD s x.hold (((bL.look s.hs (x.hold)).getD bE).owner)).1.su.a2),Ix ((eD s x.hold (((bL.look s.hs (x.hold)).getD bE).owner)).1.su.a3),.map (some mm)] 88)⟩,⟨(some 12),none,[],[],fun _=>bB cC mp ((eD s x.hold (((bL.look s.hs (x.hold)).getD bE).owner)).1.ps)⟩,⟨(some 12),none,[],[],fun _=>bB bL mh ((eD s x.hold (((bL.look s.hs (x.hold)).getD bE).owner)).1.hs)⟩] [(0,pp zb 0),(3,pp b1 0)] [] ⟨rfl,rfl,trivial⟩ ⟨?_,?_,?_,?_,?_,?_,?_,?_,?_,?_,?_,?_,?_,?_,?_,?_,?_,trivial⟩ ?_
 ·rintro f M-⟨i0,-⟩
  exact aT dS
 ·rintro f M-⟨i0,-⟩
  exact aT aY
 ·rintro f M ⟨k0,-⟩-
  exact aT (cY 0)
 ·rintro f M-⟨i0,-⟩
  exact aT dS
 ·rintro f M ⟨k0,-⟩-
  exact aT eS
 ·rintro f M ⟨k0,-⟩-
  exact aT aY
 ·rintro f M ⟨k0,-⟩-
  exact vS (L':=pt zb (.cells #[.map (some mp),.map (some mh),Ix (s.last),Ix (s.su.a0),Ix (s.su.a1),Ix (s.su.a2),Ix (s.su.a3),.map (some mm)] 88)::M) (aA (d:=11) rfl k0) rfl (bI vQ.ok rfl (cD 0 rfl rfl)) (aB 0 rfl) (by rfl)
 ·rintro f M-⟨i0,-⟩
  exact aT aY
 ·rintro f M ⟨k0,-⟩-
  exact aT (cY 0)
 ·rintro f M ⟨k0,k1,-⟩-
  exact vS (L':=bB bL mh s.hs::M) (aA (d:=14) (aA (d:=12) rfl k0) k1) rfl (lL (K:=bL) (b:=mh) (ks:=s.hs) (k:=(x.hold)) rfl rfl rfl (bH.of_res 0 rfl (bB.mono _ _ _) fun _ h=>h)) (aB 0 rfl) (by rfl)
 ·rintro f M ⟨k0,-⟩-
  exact gO (aA (d:=15) rfl k0) rfl (aQj (cs:= #[Ix (((bL.look s.hs (x.hold)).getD bE).number),Ix (((bL.look s.hs (x.hold)).getD bE).owner),Ix (((bL.look s.hs (x.hold)).getD bE).a.a0),Ix (((bL.look s.hs (x.hold)).getD bE).a.a1),Ix (((bL.look s.hs (x.hold)).getD bE).a.a2),Ix (((bL.look s.hs (x.hold)).getD bE).a.a3)]) rfl bJf.ok rfl) (.refl _)
 ·rintro f M ⟨k0,k1,-⟩-
  exact gO (aA (d:=16) (aA (d:=8) rfl k0) k1) rfl (bV aHh.ok bDc (vs:=[(3,Ix (x.hold)),(2,Ix (((bL.look s.hs (x.hold)).getD bE).owner))]) (cells:= #[.int .u8 (0),.int .i64 (0),Ix (((bL.look s.hs (x.hold)).getD bE).owner),Ix (x.hold),.int .i64 (0),.int .i64 (0),.int .i64 (0),.int .i64 (0)]) rfl rfl) (.refl _)
 ·rintro f M ⟨k0,k1,-⟩-
  refine dL (aA (d:=17) (aA (d:=6) rfl k0) k1) ?_
  refine aX rfl rfl rfl (cT (vs:=[pp zb 0,.agg #[.int .u8 (0),.int .i64 (0),Ix (((bL.look s.hs (x.hold)).getD bE).owner),Ix (x.hold),.int .i64 (0),.int .i64 (0),.int .i64 (0),.int .i64 (0)]]) bJg.ok rfl rfl) ?_
  intro w hw
  obtain⟨β1,sb,kn,hw1,back⟩:=St.frame (L:=[_,_,_]) (M:=M) hw
  refine(aSo β1 w zb mp mh mm s hw1 hP hH hsu hla (⟨0,0,((bL.look s.hs (x.hold)).getD bE).owner,x.hold,zeroA⟩:KAct) aZk).mono ?_
  rintro e w' ⟨rfl,hw'⟩
  refine⟨_,rfl,_,back _ _ hw',?_⟩
  refine aH ?_
  exact aO (aA (d:=17) (aA (d:=6) rfl k0) k1) rfl (((aB 2 rfl).trans (aB 2 rfl)).trans (aB 2 rfl))
 ·rintro f M ⟨k0,-⟩-
  exact aT pW
 ·rintro f M ⟨k0,-⟩-
  exact aT pW
 ·rintro f M ⟨k0,-⟩-
  exact aT bN
 ·rintro f M ⟨k0,-⟩-
  exact aT bN
 rintro fa2 ⟨-,-,-,-,-,-,-,-,-,-,-,-,-,-,-,k15,k16,-⟩-
 refine jD ?_
 refine aD (d:=4) k15 (aD (d:=5) k16 (ftr ?_))
 refine nO (v:=Ix ((eD s x.hold (((bL.look s.hs (x.hold)).getD bE).owner)).2.1)) (v':=Ix ((eD s x.hold (((bL.look s.hs (x.hold)).getD bE).owner)).2.2)) Tryz.results71 rfl rfl ?_
 intro w hw
 replace hw:=hw.perm (L':=[pt zb (.cells #[.map (some mp),.map (some mh),Ix ((eD s x.hold (((bL.look s.hs (x.hold)).getD bE).owner)).1.last),Ix ((eD s x.hold (((bL.look s.hs (x.hold)).getD bE).owner)).1.su.a0),Ix ((eD s x.hold (((bL.look s.hs (x.hold)).getD bE).owner)).1.su.a1),Ix ((eD s x.hold (((bL.look s.hs (x.hold)).getD bE).owner)).1.su.a2),Ix ((eD s x.hold (((bL.look s.hs (x.hold)).getD bE).owner)).1.su.a3),.map (some mm)] 88),bB cC mp ((eD s x.hold (((bL.look s.hs (x.hold)).getD bE).owner)).1.ps),bB bL mh ((eD s x.hold (((bL.look s.hs (x.hold)).getD bE).owner)).1.hs),pt b1 (.cells #[Bx (x.kind),Ix (x.owner),Ix (x.other),Ix (x.hold),Ix (x.a.a0),Ix (x.a.a1),Ix (x.a.a2),Ix (x.a.a3)] 47)]) (by exact(aW [1,2,3,0] 4 rfl (by kernel_rfl) (by kernel_rfl)))
 exact jA (V:=(⟨(eD s x.hold (((bL.look s.hs (x.hold)).getD bE).owner)).1.ps,(eD s x.hold (((bL.look s.hs (x.hold)).getD bE).owner)).1.hs,(eD s x.hold (((bL.look s.hs (x.hold)).getD bE).owner)).1.last,(eD s x.hold (((bL.look s.hs (x.hold)).getD bE).owner)).1.su⟩:KSt)) (show((⟨(eD s x.hold (((bL.look s.hs (x.hold)).getD bE).owner)).1.ps,(eD s x.hold (((bL.look s.hs (x.hold)).getD bE).owner)).1.hs,(eD s x.hold (((bL.look s.hs (x.hold)).getD bE).owner)).1.last,(eD s x.hold (((bL.look s.hs (x.hold)).getD bE).owner)).1.su⟩:KSt),(eD s x.hold (((bL.look s.hs (x.hold)).getD bE).owner)).2.1,(eD s x.hold (((bL.look s.hs (x.hold)).getD bE).owner)).2.2)=eD s x.hold (mM s.hs x.hold).owner by rfl) (aG (L':=[pt zb (.cells #[.map (some mp),.map (some mh),Ix ((eD s x.hold (((bL.look s.hs (x.hold)).getD bE).owner)).1.last),Ix ((eD s x.hold (((bL.look s.hs (x.hold)).getD bE).owner)).1.su.a0),Ix ((eD s x.hold (((bL.look s.hs (x.hold)).getD bE).owner)).1.su.a1),Ix ((eD s x.hold (((bL.look s.hs (x.hold)).getD bE).owner)).1.su.a2),Ix ((eD s x.hold (((bL.look s.hs (x.hold)).getD bE).owner)).1.su.a3),.map (some mm)] 88),bB cC mp ((eD s x.hold (((bL.look s.hs (x.hold)).getD bE).owner)).1.ps),bB bL mh ((eD s x.hold (((bL.look s.hs (x.hold)).getD bE).owner)).1.hs)]) [true,true,true,false] rfl hw)
theorem aXg(β:Base)(w:World)(zb mp mh mm:Nat)(s:KSt)(hw:St β [pt zb (.cells (vO mp mh mm s.last s.su) 88),bB cC mp s.ps,bB bL mh s.hs] w)(hP:okP s.ps)(hH:okH s.hs)(hsu:s.su.bd 4611686018427387903)(hla: -4611686018427387903≤s.last∧s.last≤4611686018427387903)(x:KAct)(hxa:x.a.bd 4611686018427387903):Calls Tryz.prog 73 #[pp zb 0,.agg #[Bx (x.kind),Ix (x.owner),Ix (x.other),Ix (x.hold),Ix (x.a.a0),Ix (x.a.a1),Ix (x.a.a2),Ix (x.a.a3)]] w fun r w'=>r= .returned (.tuple #[Ix (nC s x).2.1,Ix (nC s x).2.2])∧St β [pt zb (.cells (vO mp mh mm (nC s x).1.last (nC s x).1.su) 88),bB cC mp (nC s x).1.ps,bB bL mh (nC s x).1.hs] w':=by
 refine enter (n:=18) Tryz.func73 rfl Tryz.ntmps73 rfl ?_ hw
 refine bD (mL fun b1=> ?_)
 refine lE bN (lE bN (aN (eR (gS (by kernel_rfl) (by kernel_rfl) (qE dS (qE eS (qE aY ?_)))))))
 refine dU (v:= .map (some mp)) rfl rfl rfl (bI rZ.ok rfl (cD 1 rfl rfl)) (qE aY (qE (cY 0) ?_))
 refine dU (v:= .agg (eK ((cC.look s.ps (x.owner)).getD zeroA))) rfl rfl rfl (lL (K:=cC) (b:=mp) (ks:=s.ps) (k:=(x.owner)) rfl rfl rfl (bH.of_res 2 rfl (bB.mono _ _ _) fun _ h=>h)) ?_
 refine qE aY (qE (dK 0) ?_)
 refine lH (v:= .agg #[Ix ((((cC.look s.ps (x.owner)).getD zeroA).plus x.a (-1)).a0),Ix ((((cC.look s.ps (x.owner)).getD zeroA).plus x.a (-1)).a1),Ix ((((cC.look s.ps (x.owner)).getD zeroA).plus x.a (-1)).a2),Ix ((((cC.look s.ps (x.owner)).getD zeroA).plus x.a (-1)).a3)]) rfl rfl rfl (cT (vs:=[.agg (eK ((cC.look s.ps (x.owner)).getD zeroA)),.agg (eK x.a),.int .i64 (-1)]) bJe.ok rfl rfl) (fun w hw=> ?_) ?_
 ·obtain⟨β1,sb,kn,hw1,back⟩:=St.frame_all hw
  exact(vA β1 w hw1 ((cC.look s.ps (x.owner)).getD zeroA) x.a (-1) (by decide) (tO hP _) hxa).mono (fun e w' ⟨he,hw'⟩=>⟨he,aG [true,true,true,true] rfl (back _ _ hw')⟩)
 refine lH (v:= .bool ((((cC.look s.ps (x.owner)).getD zeroA).plus x.a (-1)).within)) rfl rfl rfl (cT (vs:=[.agg #[Ix ((((cC.look s.ps (x.owner)).getD zeroA).plus x.a (-1)).a0),Ix ((((cC.look s.ps (x.owner)).getD zeroA).plus x.a (-1)).a1),Ix ((((cC.look s.ps (x.owner)).getD zeroA).plus x.a (-1)).a2),Ix ((((cC.look s.ps (x.owner)).getD zeroA).plus x.a (-1)).a3)]]) bCz.ok rfl rfl) (fun w hw=> ?_) ?_
 ·obtain⟨β1,sb,kn,hw1,back⟩:=St.frame_all hw
  exact(pQ β1 w hw1 (((cC.look s.ps (x.owner)).getD zeroA).plus x.a (-1))).mono (fun e w' ⟨he,hw'⟩=>⟨he,aG [true,true,true,true] rfl (back _ _ hw')⟩)
 refine qE mB (lB (bA (fH (!((((cC.look s.ps (x.owner)).getD zeroA).plus x.a (-1)).within)) rfl (fun hc2=> ?_) (fun hc2=> ?_))))
 ·refine bD (lE bN (lE bN (aN (aV (aI (nO (v:= .int .i64 (0)) (v':= .int .i64 (330)) Tryz.results73 rfl rfl ?_))))))
  intro w hw
  replace hw:=hw.perm (L':=[pt zb (.cells #[.map (some mp),.map (some mh),Ix (s.last),Ix (s.su.a0),Ix (s.su.a1),Ix (s.su.a2),Ix (s.su.a3),.map (some mm)] 88),bB cC mp s.ps,bB bL mh s.hs,pt b1 (.cells #[Bx (x.kind),Ix (x.owner),Ix (x.other),Ix (x.hold),Ix (x.a.a0),Ix (x.a.a1),Ix (x.a.a2),Ix (x.a.a3)] 47)]) (by exact(aW [1,2,3,0] 4 rfl (by kernel_rfl) (by kernel_rfl)))
  exact jA (V:=(⟨s.ps,s.hs,s.last,s.su⟩:KSt)) (show((⟨s.ps,s.hs,s.last,s.su⟩:KSt),0,330)=nC s x by simp_all [nC,eI,iW,iS]) (aG (L':=[pt zb (.cells #[.map (some mp),.map (some mh),Ix (s.last),Ix (s.su.a0),Ix (s.su.a1),Ix (s.su.a2),Ix (s.su.a3),.map (some mm)] 88),bB cC mp s.ps,bB bL mh s.hs]) [true,true,true,false] rfl hw)
 refine eB (bD (lE bN (lE bN (aN (aV (nO (v:= .int .i64 (0)) (v':= .int .i64 (0)) Tryz.results73 rfl rfl ?_))))))
 intro w hw
 replace hw:=hw.perm (L':=[pt zb (.cells #[.map (some mp),.map (some mh),Ix (s.last),Ix (s.su.a0),Ix (s.su.a1),Ix (s.su.a2),Ix (s.su.a3),.map (some mm)] 88),bB cC mp s.ps,bB bL mh s.hs,pt b1 (.cells #[Bx (x.kind),Ix (x.owner),Ix (x.other),Ix (x.hold),Ix (x.a.a0),Ix (x.a.a1),Ix (x.a.a2),Ix (x.a.a3)] 47)]) (by exact(aW [1,2,3,0] 4 rfl (by kernel_rfl) (by kernel_rfl)))
 exact jA (V:=(⟨s.ps,s.hs,s.last,s.su⟩:KSt)) (show((⟨s.ps,s.hs,s.last,s.su⟩:KSt),0,0)=nC s x by simp_all [nC,eI,iW,iS]) (aG (L':=[pt zb (.cells #[.map (some mp),.map (some mh),Ix (s.last),Ix (s.su.a0),Ix (s.su.a1),Ix (s.su.a2),Ix (s.su.a3),.map (some mm)] 88),bB cC mp s.ps,bB bL mh s.hs]) [true,true,true,false] rfl hw)
end Go.Proofs
