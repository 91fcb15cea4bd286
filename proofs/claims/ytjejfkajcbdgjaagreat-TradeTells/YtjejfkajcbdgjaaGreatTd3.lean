/-
 What acts do to a state: walked. Printed by a program of my own.
-/
import Derived.Test.YtjejfkajcbdgjaaGreatTd2
set_option linter.all false
set_option maxHeartbeats 4000000
namespace Go.Proofs
open Go Go.Sl Go.Td
theorem iR{β:Base}{w:World}{zb mp mh mm:Nat}{V:KSt}{m e:Int}{o:KSt×Int×Int}(h:(V,m,e)=o)(hw:St β [pt zb (.cells (uX mp mh mm V.last V.su) 88),aZ bW mp V.ps,aZ bK mh V.hs] w):
 Ending.returned (.tuple #[Ix m,Ix e])= .returned (.tuple #[Ix o.2.1,Ix o.2.2])∧St β [pt zb (.cells (uX mp mh mm o.1.last o.1.su) 88),aZ bW mp o.1.ps,aZ bK mh o.1.hs] w:=by subst h;exact⟨rfl,hw⟩
instance tt32:FldC Tryz.prog 88 0 0 1 false:={}
instance rL:TyC Tryz.prog 84 false 1:={}
instance bId:CfC Tryz.prog 108:={}
instance bCi:CfC Tryz.prog 107:={}
instance tt36:FldC Tryz.prog 88 3 3 4 true:={}
instance bCj:CfC Tryz.prog 109:={}
instance tt38:FldC Tryz.prog 88 1 1 1 false:={}
instance uZ:TyC Tryz.prog 85 false 1:={}
instance tt40:FldC Tryz.prog 88 2 2 1 false:={}
theorem aYd:xP Tryz.prog 104 [(0,1),(1,1),(2,4)]=true:=by kernel_rfl
instance aTt:ZerC Tryz.prog 104 (.agg #[.int .i64 (0),.int .i64 (0),.int .i64 (0),.int .i64 (0),.int .i64 (0),.int .i64 (0)]):={}
instance bFw:TyC Tryz.prog 104 true 6:={}
instance tt44:FldC Tryz.prog 104 2 2 4 true:={}
instance bIe:FldC Tryz.prog 104 1 1 1 false:={}
theorem bCk:xP Tryz.prog 47 [(0,1),(1,1),(2,1),(3,1),(4,4)]=true:=by kernel_rfl
instance aGu:ZerC Tryz.prog 47 (.agg #[.int .u8 (0),.int .i64 (0),.int .i64 (0),.int .i64 (0),.int .i64 (0),.int .i64 (0),.int .i64 (0),.int .i64 (0)]):={}
instance bIf:CfC Tryz.prog 72:={}
theorem aHg(β:Base)(w:World)(zb mp mh mm:Nat)(la:Int)(su:KAm)(ps:List (Int×KAm))(hw:St β [pt zb (.cells (uX mp mh mm la su) 88),aZ bW mp ps] w)(n:Int)(a x:KAm)(hx:(bW.look ps n).getD zeroA=x)(hxb:x.bd 4611686018427387903)(hab:a.bd 4611686018427387903):Calls Tryz.prog 107 #[pp zb 0,Ix n,.agg (eI a)] w fun r w'=>r= .returned (Ix (gR ps n a))∧St β [pt zb (.cells (uX mp mh mm la su) 88),aZ bW mp (hG ps n a)] w':=by
 refine enter (n:=56) Tryz.func107 rfl Tryz.ntmps107 rfl ?_ hw
 refine bE (mA fun b1=> ?_)
 refine lE bN (aN (aL ?_))
 refine jH [sv 10 (pp zb 0) [] [] [0],sv 11 (pp zb 0) [0] [0] [],sv 12 (pp zb 0) [0,1] [1] [],sv 13 (.map (some mp)) [0,1,2] [2] [],sv 14 (Ix (n)) [] [] [1],sv 15 (.agg (eI x)) [0,1,2,3,4] [3,4] [],sv 16 (.agg (eI a)) [] [] [2],sv 17 (.agg (eI (x.plus a (1)))) (List.range 7) [5,6] [],⟨[],[],[],[7],fun f=>f 7= .pointer (some ⟨(cU (f 7)),0,none⟩)⟩,⟨(List.range 9),[8,7],[],[],fun _=>True⟩] [u1 [6],u1 [3],u1 [5]] [⟨(some 8),(some 9),[9],[7],fun f=>pt (cU (f 7)) (.cells #[.int .i64 (0),.int .i64 (0),.int .i64 (0),.int .i64 (0)] 44)⟩,⟨(some 9),none,[],[7],fun f=>pt (cU (f 7)) (.cells (eI (x.plus a (1))) 44)⟩] [(0,pp zb 0),(1,Ix (n)),(5,pp b1 0)] [0,1] ⟨rfl,rfl,rfl,trivial⟩ ⟨?_,?_,?_,?_,?_,?_,?_,?_,?_,?_,trivial⟩ ?_
 ·rintro f M-⟨i0,-⟩
  exact aU dN
 ·rintro f M ⟨k0,-⟩-
  exact aU eM
 ·rintro f M ⟨k0,-⟩-
  exact aU aY
 ·rintro f M ⟨k0,-⟩-
  exact wL (L':=pt zb (.cells #[.map (some mp),.map (some mh),Ix (la),Ix (su.a0),Ix (su.a1),Ix (su.a2),Ix (su.a3),.map (some mm)] 88)::M) (aB (d:=12) rfl k0) rfl (bH rL.ok rfl (bY 0 rfl rfl)) (aA 0 rfl) (by rfl)
 ·rintro f M-⟨i0,-⟩
  exact aU aX
 ·rintro f M ⟨k0,k1,-⟩-
  exact wL (L':=aZ bW mp ps::M) (aB (d:=14) (aB (d:=13) rfl k0) k1) rfl (fI (congrArg bW.encv hx) (lA (K:=bW) (b:=mp) (ks:=ps) (k:=n) rfl rfl rfl (bF.of_res 0 rfl (aZ.mono _ _ _) fun _ h=>h))) (aA 0 rfl) (by rfl)
 ·rintro f M-⟨i0,-⟩
  exact aU (dD 0)
 ·rintro f M ⟨k0,k1,-⟩-
  refine dU (aB (d:=16) (aB (d:=15) rfl k0) k1) ?_
  refine iF iE (fun w β1 sb kn hw1=>uK β1 w hw1 x a (1) (by decide) hxb hab) (aH ?_)
  exact aO (aB (d:=16) (aB (d:=15) rfl k0) k1) rfl (List.Perm.refl _)
 ·rintro f M- -
  refine dU rfl ?_
  refine gB fun b3=>aH ?_
  exact aO rfl rfl (aA 0 rfl)
 ·rintro f M ⟨k0,k1,-⟩-
  have hs7:f 7= .pointer (some ⟨(cU (f 7)),0,none⟩):=k0
  refine dU (aB (d:=17) (aB rfl hs7) k1) ?_
  refine lu (mS 0 (eI (x.plus a (1)))) (aH ?_)
  exact bB (aB (d:=17) (aB rfl hs7) k1) trivial (aA 0 rfl)
 rintro fa4 ⟨-,-,-,-,-,-,-,-,k8,-,-⟩ ⟨j0,j1,-⟩
 refine jI ?_
 refine aD (d:=0) j0 (aD (d:=1) j1 (aD (d:=7) k8 (kM (lE dN (lE eM (lE aY ?_))))))
 refine lv (v:= .map (some mp)) (bH rL.ok rfl (bY 1 rfl rfl)) (lE aX ?_)
 refine lv (v:= .tuple #[.agg (eI x),.bool ((bW.look ps n).isSome)]) (fI (congrArg (fun z=>Value.tuple #[bW.encv z,.bool (bW.look ps n).isSome]) hx) (xD (K:=bW) (b:=mp) (ks:=ps) (k:=n) rfl rfl rfl (bF.of_res 2 rfl (aZ.mono _ _ _) fun _ h=>h))) ?_
 refine lE oE (lE qS (lE xK (gB fun b5=>lu (mS 0 (eI x)) (lE dW (aN (aL (aK ?_)))))))
 refine gG (fun(f:Fm) (L:List bU)=>∃(jn:Bool),(f 0=pp zb 0∧f 1=Ix (n)∧f 7= .pointer (some ⟨(cU (fa4 7)),0,none⟩)∧f 27= .bool (jn))∧L=[pt b5 (.cells (eI x) 44),pt b1 (.cells (eI a) 44),pt zb (.cells #[.map (some mp),.map (some mh),Ix (la),Ix (su.a0),Ix (su.a1),Ix (su.a2),Ix (su.a3),.map (some mm)] 88),aZ bW mp ps,pt (cU (fa4 7)) (.cells (eI (x.plus a (1))) 44)]∧(jn=addX ps n a)) ?_ ?_
 ·refine bE (lE (dD 4) (iF iE (fun w β1 sb kn hw1=>pI β1 w hw1 (x.plus a (1))) (lE lX (lE dW (aN ?_)))))
  refine fE (!((x.plus a (1)).within)) rfl (fun hc6=> ?_) (fun hc6=> ?_)
  ·refine cD ?_
   exact bI ⟨!((x.plus a (1)).within),⟨rfl,rfl,rfl,rfl⟩,rfl,(by simp_all [addX,iJ])⟩
  refine aC (lE fJ (lE lX ?_))
  refine fY (!((bW.look ps n).isSome)) (decide (¬((x.plus a (1))=zeroA))) rfl (fun hb7 hk7=> ?_) (fun z8 z9 z10=> ?_)
  ·refine gE (dD 4) ?_
   refine cL (v:= .agg #[.int .i64 (0),.int .i64 (0),.int .i64 (0),.int .i64 (0)]) rfl rfl rfl rfl rfl (eQ tt3.ok qN.ok (vs:=[]) (cells:= #[.int .i64 (0),.int .i64 (0),.int .i64 (0),.int .i64 (0)]) rfl rfl) ?_
   refine cL (v:= .bool (decide (¬((x.plus a (1))=zeroA)))) rfl rfl rfl rfl rfl (gS (xs:=oK (x.plus a (1))) (ys:=oK zeroA) wX wY wZ rfl rfl rfl rfl (not_congr (kP (x:=(x.plus a (1))) (y:=zeroA)))) ?_
   refine lE eC ?_
   exact hk7 _ _ _
  refine bBn ((!((bW.look ps n).isSome))&&(decide (¬((x.plus a (1))=zeroA)))) (decide ((256:Int)≤((ps.length:Nat):Int))) rfl (fun hb11 hk11=> ?_) (fun z12 z13 z14 z15 z16 z17=> ?_)
  ·refine gE dN (gE eM (gE aY (cL (v:= .map (some mp)) rfl rfl rfl rfl rfl (bH rL.ok rfl (bY 2 rfl rfl)) ?_)))
   refine cL (v:=Nx (ps.length)) rfl rfl rfl rfl rfl (yD (K:=bW) (b:=mp) (ks:=ps) rfl rfl (bF.of_res 3 rfl (aZ.mono _ _ _) fun _ h=>h)) ?_
   refine gE oge (lE eC ?_)
   exact hk11 _ _ _ _ _ _
  refine lE dW (aH ?_)
  exact bI ⟨(((!((bW.look ps n).isSome))&&(decide (¬((x.plus a (1))=zeroA))))&&(decide ((256:Int)≤((ps.length:Nat):Int)))),⟨rfl,rfl,rfl,rfl⟩,rfl,(by simp_all [addX,iJ])⟩
 rintro f0 L0 ⟨jn,⟨hs0,hs1,hs7,hs27⟩,hL,hjn⟩
 subst L0
 refine bM 0 hs0 (bM 1 hs1 (bM 7 hs7 (bM 27 hs27 (fE (jn) rfl (fun hc18=> ?_) (fun hc18=> ?_)))))
 ·refine bE (lE bN (aN (aT (aQ (aI (cZ Tryz.results107 rfl ?_))))))
  intro w hw
  replace hw:=hw.perm (L':=[pt zb (.cells #[.map (some mp),.map (some mh),Ix (la),Ix (su.a0),Ix (su.a1),Ix (su.a2),Ix (su.a3),.map (some mm)] 88),aZ bW mp ps,pt b5 (.cells (eI x) 44),pt b1 (.cells (eI a) 44),pt (cU (fa4 7)) (.cells (eI (x.plus a (1))) 44)]) (by exact(aV [2,3,0,1,4] 5 rfl (by kernel_rfl) (by kernel_rfl)))
  exact⟨congrArg (fun z:Int=>Ending.returned (Ix z)) (show 4=gR ps n a by simp_all [gR,hG,iJ]),(show ps=hG ps n a by simp_all [gR,hG,iJ])▸aF (L':=[pt zb (.cells #[.map (some mp),.map (some mh),Ix (la),Ix (su.a0),Ix (su.a1),Ix (su.a2),Ix (su.a3),.map (some mm)] 88),aZ bW mp ps]) [true,true,false,false,false] rfl hw⟩
 refine bE (lE (dD 4) ?_)
 refine lv (v:= .agg #[.int .i64 (0),.int .i64 (0),.int .i64 (0),.int .i64 (0)]) (eQ tt3.ok qN.ok (vs:=[]) (cells:= #[.int .i64 (0),.int .i64 (0),.int .i64 (0),.int .i64 (0)]) rfl rfl) ?_
 refine lv (v:= .bool (decide (¬((x.plus a (1))=zeroA)))) (gS (xs:=oK (x.plus a (1))) (ys:=oK zeroA) wX wY wZ rfl rfl rfl rfl (not_congr (kP (x:=(x.plus a (1))) (y:=zeroA)))) ?_
 refine lE dW (aN (cG _ rfl (fun hc19=> ?_) (fun hc19=> ?_)))
 ·refine jH [sv 50 (pp zb 0) [] [] [0],sv 51 (pp zb 0) [0] [0] [],sv 52 (pp zb 0) [0,1] [1] [],sv 53 (.map (some mp)) [0,1,2] [2] [],sv 54 (Ix (n)) [] [] [1],sv 55 (.agg (eI (x.plus a (1)))) [] [] [2],⟨(List.range 6),[3,4,5],[],[],fun _=>True⟩] [u0,u0,u1 [3],(some 6,[6]),u1 [5]] [⟨(some 6),none,[],[],fun _=>aZ bW mp (bW.put ps (n) (x.plus a (1)))⟩] [(0,pp zb 0),(1,Ix (n)),(7,.pointer (some ⟨(cU (fa4 7)),0,none⟩))] [] ⟨rfl,rfl,rfl,trivial⟩ ⟨?_,?_,?_,?_,?_,?_,?_,trivial⟩ ?_
  ·rintro f M-⟨i0,-⟩
   exact aU dN
  ·rintro f M ⟨k0,-⟩-
   exact aU eM
  ·rintro f M ⟨k0,-⟩-
   exact aU aY
  ·rintro f M ⟨k0,-⟩-
   exact wL (L':=pt zb (.cells #[.map (some mp),.map (some mh),Ix (la),Ix (su.a0),Ix (su.a1),Ix (su.a2),Ix (su.a3),.map (some mm)] 88)::M) (aB (d:=52) rfl k0) rfl (bH rL.ok rfl (bY 0 rfl rfl)) (aA 0 rfl) (by rfl)
  ·rintro f M-⟨i0,-⟩
   exact aU aX
  ·rintro f M-⟨i0,-⟩
   exact aU (dD 0)
  ·rintro f M ⟨k0,k1,k2,-⟩-
   refine dU (aB (d:=55) (aB (d:=54) (aB (d:=53) rfl k0) k1) k2) ?_
   refine lu (qY (K:=bW) (b:=mp) (ks:=ps) (k:=(n)) (v:=(x.plus a (1))) 0 rfl rfl rfl rfl rfl) (aH ?_)
   exact bB (aB (d:=55) (aB (d:=54) (aB (d:=53) rfl k0) k1) k2) trivial (aA 0 rfl)
  rintro fa20 ⟨-,-,-,-,-,-,-,-⟩-
  refine jI ?_
  refine aR (kM (lE bN (aN (aT (cZ Tryz.results107 rfl ?_)))))
  intro w hw
  replace hw:=hw.perm (L':=[pt zb (.cells #[.map (some mp),.map (some mh),Ix (la),Ix (su.a0),Ix (su.a1),Ix (su.a2),Ix (su.a3),.map (some mm)] 88),aZ bW mp (bW.put ps (n) (x.plus a (1))),pt b5 (.cells (eI x) 44),pt b1 (.cells (eI a) 44),pt (cU (fa4 7)) (.cells (eI (x.plus a (1))) 44)]) (by exact(aV [2,4,0,1,3] 5 rfl (by kernel_rfl) (by kernel_rfl)))
  exact⟨congrArg (fun z:Int=>Ending.returned (Ix z)) (show 0=gR ps n a by simp_all [gR,hG,iJ]),(show(bW.put ps (n) (x.plus a (1)))=hG ps n a by simp_all [gR,hG,iJ])▸aF (L':=[pt zb (.cells #[.map (some mp),.map (some mh),Ix (la),Ix (su.a0),Ix (su.a1),Ix (su.a2),Ix (su.a3),.map (some mm)] 88),aZ bW mp (bW.put ps (n) (x.plus a (1)))]) [true,true,false,false,false] rfl hw⟩
 refine cD (aR (kM (lE bN (aN (aT (cZ Tryz.results107 rfl ?_))))))
 intro w hw
 replace hw:=hw.perm (L':=[pt zb (.cells #[.map (some mp),.map (some mh),Ix (la),Ix (su.a0),Ix (su.a1),Ix (su.a2),Ix (su.a3),.map (some mm)] 88),aZ bW mp ps,pt b5 (.cells (eI x) 44),pt b1 (.cells (eI a) 44),pt (cU (fa4 7)) (.cells (eI (x.plus a (1))) 44)]) (by exact(aV [2,3,0,1,4] 5 rfl (by kernel_rfl) (by kernel_rfl)))
 exact⟨congrArg (fun z:Int=>Ending.returned (Ix z)) (show 0=gR ps n a by simp_all [gR,hG,iJ]),(show ps=hG ps n a by simp_all [gR,hG,iJ])▸aF (L':=[pt zb (.cells #[.map (some mp),.map (some mh),Ix (la),Ix (su.a0),Ix (su.a1),Ix (su.a2),Ix (su.a3),.map (some mm)] 88),aZ bW mp ps]) [true,true,false,false,false] rfl hw⟩
theorem aDy(β:Base)(w:World)(zb mp mh mm:Nat)(la:Int)(su:KAm)(ps:List (Int×KAm))(hw:St β [pt zb (.cells (uX mp mh mm la su) 88),aZ bW mp ps] w)(n:Int)(a x:KAm)(hx:(bW.look ps n).getD zeroA=x)(hxb:x.bd 4611686018427387903)(hab:a.bd 4611686018427387903):Calls Tryz.prog 109 #[pp zb 0,Ix n,.agg (eI a)] w fun r w'=>r= .returned (Ix (eE ps n a))∧St β [pt zb (.cells (uX mp mh mm la su) 88),aZ bW mp (dJ ps n a)] w':=by
 refine enter (n:=33) Tryz.func109 rfl Tryz.ntmps109 rfl ?_ hw
 refine bE (mA fun b1=> ?_)
 refine lE bN (aN (aL ?_))
 refine jH [sv 8 (pp zb 0) [] [] [0],sv 9 (pp zb 0) [0] [0] [],sv 10 (pp zb 0) [0,1] [1] [],sv 11 (.map (some mp)) [0,1,2] [2] [],sv 12 (Ix (n)) [] [] [1],sv 13 (.agg (eI x)) [0,1,2,3,4] [3,4] [],sv 14 (.agg (eI a)) [] [] [2],sv 15 (.agg (eI (x.plus a (-1)))) (List.range 7) [5,6] [],⟨[],[],[],[7],fun f=>f 7= .pointer (some ⟨(cU (f 7)),0,none⟩)⟩,⟨(List.range 9),[8,7],[],[],fun _=>True⟩] [u1 [6],u1 [3],u1 [5]] [⟨(some 8),(some 9),[9],[7],fun f=>pt (cU (f 7)) (.cells #[.int .i64 (0),.int .i64 (0),.int .i64 (0),.int .i64 (0)] 44)⟩,⟨(some 9),none,[],[7],fun f=>pt (cU (f 7)) (.cells (eI (x.plus a (-1))) 44)⟩] [(0,pp zb 0),(1,Ix (n)),(5,pp b1 0)] [0,1] ⟨rfl,rfl,rfl,trivial⟩ ⟨?_,?_,?_,?_,?_,?_,?_,?_,?_,?_,trivial⟩ ?_
 ·rintro f M-⟨i0,-⟩
  exact aU dN
 ·rintro f M ⟨k0,-⟩-
  exact aU eM
 ·rintro f M ⟨k0,-⟩-
  exact aU aY
 ·rintro f M ⟨k0,-⟩-
  exact wL (L':=pt zb (.cells #[.map (some mp),.map (some mh),Ix (la),Ix (su.a0),Ix (su.a1),Ix (su.a2),Ix (su.a3),.map (some mm)] 88)::M) (aB (d:=10) rfl k0) rfl (bH rL.ok rfl (bY 0 rfl rfl)) (aA 0 rfl) (by rfl)
 ·rintro f M-⟨i0,-⟩
  exact aU aX
 ·rintro f M ⟨k0,k1,-⟩-
  exact wL (L':=aZ bW mp ps::M) (aB (d:=12) (aB (d:=11) rfl k0) k1) rfl (fI (congrArg bW.encv hx) (lA (K:=bW) (b:=mp) (ks:=ps) (k:=n) rfl rfl rfl (bF.of_res 0 rfl (aZ.mono _ _ _) fun _ h=>h))) (aA 0 rfl) (by rfl)
 ·rintro f M-⟨i0,-⟩
  exact aU (dD 0)
 ·rintro f M ⟨k0,k1,-⟩-
  refine dU (aB (d:=14) (aB (d:=13) rfl k0) k1) ?_
  refine iF iE (fun w β1 sb kn hw1=>uK β1 w hw1 x a (-1) (by decide) hxb hab) (aH ?_)
  exact aO (aB (d:=14) (aB (d:=13) rfl k0) k1) rfl (List.Perm.refl _)
 ·rintro f M- -
  refine dU rfl ?_
  refine gB fun b3=>aH ?_
  exact aO rfl rfl (aA 0 rfl)
 ·rintro f M ⟨k0,k1,-⟩-
  have hs7:f 7= .pointer (some ⟨(cU (f 7)),0,none⟩):=k0
  refine dU (aB (d:=15) (aB rfl hs7) k1) ?_
  refine lu (mS 0 (eI (x.plus a (-1)))) (aH ?_)
  exact bB (aB (d:=15) (aB rfl hs7) k1) trivial (aA 0 rfl)
 rintro fa4 ⟨-,-,-,-,-,-,-,-,k8,-,-⟩ ⟨j0,j1,-⟩
 refine jI ?_
 refine aD (d:=0) j0 (aD (d:=1) j1 (aD (d:=7) k8 (rT (bE (lE (dD 3) ?_)))))
 refine iF iE (fun w β1 sb kn hw1=>pI β1 w hw1 (x.plus a (-1))) (lE lX (aN ?_))
 refine fE (!((x.plus a (-1)).within)) rfl (fun hc5=> ?_) (fun hc5=> ?_)
 ·refine bE (lE bN (aN (aT (aI (cZ Tryz.results109 rfl ?_)))))
  intro w hw
  replace hw:=hw.perm (L':=[pt zb (.cells #[.map (some mp),.map (some mh),Ix (la),Ix (su.a0),Ix (su.a1),Ix (su.a2),Ix (su.a3),.map (some mm)] 88),aZ bW mp ps,pt b1 (.cells (eI a) 44),pt (cU (fa4 7)) (.cells (eI (x.plus a (-1))) 44)]) (by exact(aV [1,2,0,3] 4 rfl (by kernel_rfl) (by kernel_rfl)))
  exact⟨congrArg (fun z:Int=>Ending.returned (Ix z)) (show 330=eE ps n a by simp_all [eE,dJ,iN,iJ]),(show ps=dJ ps n a by simp_all [eE,dJ,iN,iJ])▸aF (L':=[pt zb (.cells #[.map (some mp),.map (some mh),Ix (la),Ix (su.a0),Ix (su.a1),Ix (su.a2),Ix (su.a3),.map (some mm)] 88),aZ bW mp ps]) [true,true,false,false] rfl hw⟩
 refine eF (eS ?_)
 refine jH [sv 19 (pp zb 0) [] [] [0],sv 20 (pp zb 0) [0] [0] [],sv 21 (pp zb 0) [0,1] [1] [],sv 22 (.map (some mp)) [0,1,2] [2] [],sv 23 (Ix (n)) [] [] [1],sv 24 (.agg (eI (x.plus a (-1)))) [] [] [2],⟨(List.range 6),[3,4,5],[],[],fun _=>True⟩] [u0,u1 [3],(some 6,[6]),u1 [5]] [⟨(some 6),none,[],[],fun _=>aZ bW mp (bW.put ps (n) (x.plus a (-1)))⟩] [(0,pp zb 0),(1,Ix (n)),(7,.pointer (some ⟨(cU (fa4 7)),0,none⟩))] [0,1,2] ⟨rfl,rfl,rfl,trivial⟩ ⟨?_,?_,?_,?_,?_,?_,?_,trivial⟩ ?_
 ·rintro f M-⟨i0,-⟩
  exact aU dN
 ·rintro f M ⟨k0,-⟩-
  exact aU eM
 ·rintro f M ⟨k0,-⟩-
  exact aU aY
 ·rintro f M ⟨k0,-⟩-
  exact wL (L':=pt zb (.cells #[.map (some mp),.map (some mh),Ix (la),Ix (su.a0),Ix (su.a1),Ix (su.a2),Ix (su.a3),.map (some mm)] 88)::M) (aB (d:=21) rfl k0) rfl (bH rL.ok rfl (bY 0 rfl rfl)) (aA 0 rfl) (by rfl)
 ·rintro f M-⟨i0,-⟩
  exact aU aX
 ·rintro f M-⟨i0,-⟩
  exact aU (dD 0)
 ·rintro f M ⟨k0,k1,k2,-⟩-
  refine dU (aB (d:=24) (aB (d:=23) (aB (d:=22) rfl k0) k1) k2) ?_
  refine lu (qY (K:=bW) (b:=mp) (ks:=ps) (k:=(n)) (v:=(x.plus a (-1))) 0 rfl rfl rfl rfl rfl) (aH ?_)
  exact bB (aB (d:=24) (aB (d:=23) (aB (d:=22) rfl k0) k1) k2) trivial (aA 0 rfl)
 rintro fa6 ⟨-,-,-,-,-,-,-,-⟩ ⟨j0,j1,j2,-⟩
 refine jI ?_
 refine aD (d:=0) j0 (aD (d:=1) j1 (aD (d:=7) j2 (kM (lE (dD 2) ?_))))
 refine lv (v:= .agg #[.int .i64 (0),.int .i64 (0),.int .i64 (0),.int .i64 (0)]) (eQ tt3.ok qN.ok (vs:=[]) (cells:= #[.int .i64 (0),.int .i64 (0),.int .i64 (0),.int .i64 (0)]) rfl rfl) ?_
 refine lv (v:= .bool (decide ((x.plus a (-1))=zeroA))) (pU (xs:=oK (x.plus a (-1))) (ys:=oK zeroA) wX wY wZ rfl rfl rfl rfl (kP (x:=(x.plus a (-1))) (y:=zeroA))) ?_
 refine aN (cG _ rfl (fun hc7=> ?_) (fun hc7=> ?_))
 ·refine aC (lE dN (lE eM (lE aY (lv (v:= .map (some mp)) (bH rL.ok rfl (bY 1 rfl rfl)) (lE aX ?_)))))
  refine bEa rfl rfl (aRf (K:=bW) (b:=mp) (ks:=(bW.put ps (n) (x.plus a (-1)))) (k:=(n)) 3 rfl rfl rfl rfl) ?_
  rintro _ _ ⟨rfl,rfl⟩
  refine eY (lE bN (aN (aT (cZ Tryz.results109 rfl ?_))))
  intro w hw
  replace hw:=hw.perm (L':=[pt zb (.cells #[.map (some mp),.map (some mh),Ix (la),Ix (su.a0),Ix (su.a1),Ix (su.a2),Ix (su.a3),.map (some mm)] 88),aZ bW mp (bW.del (bW.put ps (n) (x.plus a (-1))) (n)),pt b1 (.cells (eI a) 44),pt (cU (fa4 7)) (.cells (eI (x.plus a (-1))) 44)]) (by exact(aV [1,3,0,2] 4 rfl (by kernel_rfl) (by kernel_rfl)))
  exact⟨congrArg (fun z:Int=>Ending.returned (Ix z)) (show 0=eE ps n a by simp_all [eE,dJ,iN,iJ]),(show(bW.del (bW.put ps (n) (x.plus a (-1))) (n))=dJ ps n a by simp_all [eE,dJ,iN,iJ])▸aF (L':=[pt zb (.cells #[.map (some mp),.map (some mh),Ix (la),Ix (su.a0),Ix (su.a1),Ix (su.a2),Ix (su.a3),.map (some mm)] 88),aZ bW mp (bW.del (bW.put ps (n) (x.plus a (-1))) (n))]) [true,true,false,false] rfl hw⟩
 refine eF (bE (lE bN (aN (aT (cZ Tryz.results109 rfl ?_)))))
 intro w hw
 replace hw:=hw.perm (L':=[pt zb (.cells #[.map (some mp),.map (some mh),Ix (la),Ix (su.a0),Ix (su.a1),Ix (su.a2),Ix (su.a3),.map (some mm)] 88),aZ bW mp (bW.put ps (n) (x.plus a (-1))),pt b1 (.cells (eI a) 44),pt (cU (fa4 7)) (.cells (eI (x.plus a (-1))) 44)]) (by exact(aV [1,3,0,2] 4 rfl (by kernel_rfl) (by kernel_rfl)))
 exact⟨congrArg (fun z:Int=>Ending.returned (Ix z)) (show 0=eE ps n a by simp_all [eE,dJ,iN,iJ]),(show(bW.put ps (n) (x.plus a (-1)))=dJ ps n a by simp_all [eE,dJ,iN,iJ])▸aF (L':=[pt zb (.cells #[.map (some mp),.map (some mh),Ix (la),Ix (su.a0),Ix (su.a1),Ix (su.a2),Ix (su.a3),.map (some mm)] 88),aZ bW mp (bW.put ps (n) (x.plus a (-1)))]) [true,true,false,false] rfl hw⟩
theorem aWm(β:Base)(w:World)(zb mp mh mm:Nat)(s:KSt)(hw:St β [pt zb (.cells (uX mp mh mm s.last s.su) 88),aZ bW mp s.ps,aZ bK mh s.hs] w)(hP:okP s.ps)(hH:okH s.hs)(hsu:s.su.bd 4611686018427387903)(hla: -4611686018427387903≤s.last∧s.last≤4611686018427387903)(x:KAct)(hxa:x.a.bd 4611686018427387903):Calls Tryz.prog 67 #[pp zb 0,.agg #[Bx (x.kind),Ix (x.owner),Ix (x.other),Ix (x.hold),Ix (x.a.a0),Ix (x.a.a1),Ix (x.a.a2),Ix (x.a.a3)]] w fun r w'=>r= .returned (.tuple #[Ix (lT s x).2.1,Ix (lT s x).2.2])∧St β [pt zb (.cells (uX mp mh mm (lT s x).1.last (lT s x).1.su) 88),aZ bW mp (lT s x).1.ps,aZ bK mh (lT s x).1.hs] w':=by
 refine enter (n:=26) Tryz.func67 rfl Tryz.ntmps67 rfl ?_ hw
 refine bE (mA fun b1=> ?_)
 refine lE bN (lE bN (eY (lE dN (lE aY (lE (cQ 0) (lE aY (lE (dD 0) ?_)))))))
 refine aW rfl rfl rfl (cK (vs:=[pp zb 0,Ix (x.owner),.agg (eI x.a)]) bCi.ok rfl rfl) ?_
 intro w hw
 replace hw:=hw.perm (L':=_::_::_::_::[]) (by exact((((aA 3 rfl).trans (aA 1 rfl)).trans (aA 3 rfl)).trans (aA 3 rfl)))
 obtain⟨β1,sb,kn,hw1,back⟩:=St.frame (L:=[_,_]) (M:=_::_::[]) hw
 refine(aHg β1 w zb mp mh mm s.last s.su s.ps hw1 x.owner x.a _ rfl (tB hP _) hxa).mono ?_
 rintro e w' ⟨rfl,hw'⟩
 refine⟨_,rfl,_,back _ _ hw',?_⟩
 refine lE bN (aN (eS (aC (lE aX (lE eZ (aN (cG _ rfl (fun hc2=> ?_) (fun hc2=> ?_))))))))
 ·refine jH [sv 15 (pp zb 0) [] [] [0],sv 16 (pp zb 0) [] [] [0],sv 17 (pp zb 0) [1] [1] [],sv 18 (pp zb 3) [1,2] [2] [],sv 19 (.agg (eI s.su)) [1,2,3] [3] [],sv 20 (pp b1 4) [] [] [1],sv 21 (.agg (eI x.a)) [5] [5] [],sv 22 (.agg (eI (s.su.plus x.a (1)))) [1,2,3,4,5,6] [4,6] [],sv 23 (pp zb 0) (List.range 8) [0] [],sv 24 (pp zb 3) (List.range 9) [8] [],⟨(List.range 10),[9,7],[],[],fun _=>True⟩] [(some 10,[4,10]),u0,u1 [6]] [⟨(some 10),none,[],[],fun _=>pt zb (.cells #[.map (some mp),.map (some mh),Ix (s.last),Ix ((s.su.plus x.a (1)).a0),Ix ((s.su.plus x.a (1)).a1),Ix ((s.su.plus x.a (1)).a2),Ix ((s.su.plus x.a (1)).a3),.map (some mm)] 88)⟩] [(0,pp zb 0),(3,pp b1 0),(6,Ix (gR s.ps x.owner x.a))] [2] ⟨rfl,rfl,rfl,trivial⟩ ⟨?_,?_,?_,?_,?_,?_,?_,?_,?_,?_,?_,trivial⟩ ?_
  ·rintro f M-⟨i0,-⟩
   exact aU dN
  ·rintro f M-⟨i0,-⟩
   exact aU dN
  ·rintro f M ⟨k0,-⟩-
   exact aU eM
  ·rintro f M ⟨k0,-⟩-
   exact aU aY
  ·rintro f M ⟨k0,-⟩-
   exact aU (dD 0)
  ·rintro f M-⟨i0,-⟩
   exact aU aY
  ·rintro f M ⟨k0,-⟩-
   exact aU (dD 0)
  ·rintro f M ⟨k0,k1,-⟩-
   refine dU (aB (d:=21) (aB (d:=19) rfl k0) k1) ?_
   refine iF iE (fun w β1 sb kn hw1=>uK β1 w hw1 s.su x.a (1) (by decide) hsu hxa) (aH ?_)
   exact aO (aB (d:=21) (aB (d:=19) rfl k0) k1) rfl (List.Perm.refl _)
  ·rintro f M ⟨k0,-⟩-
   exact aU eM
  ·rintro f M ⟨k0,-⟩-
   exact aU aY
  ·rintro f M ⟨k0,k1,-⟩-
   refine dU (aB (d:=22) (aB (d:=24) rfl k0) k1) ?_
   refine lu (mS 0 (#[.map (some mp),.map (some mh),Ix (s.last),Ix ((s.su.plus x.a (1)).a0),Ix ((s.su.plus x.a (1)).a1),Ix ((s.su.plus x.a (1)).a2),Ix ((s.su.plus x.a (1)).a3),.map (some mm)])) ?_
   refine aH ?_
   exact bB (aB (d:=22) (aB (d:=24) rfl k0) k1) trivial (aA 0 rfl)
  rintro fa3 ⟨-,-,-,-,-,-,-,-,-,-,-,-⟩ ⟨j0,-⟩
  refine jI ?_
  refine aD (d:=6) j0 (kM (lE aX (lE bN (lE bN (aN (aT ?_))))))
  refine nF (v:= .int .i64 (0)) (v':=Ix (gR s.ps x.owner x.a)) Tryz.results67 rfl rfl ?_
  intro w hw
  replace hw:=hw.perm (L':=[pt zb (.cells #[.map (some mp),.map (some mh),Ix (s.last),Ix ((s.su.plus x.a (1)).a0),Ix ((s.su.plus x.a (1)).a1),Ix ((s.su.plus x.a (1)).a2),Ix ((s.su.plus x.a (1)).a3),.map (some mm)] 88),aZ bW mp (hG s.ps x.owner x.a),aZ bK mh s.hs,pt b1 (.cells #[Bx (x.kind),Ix (x.owner),Ix (x.other),Ix (x.hold),Ix (x.a.a0),Ix (x.a.a1),Ix (x.a.a2),Ix (x.a.a3)] 47)]) (by exact(aV [3,0,2,1] 4 rfl (by kernel_rfl) (by kernel_rfl)))
  exact iR (V:=(⟨(hG s.ps x.owner x.a),s.hs,s.last,(s.su.plus x.a (1))⟩:KSt)) (show((⟨(hG s.ps x.owner x.a),s.hs,s.last,(s.su.plus x.a (1))⟩:KSt),0,gR s.ps x.owner x.a)=lT s x by simp_all [lT]) (aF (L':=[pt zb (.cells #[.map (some mp),.map (some mh),Ix (s.last),Ix ((s.su.plus x.a (1)).a0),Ix ((s.su.plus x.a (1)).a1),Ix ((s.su.plus x.a (1)).a2),Ix ((s.su.plus x.a (1)).a3),.map (some mm)] 88),aZ bW mp (hG s.ps x.owner x.a),aZ bK mh s.hs]) [true,true,true,false] rfl hw)
 refine eF (bE (lE aX (lE bN (lE bN (aN (aT (nF (v:= .int .i64 (0)) (v':=Ix (gR s.ps x.owner x.a)) Tryz.results67 rfl rfl ?_)))))))
 intro w hw
 replace hw:=hw.perm (L':=[pt zb (.cells #[.map (some mp),.map (some mh),Ix (s.last),Ix (s.su.a0),Ix (s.su.a1),Ix (s.su.a2),Ix (s.su.a3),.map (some mm)] 88),aZ bW mp (hG s.ps x.owner x.a),aZ bK mh s.hs,pt b1 (.cells #[Bx (x.kind),Ix (x.owner),Ix (x.other),Ix (x.hold),Ix (x.a.a0),Ix (x.a.a1),Ix (x.a.a2),Ix (x.a.a3)] 47)]) (by exact(aV [0,1,3,2] 4 rfl (by kernel_rfl) (by kernel_rfl)))
 exact iR (V:=(⟨(hG s.ps x.owner x.a),s.hs,s.last,s.su⟩:KSt)) (show((⟨(hG s.ps x.owner x.a),s.hs,s.last,s.su⟩:KSt),0,gR s.ps x.owner x.a)=lT s x by simp_all [lT]) (aF (L':=[pt zb (.cells #[.map (some mp),.map (some mh),Ix (s.last),Ix (s.su.a0),Ix (s.su.a1),Ix (s.su.a2),Ix (s.su.a3),.map (some mm)] 88),aZ bW mp (hG s.ps x.owner x.a),aZ bK mh s.hs]) [true,true,true,false] rfl hw)
theorem aUu(β:Base)(w:World)(zb mp mh mm:Nat)(s:KSt)(hw:St β [pt zb (.cells (uX mp mh mm s.last s.su) 88),aZ bW mp s.ps,aZ bK mh s.hs] w)(hP:okP s.ps)(hH:okH s.hs)(hsu:s.su.bd 4611686018427387903)(hla: -4611686018427387903≤s.last∧s.last≤4611686018427387903)(x:KAct)(hxa:x.a.bd 4611686018427387903):Calls Tryz.prog 68 #[pp zb 0,.agg #[Bx (x.kind),Ix (x.owner),Ix (x.other),Ix (x.hold),Ix (x.a.a0),Ix (x.a.a1),Ix (x.a.a2),Ix (x.a.a3)]] w fun r w'=>r= .returned (.tuple #[Ix (lQ s x).2.1,Ix (lQ s x).2.2])∧St β [pt zb (.cells (uX mp mh mm (lQ s x).1.last (lQ s x).1.su) 88),aZ bW mp (lQ s x).1.ps,aZ bK mh (lQ s x).1.hs] w':=by
 refine enter (n:=26) Tryz.func68 rfl Tryz.ntmps68 rfl ?_ hw
 refine bE (mA fun b1=> ?_)
 refine lE bN (lE bN (eY (lE dN (lE aY (lE (cQ 0) (lE aY (lE (dD 0) ?_)))))))
 refine aW rfl rfl rfl (cK (vs:=[pp zb 0,Ix (x.owner),.agg (eI x.a)]) bCj.ok rfl rfl) ?_
 intro w hw
 replace hw:=hw.perm (L':=_::_::_::_::[]) (by exact((((aA 3 rfl).trans (aA 1 rfl)).trans (aA 3 rfl)).trans (aA 3 rfl)))
 obtain⟨β1,sb,kn,hw1,back⟩:=St.frame (L:=[_,_]) (M:=_::_::[]) hw
 refine(aDy β1 w zb mp mh mm s.last s.su s.ps hw1 x.owner x.a _ rfl (tB hP _) hxa).mono ?_
 rintro e w' ⟨rfl,hw'⟩
 refine⟨_,rfl,_,back _ _ hw',?_⟩
 refine lE bN (aN (eS (aC (lE aX (lE eZ (aN (cG _ rfl (fun hc2=> ?_) (fun hc2=> ?_))))))))
 ·refine jH [sv 15 (pp zb 0) [] [] [0],sv 16 (pp zb 0) [] [] [0],sv 17 (pp zb 0) [1] [1] [],sv 18 (pp zb 3) [1,2] [2] [],sv 19 (.agg (eI s.su)) [1,2,3] [3] [],sv 20 (pp b1 4) [] [] [1],sv 21 (.agg (eI x.a)) [5] [5] [],sv 22 (.agg (eI (s.su.plus x.a (-1)))) [1,2,3,4,5,6] [4,6] [],sv 23 (pp zb 0) (List.range 8) [0] [],sv 24 (pp zb 3) (List.range 9) [8] [],⟨(List.range 10),[9,7],[],[],fun _=>True⟩] [(some 10,[4,10]),u0,u1 [6]] [⟨(some 10),none,[],[],fun _=>pt zb (.cells #[.map (some mp),.map (some mh),Ix (s.last),Ix ((s.su.plus x.a (-1)).a0),Ix ((s.su.plus x.a (-1)).a1),Ix ((s.su.plus x.a (-1)).a2),Ix ((s.su.plus x.a (-1)).a3),.map (some mm)] 88)⟩] [(0,pp zb 0),(3,pp b1 0),(6,Ix (eE s.ps x.owner x.a))] [2] ⟨rfl,rfl,rfl,trivial⟩ ⟨?_,?_,?_,?_,?_,?_,?_,?_,?_,?_,?_,trivial⟩ ?_
  ·rintro f M-⟨i0,-⟩
   exact aU dN
  ·rintro f M-⟨i0,-⟩
   exact aU dN
  ·rintro f M ⟨k0,-⟩-
   exact aU eM
  ·rintro f M ⟨k0,-⟩-
   exact aU aY
  ·rintro f M ⟨k0,-⟩-
   exact aU (dD 0)
  ·rintro f M-⟨i0,-⟩
   exact aU aY
  ·rintro f M ⟨k0,-⟩-
   exact aU (dD 0)
  ·rintro f M ⟨k0,k1,-⟩-
   refine dU (aB (d:=21) (aB (d:=19) rfl k0) k1) ?_
   refine iF iE (fun w β1 sb kn hw1=>uK β1 w hw1 s.su x.a (-1) (by decide) hsu hxa) (aH ?_)
   exact aO (aB (d:=21) (aB (d:=19) rfl k0) k1) rfl (List.Perm.refl _)
  ·rintro f M ⟨k0,-⟩-
   exact aU eM
  ·rintro f M ⟨k0,-⟩-
   exact aU aY
  ·rintro f M ⟨k0,k1,-⟩-
   refine dU (aB (d:=22) (aB (d:=24) rfl k0) k1) ?_
   refine lu (mS 0 (#[.map (some mp),.map (some mh),Ix (s.last),Ix ((s.su.plus x.a (-1)).a0),Ix ((s.su.plus x.a (-1)).a1),Ix ((s.su.plus x.a (-1)).a2),Ix ((s.su.plus x.a (-1)).a3),.map (some mm)])) ?_
   refine aH ?_
   exact bB (aB (d:=22) (aB (d:=24) rfl k0) k1) trivial (aA 0 rfl)
  rintro fa3 ⟨-,-,-,-,-,-,-,-,-,-,-,-⟩ ⟨j0,-⟩
  refine jI ?_
  refine aD (d:=6) j0 (kM (lE aX (lE bN (lE bN (aN (aT ?_))))))
  refine nF (v:= .int .i64 (0)) (v':=Ix (eE s.ps x.owner x.a)) Tryz.results68 rfl rfl ?_
  intro w hw
  replace hw:=hw.perm (L':=[pt zb (.cells #[.map (some mp),.map (some mh),Ix (s.last),Ix ((s.su.plus x.a (-1)).a0),Ix ((s.su.plus x.a (-1)).a1),Ix ((s.su.plus x.a (-1)).a2),Ix ((s.su.plus x.a (-1)).a3),.map (some mm)] 88),aZ bW mp (dJ s.ps x.owner x.a),aZ bK mh s.hs,pt b1 (.cells #[Bx (x.kind),Ix (x.owner),Ix (x.other),Ix (x.hold),Ix (x.a.a0),Ix (x.a.a1),Ix (x.a.a2),Ix (x.a.a3)] 47)]) (by exact(aV [3,0,2,1] 4 rfl (by kernel_rfl) (by kernel_rfl)))
  exact iR (V:=(⟨(dJ s.ps x.owner x.a),s.hs,s.last,(s.su.plus x.a (-1))⟩:KSt)) (show((⟨(dJ s.ps x.owner x.a),s.hs,s.last,(s.su.plus x.a (-1))⟩:KSt),0,eE s.ps x.owner x.a)=lQ s x by simp_all [lQ]) (aF (L':=[pt zb (.cells #[.map (some mp),.map (some mh),Ix (s.last),Ix ((s.su.plus x.a (-1)).a0),Ix ((s.su.plus x.a (-1)).a1),Ix ((s.su.plus x.a (-1)).a2),Ix ((s.su.plus x.a (-1)).a3),.map (some mm)] 88),aZ bW mp (dJ s.ps x.owner x.a),aZ bK mh s.hs]) [true,true,true,false] rfl hw)
 refine eF (bE (lE aX (lE bN (lE bN (aN (aT (nF (v:= .int .i64 (0)) (v':=Ix (eE s.ps x.owner x.a)) Tryz.results68 rfl rfl ?_)))))))
 intro w hw
 replace hw:=hw.perm (L':=[pt zb (.cells #[.map (some mp),.map (some mh),Ix (s.last),Ix (s.su.a0),Ix (s.su.a1),Ix (s.su.a2),Ix (s.su.a3),.map (some mm)] 88),aZ bW mp (dJ s.ps x.owner x.a),aZ bK mh s.hs,pt b1 (.cells #[Bx (x.kind),Ix (x.owner),Ix (x.other),Ix (x.hold),Ix (x.a.a0),Ix (x.a.a1),Ix (x.a.a2),Ix (x.a.a3)] 47)]) (by exact(aV [0,1,3,2] 4 rfl (by kernel_rfl) (by kernel_rfl)))
 exact iR (V:=(⟨(dJ s.ps x.owner x.a),s.hs,s.last,s.su⟩:KSt)) (show((⟨(dJ s.ps x.owner x.a),s.hs,s.last,s.su⟩:KSt),0,eE s.ps x.owner x.a)=lQ s x by simp_all [lQ]) (aF (L':=[pt zb (.cells #[.map (some mp),.map (some mh),Ix (s.last),Ix (s.su.a0),Ix (s.su.a1),Ix (s.su.a2),Ix (s.su.a3),.map (some mm)] 88),aZ bW mp (dJ s.ps x.owner x.a),aZ bK mh s.hs]) [true,true,true,false] rfl hw)
theorem aWp(β:Base)(w:World)(zb mp mh mm:Nat)(s:KSt)(hw:St β [pt zb (.cells (uX mp mh mm s.last s.su) 88),aZ bW mp s.ps,aZ bK mh s.hs] w)(hP:okP s.ps)(hH:okH s.hs)(hsu:s.su.bd 4611686018427387903)(hla: -4611686018427387903≤s.last∧s.last≤4611686018427387903)(x:KAct)(hxa:x.a.bd 4611686018427387903):Calls Tryz.prog 69 #[pp zb 0,.agg #[Bx (x.kind),Ix (x.owner),Ix (x.other),Ix (x.hold),Ix (x.a.a0),Ix (x.a.a1),Ix (x.a.a2),Ix (x.a.a3)]] w fun r w'=>r= .returned (.tuple #[Ix (kR s x).2.1,Ix (kR s x).2.2])∧St β [pt zb (.cells (uX mp mh mm (kR s x).1.last (kR s x).1.su) 88),aZ bW mp (kR s x).1.ps,aZ bK mh (kR s x).1.hs] w':=by
 refine enter (n:=22) Tryz.func69 rfl Tryz.ntmps69 rfl ?_ hw
 refine bE (mA fun b1=> ?_)
 refine lE bN (lE bN (aN (eS (aC (lE dN (lE aY (lE (cQ 0) (lE aY (lE (dD 0) ?_)))))))))
 refine aW rfl rfl rfl (cK (vs:=[pp zb 0,Ix (x.owner),.agg (eI x.a)]) bCj.ok rfl rfl) ?_
 intro w hw
 replace hw:=hw.perm (L':=_::_::_::_::[]) (by exact((((aA 3 rfl).trans (aA 1 rfl)).trans (aA 3 rfl)).trans (aA 3 rfl)))
 obtain⟨β1,sb,kn,hw1,back⟩:=St.frame (L:=[_,_]) (M:=_::_::[]) hw
 refine(aDy β1 w zb mp mh mm s.last s.su s.ps hw1 x.owner x.a _ rfl (tB hP _) hxa).mono ?_
 rintro e w' ⟨rfl,hw'⟩
 refine⟨_,rfl,_,back _ _ hw',?_⟩
 refine lE bN (eY (lE aX (lE lC (aN (cG _ rfl (fun hc2=> ?_) (fun hc2=> ?_))))))
 ·refine bE (lE aX (lE bN (lE bN (aN (aT (aI (nF (v:= .int .i64 (0)) (v':=Ix (eE s.ps x.owner x.a)) Tryz.results69 rfl rfl ?_)))))))
  intro w hw
  replace hw:=hw.perm (L':=[pt zb (.cells #[.map (some mp),.map (some mh),Ix (s.last),Ix (s.su.a0),Ix (s.su.a1),Ix (s.su.a2),Ix (s.su.a3),.map (some mm)] 88),aZ bW mp (dJ s.ps x.owner x.a),aZ bK mh s.hs,pt b1 (.cells #[Bx (x.kind),Ix (x.owner),Ix (x.other),Ix (x.hold),Ix (x.a.a0),Ix (x.a.a1),Ix (x.a.a2),Ix (x.a.a3)] 47)]) (by exact(aV [0,1,3,2] 4 rfl (by kernel_rfl) (by kernel_rfl)))
  exact iR (V:=(⟨(dJ s.ps x.owner x.a),s.hs,s.last,s.su⟩:KSt)) (show((⟨(dJ s.ps x.owner x.a),s.hs,s.last,s.su⟩:KSt),0,eE s.ps x.owner x.a)=kR s x by simp_all [kR]) (aF (L':=[pt zb (.cells #[.map (some mp),.map (some mh),Ix (s.last),Ix (s.su.a0),Ix (s.su.a1),Ix (s.su.a2),Ix (s.su.a3),.map (some mm)] 88),aZ bW mp (dJ s.ps x.owner x.a),aZ bK mh s.hs]) [true,true,true,false] rfl hw)
 refine eF (bE (lE dN (lE aY (lE (cQ 2) (lE aY (lE (dD 2) ?_))))))
 refine aW rfl rfl rfl (cK (vs:=[pp zb 0,Ix (x.other),.agg (eI x.a)]) bCi.ok rfl rfl) ?_
 intro w hw
 obtain⟨β1,sb,kn,hw1,back⟩:=St.frame (L:=[_,_]) (M:=_::_::[]) hw
 refine(aHg β1 w zb mp mh mm s.last s.su (dJ s.ps x.owner x.a) hw1 x.other x.a _ rfl (tB (rJ hP _ _) _) hxa).mono ?_
 rintro e w' ⟨rfl,hw'⟩
 refine⟨_,rfl,_,back _ _ hw',?_⟩
 refine lE bN (lE bN (aN (aT (nF (v:= .int .i64 (0)) (v':=Ix (gR (dJ s.ps x.owner x.a) x.other x.a)) Tryz.results69 rfl rfl ?_))))
 intro w hw
 replace hw:=hw.perm (L':=[pt zb (.cells #[.map (some mp),.map (some mh),Ix (s.last),Ix (s.su.a0),Ix (s.su.a1),Ix (s.su.a2),Ix (s.su.a3),.map (some mm)] 88),aZ bW mp (hG (dJ s.ps x.owner x.a) x.other x.a),aZ bK mh s.hs,pt b1 (.cells #[Bx (x.kind),Ix (x.owner),Ix (x.other),Ix (x.hold),Ix (x.a.a0),Ix (x.a.a1),Ix (x.a.a2),Ix (x.a.a3)] 47)]) (by exact(aV [0,1,3,2] 4 rfl (by kernel_rfl) (by kernel_rfl)))
 exact iR (V:=(⟨(hG (dJ s.ps x.owner x.a) x.other x.a),s.hs,s.last,s.su⟩:KSt)) (show((⟨(hG (dJ s.ps x.owner x.a) x.other x.a),s.hs,s.last,s.su⟩:KSt),0,gR (dJ s.ps x.owner x.a) x.other x.a)=kR s x by simp_all [kR]) (aF (L':=[pt zb (.cells #[.map (some mp),.map (some mh),Ix (s.last),Ix (s.su.a0),Ix (s.su.a1),Ix (s.su.a2),Ix (s.su.a3),.map (some mm)] 88),aZ bW mp (hG (dJ s.ps x.owner x.a) x.other x.a),aZ bK mh s.hs]) [true,true,true,false] rfl hw)
theorem aVw(β:Base)(w:World)(zb mp mh mm:Nat)(s:KSt)(hw:St β [pt zb (.cells (uX mp mh mm s.last s.su) 88),aZ bW mp s.ps,aZ bK mh s.hs] w)(hP:okP s.ps)(hH:okH s.hs)(hsu:s.su.bd 4611686018427387903)(hla: -4611686018427387903≤s.last∧s.last≤4611686018427387903)(x:KAct)(hxa:x.a.bd 4611686018427387903):Calls Tryz.prog 70 #[pp zb 0,.agg #[Bx (x.kind),Ix (x.owner),Ix (x.other),Ix (x.hold),Ix (x.a.a0),Ix (x.a.a1),Ix (x.a.a2),Ix (x.a.a3)]] w fun r w'=>r= .returned (.tuple #[Ix (jZ s x).2.1,Ix (jZ s x).2.2])∧St β [pt zb (.cells (uX mp mh mm (jZ s x).1.last (jZ s x).1.su) 88),aZ bW mp (jZ s x).1.ps,aZ bK mh (jZ s x).1.hs] w':=by
 refine enter (n:=50) Tryz.func70 rfl Tryz.ntmps70 rfl ?_ hw
 refine bE (mA fun b1=> ?_)
 refine lE bN (lE bN (aN (eS (aC (lE dN (lE aY (lE (cQ 0) (lE aY (lE (dD 0) ?_)))))))))
 refine aW rfl rfl rfl (cK (vs:=[pp zb 0,Ix (x.owner),.agg (eI x.a)]) bCj.ok rfl rfl) ?_
 intro w hw
 replace hw:=hw.perm (L':=_::_::_::_::[]) (by exact((((aA 3 rfl).trans (aA 1 rfl)).trans (aA 3 rfl)).trans (aA 3 rfl)))
 obtain⟨β1,sb,kn,hw1,back⟩:=St.frame (L:=[_,_]) (M:=_::_::[]) hw
 refine(aDy β1 w zb mp mh mm s.last s.su s.ps hw1 x.owner x.a _ rfl (tB hP _) hxa).mono ?_
 rintro e w' ⟨rfl,hw'⟩
 refine⟨_,rfl,_,back _ _ hw',?_⟩
 refine lE bN (eY (lE aX (lE lC (aN (cG _ rfl (fun hc2=> ?_) (fun hc2=> ?_))))))
 ·refine bE (lE aX (lE bN (lE bN (aN (aT (aI (nF (v:= .int .i64 (0)) (v':=Ix (eE s.ps x.owner x.a)) Tryz.results70 rfl rfl ?_)))))))
  intro w hw
  replace hw:=hw.perm (L':=[pt zb (.cells #[.map (some mp),.map (some mh),Ix (s.last),Ix (s.su.a0),Ix (s.su.a1),Ix (s.su.a2),Ix (s.su.a3),.map (some mm)] 88),aZ bW mp (dJ s.ps x.owner x.a),aZ bK mh s.hs,pt b1 (.cells #[Bx (x.kind),Ix (x.owner),Ix (x.other),Ix (x.hold),Ix (x.a.a0),Ix (x.a.a1),Ix (x.a.a2),Ix (x.a.a3)] 47)]) (by exact(aV [0,1,3,2] 4 rfl (by kernel_rfl) (by kernel_rfl)))
  exact iR (V:=(⟨(dJ s.ps x.owner x.a),s.hs,s.last,s.su⟩:KSt)) (show((⟨(dJ s.ps x.owner x.a),s.hs,s.last,s.su⟩:KSt),0,eE s.ps x.owner x.a)=jZ s x by simp_all [jZ]) (aF (L':=[pt zb (.cells #[.map (some mp),.map (some mh),Ix (s.last),Ix (s.su.a0),Ix (s.su.a1),Ix (s.su.a2),Ix (s.su.a3),.map (some mm)] 88),aZ bW mp (dJ s.ps x.owner x.a),aZ bK mh s.hs]) [true,true,true,false] rfl hw)
 refine eF (eS (aC (lE dN (lE eM (lE aY (lv (v:= .map (some mh)) (bH uZ.ok rfl (bY 0 rfl rfl)) ?_))))))
 refine lv (v:=Nx (s.hs.length)) (yD (K:=bK) (b:=mh) (ks:=s.hs) rfl rfl (bF.of_res 3 rfl (aZ.mono _ _ _) fun _ h=>h)) (lE oge ?_)
 refine aN (cG _ rfl (fun hc3=> ?_) (fun hc3=> ?_))
 ·refine bE (lE bN (lE bN (aN (aT (aI (nF (v:= .int .i64 (0)) (v':= .int .i64 (5)) Tryz.results70 rfl rfl ?_))))))
  intro w hw
  replace hw:=hw.perm (L':=[pt zb (.cells #[.map (some mp),.map (some mh),Ix (s.last),Ix (s.su.a0),Ix (s.su.a1),Ix (s.su.a2),Ix (s.su.a3),.map (some mm)] 88),aZ bW mp (dJ s.ps x.owner x.a),aZ bK mh s.hs,pt b1 (.cells #[Bx (x.kind),Ix (x.owner),Ix (x.other),Ix (x.hold),Ix (x.a.a0),Ix (x.a.a1),Ix (x.a.a2),Ix (x.a.a3)] 47)]) (by exact(aV [0,1,3,2] 4 rfl (by kernel_rfl) (by kernel_rfl)))
  exact iR (V:=(⟨(dJ s.ps x.owner x.a),s.hs,s.last,s.su⟩:KSt)) (show((⟨(dJ s.ps x.owner x.a),s.hs,s.last,s.su⟩:KSt),0,5)=jZ s x by simp_all [jZ]) (aF (L':=[pt zb (.cells #[.map (some mp),.map (some mh),Ix (s.last),Ix (s.su.a0),Ix (s.su.a1),Ix (s.su.a2),Ix (s.su.a3),.map (some mm)] 88),aZ bW mp (dJ s.ps x.owner x.a),aZ bK mh s.hs]) [true,true,true,false] rfl hw)
 refine eF (bE (lE dN (lE eM (lE aY (lE (cQ 0) (lE qR (lE eM (lE aY ?_))))))))
 refine lu (mS 0 (#[.map (some mp),.map (some mh),Ix ((s.last)+(1:Int)),Ix (s.su.a0),Ix (s.su.a1),Ix (s.su.a2),Ix (s.su.a3),.map (some mm)])) ?_
 refine aN (aL ?_)
 refine jH [sv 29 (pp zb 0) [] [] [0],sv 30 (pp zb 0) [0] [0] [],sv 31 (pp zb 1) [0,1] [1] [],sv 32 (.map (some mh)) [0,1,2] [2] [],sv 33 (pp zb 0) [] [] [0],sv 34 (pp zb 0) [4] [4] [],sv 35 (pp zb 2) [4,5] [5] [],sv 36 (Ix ((s.last)+(1:Int))) [4,5,6] [6] [],sv 37 (pp zb 0) [] [] [0],sv 38 (pp zb 0) [8] [8] [],sv 39 (pp zb 2) [8,9] [9] [],sv 40 (Ix ((s.last)+(1:Int))) [8,9,10] [10] [],sv 41 (pp b1 1) [] [] [1],sv 42 (Ix (x.owner)) [12] [12] [],sv 43 (pp b1 4) [] [] [1],sv 44 (.agg (eI x.a)) [14] [14] [],sv 45 (.agg #[Ix ((s.last)+(1:Int)),Ix (x.owner),Ix (x.a.a0),Ix (x.a.a1),Ix (x.a.a2),Ix (x.a.a3)]) [8,9,10,11,12,13,14,15] [11,13,15] [],⟨(List.range 17),[3,7,16],[],[],fun _=>True⟩] [u1 [3,7,11],u0,u1 [13,15],(some 17,[17])] [⟨(some 17),none,[],[],fun _=>aZ bK mh (bK.put s.hs ((s.last)+(1:Int)) (⟨(s.last)+(1:Int),x.owner,x.a⟩:KHo))⟩] [(0,pp zb 0),(3,pp b1 0)] [0] ⟨rfl,rfl,trivial⟩ ⟨?_,?_,?_,?_,?_,?_,?_,?_,?_,?_,?_,?_,?_,?_,?_,?_,?_,?_,trivial⟩ ?_
 ·rintro f M-⟨i0,-⟩
  exact aU dN
 ·rintro f M ⟨k0,-⟩-
  exact aU eM
 ·rintro f M ⟨k0,-⟩-
  exact aU aY
 ·rintro f M ⟨k0,-⟩-
  exact wL (L':=pt zb (.cells #[.map (some mp),.map (some mh),Ix ((s.last)+(1:Int)),Ix (s.su.a0),Ix (s.su.a1),Ix (s.su.a2),Ix (s.su.a3),.map (some mm)] 88)::M) (aB (d:=31) rfl k0) rfl (bH uZ.ok rfl (bY 0 rfl rfl)) (aA 0 rfl) (by rfl)
 ·rintro f M-⟨i0,-⟩
  exact aU dN
 ·rintro f M ⟨k0,-⟩-
  exact aU eM
 ·rintro f M ⟨k0,-⟩-
  exact aU aY
 ·rintro f M ⟨k0,-⟩-
  exact aU (cQ 0)
 ·rintro f M-⟨i0,-⟩
  exact aU dN
 ·rintro f M ⟨k0,-⟩-
  exact aU eM
 ·rintro f M ⟨k0,-⟩-
  exact aU aY
 ·rintro f M ⟨k0,-⟩-
  exact aU (cQ 0)
 ·rintro f M-⟨i0,-⟩
  exact aU aY
 ·rintro f M ⟨k0,-⟩-
  exact aU (cQ 0)
 ·rintro f M-⟨i0,-⟩
  exact aU aY
 ·rintro f M ⟨k0,-⟩-
  exact aU (dD 0)
 ·rintro f M ⟨k0,k1,k2,-⟩-
  exact hO (aB (d:=44) (aB (d:=42) (aB (d:=40) rfl k0) k1) k2) rfl (cR aTt.ok aYd (vs:=[(0,Ix ((s.last)+(1:Int))),(1,Ix (x.owner)),(2,.agg (eI x.a))]) (cells:= #[Ix ((s.last)+(1:Int)),Ix (x.owner),Ix (x.a.a0),Ix (x.a.a1),Ix (x.a.a2),Ix (x.a.a3)]) rfl rfl) (.refl _)
 ·rintro f M ⟨k0,k1,k2,-⟩-
  refine dU (aB (d:=45) (aB (d:=36) (aB (d:=32) rfl k0) k1) k2) ?_
  refine lu (qY (K:=bK) (b:=mh) (ks:=s.hs) (k:=((s.last)+(1:Int))) (v:=(⟨(s.last)+(1:Int),x.owner,x.a⟩:KHo)) 0 rfl rfl rfl rfl rfl) ?_
  refine aH ?_
  exact bB (aB (d:=45) (aB (d:=36) (aB (d:=32) rfl k0) k1) k2) trivial (aA 0 rfl)
 rintro fa4 ⟨-,-,-,-,-,-,-,-,-,-,-,-,-,-,-,-,-,-,-⟩ ⟨j0,-⟩
 refine jI ?_
 refine aD (d:=0) j0 (kM (lE dN (lE eM (lE aY (lE (cQ 0) (lE bN (lE bN (aN (aT ?_)))))))))
 refine nF (v:=Ix ((s.last)+(1:Int))) (v':= .int .i64 (0)) Tryz.results70 rfl rfl ?_
 intro w hw
 replace hw:=hw.perm (L':=[pt zb (.cells #[.map (some mp),.map (some mh),Ix ((s.last)+(1:Int)),Ix (s.su.a0),Ix (s.su.a1),Ix (s.su.a2),Ix (s.su.a3),.map (some mm)] 88),aZ bW mp (dJ s.ps x.owner x.a),aZ bK mh (bK.put s.hs ((s.last)+(1:Int)) (⟨(s.last)+(1:Int),x.owner,x.a⟩:KHo)),pt b1 (.cells #[Bx (x.kind),Ix (x.owner),Ix (x.other),Ix (x.hold),Ix (x.a.a0),Ix (x.a.a1),Ix (x.a.a2),Ix (x.a.a3)] 47)]) (by exact(aV [0,1,3,2] 4 rfl (by kernel_rfl) (by kernel_rfl)))
 exact iR (V:=(⟨(dJ s.ps x.owner x.a),(bK.put s.hs ((s.last)+(1:Int)) (⟨(s.last)+(1:Int),x.owner,x.a⟩:KHo)),(s.last)+(1:Int),s.su⟩:KSt)) (show((⟨(dJ s.ps x.owner x.a),(bK.put s.hs ((s.last)+(1:Int)) (⟨(s.last)+(1:Int),x.owner,x.a⟩:KHo)),(s.last)+(1:Int),s.su⟩:KSt),(s.last)+(1:Int),0)=jZ s x by simp_all [jZ]) (aF (L':=[pt zb (.cells #[.map (some mp),.map (some mh),Ix ((s.last)+(1:Int)),Ix (s.su.a0),Ix (s.su.a1),Ix (s.su.a2),Ix (s.su.a3),.map (some mm)] 88),aZ bW mp (dJ s.ps x.owner x.a),aZ bK mh (bK.put s.hs ((s.last)+(1:Int)) (⟨(s.last)+(1:Int),x.owner,x.a⟩:KHo))]) [true,true,true,false] rfl hw)
theorem aRz(β:Base)(w:World)(zb mp mh mm:Nat)(s:KSt)(hw:St β [pt zb (.cells (uX mp mh mm s.last s.su) 88),aZ bW mp s.ps,aZ bK mh s.hs] w)(hP:okP s.ps)(hH:okH s.hs)(hsu:s.su.bd 4611686018427387903)(hla: -4611686018427387903≤s.last∧s.last≤4611686018427387903)(x:KAct)(hxa:x.a.bd 4611686018427387903):Calls Tryz.prog 72 #[pp zb 0,.agg #[Bx (x.kind),Ix (x.owner),Ix (x.other),Ix (x.hold),Ix (x.a.a0),Ix (x.a.a1),Ix (x.a.a2),Ix (x.a.a3)]] w fun r w'=>r= .returned (.tuple #[Ix (dZ s x.hold x.other).2.1,Ix (dZ s x.hold x.other).2.2])∧St β [pt zb (.cells (uX mp mh mm (dZ s x.hold x.other).1.last (dZ s x.hold x.other).1.su) 88),aZ bW mp (dZ s x.hold x.other).1.ps,aZ bK mh (dZ s x.hold x.other).1.hs] w':=by
 refine enter (n:=32) Tryz.func72 rfl Tryz.ntmps72 rfl ?_ hw
 refine bE (mA fun b1=> ?_)
 refine lE bN (lE bN (aN (aL ?_)))
 refine jH [sv 9 (pp zb 0) [] [] [0],sv 10 (pp zb 0) [0] [0] [],sv 11 (pp zb 1) [0,1] [1] [],sv 12 (.map (some mh)) [0,1,2] [2] [],sv 13 (pp b1 3) [] [] [1],sv 14 (Ix (x.hold)) [4] [4] [],sv 15 (.tuple #[.agg #[Ix (((bK.look s.hs (x.hold)).getD bC).number),Ix (((bK.look s.hs (x.hold)).getD bC).owner),Ix (((bK.look s.hs (x.hold)).getD bC).a.a0),Ix (((bK.look s.hs (x.hold)).getD bC).a.a1),Ix (((bK.look s.hs (x.hold)).getD bC).a.a2),Ix (((bK.look s.hs (x.hold)).getD bC).a.a3)],.bool ((bK.look s.hs (x.hold)).isSome)]) (List.range 6) [3,5] [],sv 8 (.tuple #[.agg #[Ix (((bK.look s.hs (x.hold)).getD bC).number),Ix (((bK.look s.hs (x.hold)).getD bC).owner),Ix (((bK.look s.hs (x.hold)).getD bC).a.a0),Ix (((bK.look s.hs (x.hold)).getD bC).a.a1),Ix (((bK.look s.hs (x.hold)).getD bC).a.a2),Ix (((bK.look s.hs (x.hold)).getD bC).a.a3)],.bool ((bK.look s.hs (x.hold)).isSome)]) (List.range 7) [6] [],sv 16 (.agg #[Ix (((bK.look s.hs (x.hold)).getD bC).number),Ix (((bK.look s.hs (x.hold)).getD bC).owner),Ix (((bK.look s.hs (x.hold)).getD bC).a.a0),Ix (((bK.look s.hs (x.hold)).getD bC).a.a1),Ix (((bK.look s.hs (x.hold)).getD bC).a.a2),Ix (((bK.look s.hs (x.hold)).getD bC).a.a3)]) (List.range 8) [7] [],sv 17 (.bool ((bK.look s.hs (x.hold)).isSome)) (List.range 8) [7] [],⟨[],[],[],[6],fun f=>f 6= .pointer (some ⟨(cU (f 6)),0,none⟩)⟩,⟨[0,1,2,3,4,5,6,7,8,10],[10,8],[],[],fun _=>True⟩,sv 7 (.bool ((bK.look s.hs (x.hold)).isSome)) (List.range 12) [9] []] [u1 [5],u1 [3],u0,u1 [6]] [⟨(some 10),(some 11),[11],[6],fun f=>pt (cU (f 6)) (.cells #[.int .i64 (0),.int .i64 (0),.int .i64 (0),.int .i64 (0),.int .i64 (0),.int .i64 (0)] 104)⟩,⟨(some 11),none,[],[6],fun f=>pt (cU (f 6)) (.cells #[Ix (((bK.look s.hs (x.hold)).getD bC).number),Ix (((bK.look s.hs (x.hold)).getD bC).owner),Ix (((bK.look s.hs (x.hold)).getD bC).a.a0),Ix (((bK.look s.hs (x.hold)).getD bC).a.a1),Ix (((bK.look s.hs (x.hold)).getD bC).a.a2),Ix (((bK.look s.hs (x.hold)).getD bC).a.a3)] 104)⟩] [(0,pp zb 0),(3,pp b1 0)] [0,1] ⟨rfl,rfl,trivial⟩ ⟨?_,?_,?_,?_,?_,?_,?_,?_,?_,?_,?_,?_,?_,trivial⟩ ?_
 ·rintro f M-⟨i0,-⟩
  exact aU dN
 ·rintro f M ⟨k0,-⟩-
  exact aU eM
 ·rintro f M ⟨k0,-⟩-
  exact aU aY
 ·rintro f M ⟨k0,-⟩-
  exact wL (L':=pt zb (.cells #[.map (some mp),.map (some mh),Ix (s.last),Ix (s.su.a0),Ix (s.su.a1),Ix (s.su.a2),Ix (s.su.a3),.map (some mm)] 88)::M) (aB (d:=11) rfl k0) rfl (bH uZ.ok rfl (bY 0 rfl rfl)) (aA 0 rfl) (by rfl)
 ·rintro f M-⟨i0,-⟩
  exact aU aY
 ·rintro f M ⟨k0,-⟩-
  exact aU (cQ 0)
 ·rintro f M ⟨k0,k1,-⟩-
  exact wL (L':=aZ bK mh s.hs::M) (aB (d:=14) (aB (d:=12) rfl k0) k1) rfl (xD (K:=bK) (b:=mh) (ks:=s.hs) (k:=(x.hold)) rfl rfl rfl (bF.of_res 0 rfl (aZ.mono _ _ _) fun _ h=>h)) (aA 0 rfl) (by rfl)
 ·rintro f M ⟨k0,-⟩-
  exact aU oE
 ·rintro f M ⟨k0,-⟩-
  exact aU qS
 ·rintro f M ⟨k0,-⟩-
  exact aU xK
 ·rintro f M- -
  refine dU rfl ?_
  refine gB fun b3=>aH ?_
  exact aO rfl rfl (aA 0 rfl)
 ·rintro f M ⟨k0,k1,-⟩-
  have hs6:f 6= .pointer (some ⟨(cU (f 6)),0,none⟩):=k0
  refine dU (aB (d:=16) (aB rfl hs6) k1) ?_
  refine lu (mS 0 (#[Ix (((bK.look s.hs (x.hold)).getD bC).number),Ix (((bK.look s.hs (x.hold)).getD bC).owner),Ix (((bK.look s.hs (x.hold)).getD bC).a.a0),Ix (((bK.look s.hs (x.hold)).getD bC).a.a1),Ix (((bK.look s.hs (x.hold)).getD bC).a.a2),Ix (((bK.look s.hs (x.hold)).getD bC).a.a3)])) ?_
  refine aH ?_
  exact bB (aB (d:=16) (aB rfl hs6) k1) trivial (aA 0 rfl)
 ·rintro f M ⟨k0,-⟩-
  exact aU dW
 rintro fa4 ⟨-,-,-,-,-,-,-,-,-,-,k10,-,k12,-⟩ ⟨j0,j1,-⟩
 refine jI ?_
 refine aD (d:=0) j0 (aD (d:=3) j1 (aD (d:=6) k10 (aD (d:=7) k12 (rT (bE (lE fJ (lE lX (aN ?_))))))))
 refine fE (!((bK.look s.hs (x.hold)).isSome)) rfl (fun hc5=> ?_) (fun hc5=> ?_)
 ·refine bE (lE bN (lE bN (aN (aT (aI (nF (v:= .int .i64 (0)) (v':= .int .i64 (6)) Tryz.results72 rfl rfl ?_))))))
  intro w hw
  replace hw:=hw.perm (L':=[pt zb (.cells #[.map (some mp),.map (some mh),Ix (s.last),Ix (s.su.a0),Ix (s.su.a1),Ix (s.su.a2),Ix (s.su.a3),.map (some mm)] 88),aZ bW mp s.ps,aZ bK mh s.hs,pt b1 (.cells #[Bx (x.kind),Ix (x.owner),Ix (x.other),Ix (x.hold),Ix (x.a.a0),Ix (x.a.a1),Ix (x.a.a2),Ix (x.a.a3)] 47),pt (cU (fa4 6)) (.cells #[Ix (((bK.look s.hs (x.hold)).getD bC).number),Ix (((bK.look s.hs (x.hold)).getD bC).owner),Ix (((bK.look s.hs (x.hold)).getD bC).a.a0),Ix (((bK.look s.hs (x.hold)).getD bC).a.a1),Ix (((bK.look s.hs (x.hold)).getD bC).a.a2),Ix (((bK.look s.hs (x.hold)).getD bC).a.a3)] 104)]) (by exact(aV [1,2,3,0,4] 5 rfl (by kernel_rfl) (by kernel_rfl)))
  exact iR (V:=(⟨s.ps,s.hs,s.last,s.su⟩:KSt)) (show((⟨s.ps,s.hs,s.last,s.su⟩:KSt),0,6)=dZ s x.hold x.other by simp_all [dZ,mB]) (aF (L':=[pt zb (.cells #[.map (some mp),.map (some mh),Ix (s.last),Ix (s.su.a0),Ix (s.su.a1),Ix (s.su.a2),Ix (s.su.a3),.map (some mm)] 88),aZ bW mp s.ps,aZ bK mh s.hs]) [true,true,true,false,false] rfl hw)
 refine eF (aL ?_)
 refine jH [sv 20 (pp zb 0) [] [] [0],sv 21 (pp zb 0) [0] [0] [],sv 22 (pp zb 1) [0,1] [1] [],sv 23 (.map (some mh)) [0,1,2] [2] [],sv 24 (pp b1 3) [] [] [1],sv 25 (Ix (x.hold)) [4] [4] [],⟨(List.range 6),[3,5],[],[],fun _=>True⟩] [u1 [5],u1 [3],u0,(some 6,[6])] [⟨(some 6),none,[],[],fun _=>aZ bK mh (bK.del s.hs (x.hold))⟩] [(0,pp zb 0),(3,pp b1 0),(6,.pointer (some ⟨(cU (fa4 6)),0,none⟩))] [0,1,2] ⟨rfl,rfl,rfl,trivial⟩ ⟨?_,?_,?_,?_,?_,?_,?_,trivial⟩ ?_
 ·rintro f M-⟨i0,-⟩
  exact aU dN
 ·rintro f M ⟨k0,-⟩-
  exact aU eM
 ·rintro f M ⟨k0,-⟩-
  exact aU aY
 ·rintro f M ⟨k0,-⟩-
  exact wL (L':=pt zb (.cells #[.map (some mp),.map (some mh),Ix (s.last),Ix (s.su.a0),Ix (s.su.a1),Ix (s.su.a2),Ix (s.su.a3),.map (some mm)] 88)::M) (aB (d:=22) rfl k0) rfl (bH uZ.ok rfl (bY 0 rfl rfl)) (aA 0 rfl) (by rfl)
 ·rintro f M-⟨i0,-⟩
  exact aU aY
 ·rintro f M ⟨k0,-⟩-
  exact aU (cQ 0)
 ·rintro f M ⟨k0,k1,-⟩-
  refine dU (aB (d:=25) (aB (d:=23) rfl k0) k1) ?_
  refine bEa rfl rfl (aRf (K:=bK) (b:=mh) (ks:=s.hs) (k:=(x.hold)) 0 rfl rfl rfl rfl) ?_
  rintro _ _ ⟨rfl,rfl⟩
  refine aH ?_
  exact bB (aB (d:=25) (aB (d:=23) rfl k0) k1) trivial (aA 0 rfl)
 rintro fa6 ⟨-,-,-,-,-,-,-,-⟩ ⟨j0,j1,j2,-⟩
 refine jI ?_
 refine aD (d:=0) j0 (aD (d:=3) j1 (aD (d:=6) j2 (kM (lE dN (lE aY (lE (cQ 0) (lE aY (lE (dD 3) ?_))))))))
 refine aW rfl rfl rfl (cK (vs:=[pp zb 0,Ix (x.other),.agg #[Ix (((bK.look s.hs (x.hold)).getD bC).a.a0),Ix (((bK.look s.hs (x.hold)).getD bC).a.a1),Ix (((bK.look s.hs (x.hold)).getD bC).a.a2),Ix (((bK.look s.hs (x.hold)).getD bC).a.a3)]]) bCi.ok rfl rfl) ?_
 intro w hw
 replace hw:=hw.perm (L':=_::_::_::_::_::[]) (by exact(((((aA 4 rfl).trans (aA 4 rfl)).trans (aA 2 rfl)).trans (aA 4 rfl)).trans (aA 4 rfl)))
 obtain⟨β1,sb,kn,hw1,back⟩:=St.frame (L:=[_,_]) (M:=_::_::_::[]) hw
 refine(aHg β1 w zb mp mh mm s.last s.su s.ps hw1 x.other (((bK.look s.hs (x.hold)).getD bC).a) _ rfl (tB hP _) (bBs hH _)).mono ?_
 rintro e w' ⟨rfl,hw'⟩
 refine⟨_,rfl,_,back _ _ hw',?_⟩
 refine lE bN (lE bN (aN (aT ?_)))
 refine nF (v:= .int .i64 (0)) (v':=Ix (gR s.ps x.other (((bK.look s.hs (x.hold)).getD bC).a))) Tryz.results72 rfl rfl ?_
 intro w hw
 replace hw:=hw.perm (L':=[pt zb (.cells #[.map (some mp),.map (some mh),Ix (s.last),Ix (s.su.a0),Ix (s.su.a1),Ix (s.su.a2),Ix (s.su.a3),.map (some mm)] 88),aZ bW mp (hG s.ps x.other (((bK.look s.hs (x.hold)).getD bC).a)),aZ bK mh (bK.del s.hs (x.hold)),pt b1 (.cells #[Bx (x.kind),Ix (x.owner),Ix (x.other),Ix (x.hold),Ix (x.a.a0),Ix (x.a.a1),Ix (x.a.a2),Ix (x.a.a3)] 47),pt (cU (fa4 6)) (.cells #[Ix (((bK.look s.hs (x.hold)).getD bC).number),Ix (((bK.look s.hs (x.hold)).getD bC).owner),Ix (((bK.look s.hs (x.hold)).getD bC).a.a0),Ix (((bK.look s.hs (x.hold)).getD bC).a.a1),Ix (((bK.look s.hs (x.hold)).getD bC).a.a2),Ix (((bK.look s.hs (x.hold)).getD bC).a.a3)] 104)]) (by exact(aV [0,1,4,2,3] 5 rfl (by kernel_rfl) (by kernel_rfl)))
 exact iR (V:=(⟨(hG s.ps x.other (((bK.look s.hs (x.hold)).getD bC).a)),(bK.del s.hs (x.hold)),s.last,s.su⟩:KSt)) (show((⟨(hG s.ps x.other (((bK.look s.hs (x.hold)).getD bC).a)),(bK.del s.hs (x.hold)),s.last,s.su⟩:KSt),0,gR s.ps x.other (((bK.look s.hs (x.hold)).getD bC).a))=dZ s x.hold x.other by simp_all [dZ,mB]) (aF (L':=[pt zb (.cells #[.map (some mp),.map (some mh),Ix (s.last),Ix (s.su.a0),Ix (s.su.a1),Ix (s.su.a2),Ix (s.su.a3),.map (some mm)] 88),aZ bW mp (hG s.ps x.other (((bK.look s.hs (x.hold)).getD bC).a)),aZ bK mh (bK.del s.hs (x.hold))]) [true,true,true,false,false] rfl hw)
theorem aVt(β:Base)(w:World)(zb mp mh mm:Nat)(s:KSt)(hw:St β [pt zb (.cells (uX mp mh mm s.last s.su) 88),aZ bW mp s.ps,aZ bK mh s.hs] w)(hP:okP s.ps)(hH:okH s.hs)(hsu:s.su.bd 4611686018427387903)(hla: -4611686018427387903≤s.last∧s.last≤4611686018427387903)(x:KAct)(hxa:x.a.bd 4611686018427387903):Calls Tryz.prog 71 #[pp zb 0,.agg #[Bx (x.kind),Ix (x.owner),Ix (x.other),Ix (x.hold),Ix (x.a.a0),Ix (x.a.a1),Ix (x.a.a2),Ix (x.a.a3)]] w fun r w'=>r= .returned (.tuple #[Ix (dZ s x.hold (mB s.hs x.hold).owner).2.1,Ix (dZ s x.hold (mB s.hs x.hold).owner).2.2])∧St β [pt zb (.cells (uX mp mh mm (dZ s x.hold (mB s.hs x.hold).owner).1.last (dZ s x.hold (mB s.hs x.hold).owner).1.su) 88),aZ bW mp (dZ s x.hold (mB s.hs x.hold).owner).1.ps,aZ bK mh (dZ s x.hold (mB s.hs x.hold).owner).1.hs] w':=by
 refine enter (n:=21) Tryz.func71 rfl Tryz.ntmps71 rfl ?_ hw
 refine bE (mA fun b1=> ?_)
 refine lE bN (lE bN (aN (aL ?_)))
 refine jH [sv 6 (pp zb 0) [] [] [0],sv 7 (pp b1 3) [] [] [1],sv 8 (Ix (x.hold)) [1] [1] [],sv 9 (pp zb 0) [] [] [0],sv 10 (pp zb 0) [3] [3] [],sv 11 (pp zb 1) [3,4] [4] [],sv 12 (.map (some mh)) [3,4,5] [5] [],sv 13 (pp b1 3) [] [] [1],sv 14 (Ix (x.hold)) [7] [7] [],sv 15 (.agg #[Ix (((bK.look s.hs (x.hold)).getD bC).number),Ix (((bK.look s.hs (x.hold)).getD bC).owner),Ix (((bK.look s.hs (x.hold)).getD bC).a.a0),Ix (((bK.look s.hs (x.hold)).getD bC).a.a1),Ix (((bK.look s.hs (x.hold)).getD bC).a.a2),Ix (((bK.look s.hs (x.hold)).getD bC).a.a3)]) [3,4,5,6,7,8] [6,8] [],sv 16 (Ix (((bK.look s.hs (x.hold)).getD bC).owner)) [3,4,5,6,7,8,9] [9] [],sv 17 (.agg #[.int .u8 (0),.int .i64 (0),Ix (((bK.look s.hs (x.hold)).getD bC).owner),Ix (x.hold),.int .i64 (0),.int .i64 (0),.int .i64 (0),.int .i64 (0)]) [1,2,3,4,5,6,7,8,9,10] [2,10] [],sv 18 (.tuple #[Ix ((dZ s x.hold (((bK.look s.hs (x.hold)).getD bC).owner)).2.1),Ix ((dZ s x.hold (((bK.look s.hs (x.hold)).getD bC).owner)).2.2)]) (List.range 12) [0,11] [],sv 19 (Ix ((dZ s x.hold (((bK.look s.hs (x.hold)).getD bC).owner)).2.1)) (List.range 13) [12] [],sv 20 (Ix ((dZ s x.hold (((bK.look s.hs (x.hold)).getD bC).owner)).2.2)) (List.range 13) [12] [],sv 4 (Ix ((dZ s x.hold (((bK.look s.hs (x.hold)).getD bC).owner)).2.1)) (List.range 15) [13] [],sv 5 (Ix ((dZ s x.hold (((bK.look s.hs (x.hold)).getD bC).owner)).2.2)) (List.range 16) [14] []] [u1 [2,8],(some 12,[6,12]),(some 12,[12]),(some 12,[9,12])] [⟨(some 12),none,[],[],fun _=>pt zb (.cells #[.map (some mp),.map (some mh),Ix ((dZ s x.hold (((bK.look s.hs (x.hold)).getD bC).owner)).1.last),Ix ((dZ s x.hold (((bK.look s.hs (x.hold)).getD bC).owner)).1.su.a0),Ix ((dZ s x.hold (((bK.look s.hs (x.hold)).getD bC).owner)).1.su.a1),Ix ((dZ s x.hold (((bK.look s.hs (x.hold)).getD bC).owner)).1.su.a2),Ix ((dZ s x.hold (((bK.look s.hs (x.hold)).getD bC).owner)).1.su.a3),.map (some mm)] 88)⟩,⟨(some 12),none,[],[],fun _=>aZ bW mp ((dZ s x.hold (((bK.look s.hs (x.hold)).getD bC).owner)).1.ps)⟩,⟨(some 12),none,[],[],fun _=>aZ bK mh ((dZ s x.hold (((bK.look s.hs (x.hold)).getD bC).owner)).1.hs)⟩] [(0,pp zb 0),(3,pp b1 0)] [] ⟨rfl,rfl,trivial⟩ ⟨?_,?_,?_,?_,?_,?_,?_,?_,?_,?_,?_,?_,?_,?_,?_,?_,?_,trivial⟩ ?_
 ·rintro f M-⟨i0,-⟩
  exact aU dN
 ·rintro f M-⟨i0,-⟩
  exact aU aY
 ·rintro f M ⟨k0,-⟩-
  exact aU (cQ 0)
 ·rintro f M-⟨i0,-⟩
  exact aU dN
 ·rintro f M ⟨k0,-⟩-
  exact aU eM
 ·rintro f M ⟨k0,-⟩-
  exact aU aY
 ·rintro f M ⟨k0,-⟩-
  exact wL (L':=pt zb (.cells #[.map (some mp),.map (some mh),Ix (s.last),Ix (s.su.a0),Ix (s.su.a1),Ix (s.su.a2),Ix (s.su.a3),.map (some mm)] 88)::M) (aB (d:=11) rfl k0) rfl (bH uZ.ok rfl (bY 0 rfl rfl)) (aA 0 rfl) (by rfl)
 ·rintro f M-⟨i0,-⟩
  exact aU aY
 ·rintro f M ⟨k0,-⟩-
  exact aU (cQ 0)
 ·rintro f M ⟨k0,k1,-⟩-
  exact wL (L':=aZ bK mh s.hs::M) (aB (d:=14) (aB (d:=12) rfl k0) k1) rfl (lA (K:=bK) (b:=mh) (ks:=s.hs) (k:=(x.hold)) rfl rfl rfl (bF.of_res 0 rfl (aZ.mono _ _ _) fun _ h=>h)) (aA 0 rfl) (by rfl)
 ·rintro f M ⟨k0,-⟩-
  exact hO (aB (d:=15) rfl k0) rfl (aPx (cs:= #[Ix (((bK.look s.hs (x.hold)).getD bC).number),Ix (((bK.look s.hs (x.hold)).getD bC).owner),Ix (((bK.look s.hs (x.hold)).getD bC).a.a0),Ix (((bK.look s.hs (x.hold)).getD bC).a.a1),Ix (((bK.look s.hs (x.hold)).getD bC).a.a2),Ix (((bK.look s.hs (x.hold)).getD bC).a.a3)]) rfl bIe.ok rfl) (.refl _)
 ·rintro f M ⟨k0,k1,-⟩-
  exact hO (aB (d:=16) (aB (d:=8) rfl k0) k1) rfl (cR aGu.ok bCk (vs:=[(3,Ix (x.hold)),(2,Ix (((bK.look s.hs (x.hold)).getD bC).owner))]) (cells:= #[.int .u8 (0),.int .i64 (0),Ix (((bK.look s.hs (x.hold)).getD bC).owner),Ix (x.hold),.int .i64 (0),.int .i64 (0),.int .i64 (0),.int .i64 (0)]) rfl rfl) (.refl _)
 ·rintro f M ⟨k0,k1,-⟩-
  refine dU (aB (d:=17) (aB (d:=6) rfl k0) k1) ?_
  refine aW rfl rfl rfl (cK (vs:=[pp zb 0,.agg #[.int .u8 (0),.int .i64 (0),Ix (((bK.look s.hs (x.hold)).getD bC).owner),Ix (x.hold),.int .i64 (0),.int .i64 (0),.int .i64 (0),.int .i64 (0)]]) bIf.ok rfl rfl) ?_
  intro w hw
  obtain⟨β1,sb,kn,hw1,back⟩:=St.frame (L:=[_,_,_]) (M:=M) hw
  refine(aRz β1 w zb mp mh mm s hw1 hP hH hsu hla (⟨0,0,((bK.look s.hs (x.hold)).getD bC).owner,x.hold,zeroA⟩:KAct) aYs).mono ?_
  rintro e w' ⟨rfl,hw'⟩
  refine⟨_,rfl,_,back _ _ hw',?_⟩
  refine aH ?_
  exact aO (aB (d:=17) (aB (d:=6) rfl k0) k1) rfl (((aA 2 rfl).trans (aA 2 rfl)).trans (aA 2 rfl))
 ·rintro f M ⟨k0,-⟩-
  exact aU pO
 ·rintro f M ⟨k0,-⟩-
  exact aU pO
 ·rintro f M ⟨k0,-⟩-
  exact aU bN
 ·rintro f M ⟨k0,-⟩-
  exact aU bN
 rintro fa2 ⟨-,-,-,-,-,-,-,-,-,-,-,-,-,-,-,k15,k16,-⟩-
 refine jI ?_
 refine aD (d:=4) k15 (aD (d:=5) k16 (ftr ?_))
 refine nF (v:=Ix ((dZ s x.hold (((bK.look s.hs (x.hold)).getD bC).owner)).2.1)) (v':=Ix ((dZ s x.hold (((bK.look s.hs (x.hold)).getD bC).owner)).2.2)) Tryz.results71 rfl rfl ?_
 intro w hw
 replace hw:=hw.perm (L':=[pt zb (.cells #[.map (some mp),.map (some mh),Ix ((dZ s x.hold (((bK.look s.hs (x.hold)).getD bC).owner)).1.last),Ix ((dZ s x.hold (((bK.look s.hs (x.hold)).getD bC).owner)).1.su.a0),Ix ((dZ s x.hold (((bK.look s.hs (x.hold)).getD bC).owner)).1.su.a1),Ix ((dZ s x.hold (((bK.look s.hs (x.hold)).getD bC).owner)).1.su.a2),Ix ((dZ s x.hold (((bK.look s.hs (x.hold)).getD bC).owner)).1.su.a3),.map (some mm)] 88),aZ bW mp ((dZ s x.hold (((bK.look s.hs (x.hold)).getD bC).owner)).1.ps),aZ bK mh ((dZ s x.hold (((bK.look s.hs (x.hold)).getD bC).owner)).1.hs),pt b1 (.cells #[Bx (x.kind),Ix (x.owner),Ix (x.other),Ix (x.hold),Ix (x.a.a0),Ix (x.a.a1),Ix (x.a.a2),Ix (x.a.a3)] 47)]) (by exact(aV [1,2,3,0] 4 rfl (by kernel_rfl) (by kernel_rfl)))
 exact iR (V:=(⟨(dZ s x.hold (((bK.look s.hs (x.hold)).getD bC).owner)).1.ps,(dZ s x.hold (((bK.look s.hs (x.hold)).getD bC).owner)).1.hs,(dZ s x.hold (((bK.look s.hs (x.hold)).getD bC).owner)).1.last,(dZ s x.hold (((bK.look s.hs (x.hold)).getD bC).owner)).1.su⟩:KSt)) (show((⟨(dZ s x.hold (((bK.look s.hs (x.hold)).getD bC).owner)).1.ps,(dZ s x.hold (((bK.look s.hs (x.hold)).getD bC).owner)).1.hs,(dZ s x.hold (((bK.look s.hs (x.hold)).getD bC).owner)).1.last,(dZ s x.hold (((bK.look s.hs (x.hold)).getD bC).owner)).1.su⟩:KSt),(dZ s x.hold (((bK.look s.hs (x.hold)).getD bC).owner)).2.1,(dZ s x.hold (((bK.look s.hs (x.hold)).getD bC).owner)).2.2)=dZ s x.hold (mB s.hs x.hold).owner by rfl) (aF (L':=[pt zb (.cells #[.map (some mp),.map (some mh),Ix ((dZ s x.hold (((bK.look s.hs (x.hold)).getD bC).owner)).1.last),Ix ((dZ s x.hold (((bK.look s.hs (x.hold)).getD bC).owner)).1.su.a0),Ix ((dZ s x.hold (((bK.look s.hs (x.hold)).getD bC).owner)).1.su.a1),Ix ((dZ s x.hold (((bK.look s.hs (x.hold)).getD bC).owner)).1.su.a2),Ix ((dZ s x.hold (((bK.look s.hs (x.hold)).getD bC).owner)).1.su.a3),.map (some mm)] 88),aZ bW mp ((dZ s x.hold (((bK.look s.hs (x.hold)).getD bC).owner)).1.ps),aZ bK mh ((dZ s x.hold (((bK.look s.hs (x.hold)).getD bC).owner)).1.hs)]) [true,true,true,false] rfl hw)
theorem aWs(β:Base)(w:World)(zb mp mh mm:Nat)(s:KSt)(hw:St β [pt zb (.cells (uX mp mh mm s.last s.su) 88),aZ bW mp s.ps,aZ bK mh s.hs] w)(hP:okP s.ps)(hH:okH s.hs)(hsu:s.su.bd 4611686018427387903)(hla: -4611686018427387903≤s.last∧s.last≤4611686018427387903)(x:KAct)(hxa:x.a.bd 4611686018427387903):Calls Tryz.prog 73 #[pp zb 0,.agg #[Bx (x.kind),Ix (x.owner),Ix (x.other),Ix (x.hold),Ix (x.a.a0),Ix (x.a.a1),Ix (x.a.a2),Ix (x.a.a3)]] w fun r w'=>r= .returned (.tuple #[Ix (mU s x).2.1,Ix (mU s x).2.2])∧St β [pt zb (.cells (uX mp mh mm (mU s x).1.last (mU s x).1.su) 88),aZ bW mp (mU s x).1.ps,aZ bK mh (mU s x).1.hs] w':=by
 refine enter (n:=18) Tryz.func73 rfl Tryz.ntmps73 rfl ?_ hw
 refine bE (mA fun b1=> ?_)
 refine lE bN (lE bN (aN (eS (gK (by kernel_rfl) (by kernel_rfl) (qE dN (qE eM (qE aY ?_)))))))
 refine dQ (v:= .map (some mp)) rfl rfl rfl (bH rL.ok rfl (bY 1 rfl rfl)) (qE aY (qE (cQ 0) ?_))
 refine dQ (v:= .agg (eI ((bW.look s.ps (x.owner)).getD zeroA))) rfl rfl rfl (lA (K:=bW) (b:=mp) (ks:=s.ps) (k:=(x.owner)) rfl rfl rfl (bF.of_res 2 rfl (aZ.mono _ _ _) fun _ h=>h)) ?_
 refine qE aY (qE (dD 0) ?_)
 refine kX (v:= .agg #[Ix ((((bW.look s.ps (x.owner)).getD zeroA).plus x.a (-1)).a0),Ix ((((bW.look s.ps (x.owner)).getD zeroA).plus x.a (-1)).a1),Ix ((((bW.look s.ps (x.owner)).getD zeroA).plus x.a (-1)).a2),Ix ((((bW.look s.ps (x.owner)).getD zeroA).plus x.a (-1)).a3)]) rfl rfl rfl (cK (vs:=[.agg (eI ((bW.look s.ps (x.owner)).getD zeroA)),.agg (eI x.a),.int .i64 (-1)]) bId.ok rfl rfl) (fun w hw=> ?_) ?_
 ·obtain⟨β1,sb,kn,hw1,back⟩:=St.frame_all hw
  exact(uK β1 w hw1 ((bW.look s.ps (x.owner)).getD zeroA) x.a (-1) (by decide) (tB hP _) hxa).mono (fun e w' ⟨he,hw'⟩=>⟨he,aF [true,true,true,true] rfl (back _ _ hw')⟩)
 refine kX (v:= .bool ((((bW.look s.ps (x.owner)).getD zeroA).plus x.a (-1)).within)) rfl rfl rfl (cK (vs:=[.agg #[Ix ((((bW.look s.ps (x.owner)).getD zeroA).plus x.a (-1)).a0),Ix ((((bW.look s.ps (x.owner)).getD zeroA).plus x.a (-1)).a1),Ix ((((bW.look s.ps (x.owner)).getD zeroA).plus x.a (-1)).a2),Ix ((((bW.look s.ps (x.owner)).getD zeroA).plus x.a (-1)).a3)]]) bCh.ok rfl rfl) (fun w hw=> ?_) ?_
 ·obtain⟨β1,sb,kn,hw1,back⟩:=St.frame_all hw
  exact(pI β1 w hw1 (((bW.look s.ps (x.owner)).getD zeroA).plus x.a (-1))).mono (fun e w' ⟨he,hw'⟩=>⟨he,aF [true,true,true,true] rfl (back _ _ hw')⟩)
 refine qE lX (kS (bD (fE (!((((bW.look s.ps (x.owner)).getD zeroA).plus x.a (-1)).within)) rfl (fun hc2=> ?_) (fun hc2=> ?_))))
 ·refine bE (lE bN (lE bN (aN (aT (aI (nF (v:= .int .i64 (0)) (v':= .int .i64 (330)) Tryz.results73 rfl rfl ?_))))))
  intro w hw
  replace hw:=hw.perm (L':=[pt zb (.cells #[.map (some mp),.map (some mh),Ix (s.last),Ix (s.su.a0),Ix (s.su.a1),Ix (s.su.a2),Ix (s.su.a3),.map (some mm)] 88),aZ bW mp s.ps,aZ bK mh s.hs,pt b1 (.cells #[Bx (x.kind),Ix (x.owner),Ix (x.other),Ix (x.hold),Ix (x.a.a0),Ix (x.a.a1),Ix (x.a.a2),Ix (x.a.a3)] 47)]) (by exact(aV [1,2,3,0] 4 rfl (by kernel_rfl) (by kernel_rfl)))
  exact iR (V:=(⟨s.ps,s.hs,s.last,s.su⟩:KSt)) (show((⟨s.ps,s.hs,s.last,s.su⟩:KSt),0,330)=mU s x by simp_all [mU,eE,iN,iJ]) (aF (L':=[pt zb (.cells #[.map (some mp),.map (some mh),Ix (s.last),Ix (s.su.a0),Ix (s.su.a1),Ix (s.su.a2),Ix (s.su.a3),.map (some mm)] 88),aZ bW mp s.ps,aZ bK mh s.hs]) [true,true,true,false] rfl hw)
 refine eF (bE (lE bN (lE bN (aN (aT (nF (v:= .int .i64 (0)) (v':= .int .i64 (0)) Tryz.results73 rfl rfl ?_))))))
 intro w hw
 replace hw:=hw.perm (L':=[pt zb (.cells #[.map (some mp),.map (some mh),Ix (s.last),Ix (s.su.a0),Ix (s.su.a1),Ix (s.su.a2),Ix (s.su.a3),.map (some mm)] 88),aZ bW mp s.ps,aZ bK mh s.hs,pt b1 (.cells #[Bx (x.kind),Ix (x.owner),Ix (x.other),Ix (x.hold),Ix (x.a.a0),Ix (x.a.a1),Ix (x.a.a2),Ix (x.a.a3)] 47)]) (by exact(aV [1,2,3,0] 4 rfl (by kernel_rfl) (by kernel_rfl)))
 exact iR (V:=(⟨s.ps,s.hs,s.last,s.su⟩:KSt)) (show((⟨s.ps,s.hs,s.last,s.su⟩:KSt),0,0)=mU s x by simp_all [mU,eE,iN,iJ]) (aF (L':=[pt zb (.cells #[.map (some mp),.map (some mh),Ix (s.last),Ix (s.su.a0),Ix (s.su.a1),Ix (s.su.a2),Ix (s.su.a3),.map (some mm)] 88),aZ bW mp s.ps,aZ bK mh s.hs]) [true,true,true,false] rfl hw)
end Go.Proofs
