/-
 The reference's writing,walked. Printed by a program of my own.
-/
import Derived.Test.YtkpdcajddpiknaaJn18
set_option linter.all false
set_option maxHeartbeats 4000000
namespace Go.Proofs
open Go Go.Sl Go.Jn
theorem aFi(β:Base)(w:World)(pH pA pB:Option Addr)(cH cA cB:Nat)(k:KS)(e size:Nat)(he:e%2=0)(hs:size≤(k.area e).length)(hp:k.power≤9223372036854775807)(hw:St β [rB pH k.head cH,rB pA k.a cA,rB pB k.b cB] w):Calls Try.prog 66 #[.agg #[sB pH k.head cH,sB pA k.a cA,sB pB k.b cB,Ix k.power],.int .i64 0,Nx size] w fun r w'=>r= .returned (.tuple #[.agg #[sB pH ((aV k e size).head) cH,sB pA ((aV k e size).a) cA,sB pB ((aV k e size).b) cB,Ix (aV k e size).power],.bool (decide (¬cutOk (k.area e) k.power size))])∧St β [rB pH ((aV k e size).head) cH,rB pA ((aV k e size).a) cA,rB pB ((aV k e size).b) cB] w':=by
 rw[iP he]at hs
 refine enter (n:=39) Try.func66 rfl Try.ntmps66 rfl ?_ hw
 refine cC ?_
 refine pD fun b1=> ?_
 refine fZ fun b2=> ?_
 refine lE eE ?_
 refine aW ?_
 refine dX ?_
 refine bA 3 rfl (fun hcl hcm=> ?_)
 refine aC ?_
 refine lE (dO 1) ?_
 refine lE bG ?_
 refine gW gU (fun w β1 sb kn hw1=>rR β1 w hw1 0 (by decide) k _ _ _ (kU kn 2 rfl) (kU kn 3 rfl) (kU kn 4 rfl)) ?_
 refine lE fC ?_
 refine lE bG ?_
 refine lE dR ?_
 refine aW ?_
 refine cK ((((k.a).length:Nat):Int)=((size:Nat):Int)) rfl (fun hc3=> ?_) (fun hc3=> ?_)
 ·refine cC ?_
  refine lE (dO 1) ?_
  refine lu (bS 0 fX.ok (cs':= #[sB pH k.head cH,sB pA k.a cA,sB pB k.b cB,Ix (k.power)]) rfl rfl rfl rfl rfl rfl rfl) ?_
  refine lE eE ?_
  refine aW ?_
  refine bB ?_
  refine aK ?_
  refine fH (m:=[.agg #[sB pH k.head cH,sB pA k.a cA,sB pB k.b cB,Ix (k.power)],.bool false]) Try.results66 ⟨bY fX.ok rfl (dM 0 rfl rfl) rfl,cN (v:= .bool false) rfl,trivial⟩ rfl ?_
  intro w hw
  have eK:{k with a:=gV k.a k.power size,power:=fP k.a k.power size}=k:=by rw[tB (by omega),tC (by omega)]
  have ec:cutOk k.a k.power size:= .inl (by omega)
  rw[show aV k e size=k from(mA he).symm.trans eK]
  exact⟨by unfold xK;(try unfold sB);simp only[iP he];simp[ec],aF [false,false,true,true,true] rfl hw⟩
 refine eT ?_
 refine dX ?_
 refine aC ?_
 refine lE bM ?_
 refine lE (eU 1) ?_
 refine lE dR ?_
 refine aW ?_
 refine cK ((k.power)=(0:Int)) rfl (fun hc4=> ?_) (fun hc4=> ?_)
 ·refine cC ?_
  refine lE (dO 1) ?_
  refine lu (bS 0 fX.ok (cs':= #[sB pH k.head cH,sB pA k.a cA,sB pB k.b cB,Ix (k.power)]) rfl rfl rfl rfl rfl rfl rfl) ?_
  refine lE eE ?_
  refine aW ?_
  refine bB ?_
  refine aK ?_
  refine fH (m:=[.agg #[sB pH k.head cH,sB pA k.a cA,sB pB k.b cB,Ix (k.power)],.bool true]) Try.results66 ⟨bY fX.ok rfl (dM 0 rfl rfl) rfl,cN (v:= .bool true) rfl,trivial⟩ rfl ?_
  intro w hw
  have e1:gV k.a k.power size=k.a:=if_pos hc4
  have e2:fP k.a k.power size=k.power:=by unfold fP dN;split<;>(try split)<;>omega
  have eK:{k with a:=gV k.a k.power size,power:=fP k.a k.power size}=k:=by rw[e1,e2]
  have ec:¬cutOk k.a k.power size:=by unfold cutOk;omega
  rw[show aV k e size=k from(mA he).symm.trans eK]
  exact⟨by unfold xK;(try unfold sB);simp only[iP he];simp[ec],aF [false,false,true,true,true] rfl hw⟩
 refine eT ?_
 refine dX ?_
 refine aC ?_
 refine lE bM ?_
 refine lE (eU 1) ?_
 refine lE qZ ?_
 refine aW ?_
 refine cK ((0:Int)<(k.power)) rfl (fun hc5=> ?_) (fun hc5=> ?_)
 ·refine aC ?_
  refine lE bM ?_
  refine lE (eU 1) ?_
  refine lE omn ?_
  refine lE bM ?_
  refine lu (bS 1 sY.ok (cs':= #[sB pH k.head cH,sB pA k.a cA,sB pB k.b cB,Ix ((k.power)-(1:Int))]) rfl rfl rfl rfl rfl rfl rfl) ?_
  refine aW ?_
  refine dX ?_
  refine aC ?_
  refine lE bG ?_
  refine lE dR ?_
  refine aW ?_
  refine dU rfl ?_
  refine aC ?_
  refine lE bM ?_
  refine lE (fA 1) ?_
  refine lE bG ?_
  refine lv (v:= .slice pA (size) cA) (dF (a:=pA) (len:=(k.a).length) (cap:=cA) (h:=size) bQ rfl rfl (by omega)) ?_
  refine lE bM ?_
  refine lu (bS 1 lV.ok (cs':= #[sB pH k.head cH,.slice pA (size) cA,sB pB k.b cB,Ix ((k.power)-(1:Int))]) rfl rfl rfl rfl rfl rfl rfl) ?_
  refine eJ ?_
  refine lE (dO 1) ?_
  refine lu (bS 0 fX.ok (cs':= #[sB pH k.head cH,.slice pA (size) cA,sB pB k.b cB,Ix ((k.power)-(1:Int))]) rfl rfl rfl rfl rfl rfl rfl) ?_
  refine lE eE ?_
  refine aW ?_
  refine bB ?_
  refine fH (m:=[.agg #[sB pH k.head cH,.slice pA (size) cA,sB pB k.b cB,Ix ((k.power)-(1:Int))],.bool false]) Try.results66 ⟨bY fX.ok rfl (dM 0 rfl rfl) rfl,cN (v:= .bool false) rfl,trivial⟩ rfl ?_
  intro w hw
  have hw:=hw.conseq_at 3 rfl (fun a h=>kW (h:=size) h (by omega))
  have e0:(k.a.take size).length=size:=by simp;omega
  have e1:gV k.a k.power size=k.a.take size:=if_neg hc4
  have e2:fP k.a k.power size=k.power-1:=by unfold fP dN;rw[if_pos (by omega),if_pos (by omega)]
  have ec:cutOk k.a k.power size:= .inr hc4
  rw[←mA he]
  simp only[sB,rB,e1,e2,e0,iP he,e0]
  simp only[sB,rB,e0]at hw
  exact⟨by unfold xK;(try unfold sB);simp[ec],aF [false,false,true,true,true] rfl hw⟩
 refine eT ?_
 refine dX ?_
 refine aC ?_
 refine lE bG ?_
 refine lE dR ?_
 refine aW ?_
 refine dU rfl ?_
 refine aC ?_
 refine lE bM ?_
 refine lE (fA 1) ?_
 refine lE bG ?_
 refine lv (v:= .slice pA (size) cA) (dF (a:=pA) (len:=(k.a).length) (cap:=cA) (h:=size) bQ rfl rfl (by omega)) ?_
 refine lE bM ?_
 refine lu (bS 1 lV.ok (cs':= #[sB pH k.head cH,.slice pA (size) cA,sB pB k.b cB,Ix (k.power)]) rfl rfl rfl rfl rfl rfl rfl) ?_
 refine eJ ?_
 refine lE (dO 1) ?_
 refine lu (bS 0 fX.ok (cs':= #[sB pH k.head cH,.slice pA (size) cA,sB pB k.b cB,Ix (k.power)]) rfl rfl rfl rfl rfl rfl rfl) ?_
 refine lE eE ?_
 refine aW ?_
 refine bB ?_
 refine fH (m:=[.agg #[sB pH k.head cH,.slice pA (size) cA,sB pB k.b cB,Ix (k.power)],.bool false]) Try.results66 ⟨bY fX.ok rfl (dM 0 rfl rfl) rfl,cN (v:= .bool false) rfl,trivial⟩ rfl ?_
 intro w hw
 have hw:=hw.conseq_at 3 rfl (fun a h=>kW (h:=size) h (by omega))
 have e0:(k.a.take size).length=size:=by simp;omega
 have e1:gV k.a k.power size=k.a.take size:=if_neg hc4
 have e2:fP k.a k.power size=k.power:=by unfold fP dN;rw[if_pos (by omega),if_neg (by omega)]
 have ec:cutOk k.a k.power size:= .inr hc4
 rw[←mA he]
 simp only[sB,rB,e1,e2,e0,iP he,e0]
 simp only[sB,rB,e0]at hw
 exact⟨by unfold xK;(try unfold sB);simp[ec],aF [false,false,true,true,true] rfl hw⟩
theorem aFj(β:Base)(w:World)(pH pA pB:Option Addr)(cH cA cB:Nat)(k:KS)(e size:Nat)(he:e%2=1)(hs:size≤(k.area e).length)(hp:k.power≤9223372036854775807)(hw:St β [rB pH k.head cH,rB pA k.a cA,rB pB k.b cB] w):Calls Try.prog 66 #[.agg #[sB pH k.head cH,sB pA k.a cA,sB pB k.b cB,Ix k.power],.int .i64 1,Nx size] w fun r w'=>r= .returned (.tuple #[.agg #[sB pH ((aV k e size).head) cH,sB pA ((aV k e size).a) cA,sB pB ((aV k e size).b) cB,Ix (aV k e size).power],.bool (decide (¬cutOk (k.area e) k.power size))])∧St β [rB pH ((aV k e size).head) cH,rB pA ((aV k e size).a) cA,rB pB ((aV k e size).b) cB] w':=by
 rw[jW he]at hs
 refine enter (n:=39) Try.func66 rfl Try.ntmps66 rfl ?_ hw
 refine cC ?_
 refine pD fun b1=> ?_
 refine fZ fun b2=> ?_
 refine lE eE ?_
 refine aW ?_
 refine dX ?_
 refine bA 4 rfl (fun hcl hcm=> ?_)
 refine aC ?_
 refine lE (dO 1) ?_
 refine lE bG ?_
 refine gW gU (fun w β1 sb kn hw1=>rS β1 w hw1 1 (by decide) k _ _ _ (kU kn 2 rfl) (kU kn 3 rfl) (kU kn 4 rfl)) ?_
 refine lE fC ?_
 refine lE bG ?_
 refine lE dR ?_
 refine aW ?_
 refine cK ((((k.b).length:Nat):Int)=((size:Nat):Int)) rfl (fun hc3=> ?_) (fun hc3=> ?_)
 ·refine cC ?_
  refine lE (dO 1) ?_
  refine lu (bS 0 fX.ok (cs':= #[sB pH k.head cH,sB pA k.a cA,sB pB k.b cB,Ix (k.power)]) rfl rfl rfl rfl rfl rfl rfl) ?_
  refine lE eE ?_
  refine aW ?_
  refine bB ?_
  refine aK ?_
  refine fH (m:=[.agg #[sB pH k.head cH,sB pA k.a cA,sB pB k.b cB,Ix (k.power)],.bool false]) Try.results66 ⟨bY fX.ok rfl (dM 0 rfl rfl) rfl,cN (v:= .bool false) rfl,trivial⟩ rfl ?_
  intro w hw
  have eK:{k with b:=gV k.b k.power size,power:=fP k.b k.power size}=k:=by rw[tB (by omega),tC (by omega)]
  have ec:cutOk k.b k.power size:= .inl (by omega)
  rw[show aV k e size=k from(nQ he).symm.trans eK]
  exact⟨by unfold xK;(try unfold sB);simp only[jW he];simp[ec],aF [false,false,true,true,true] rfl hw⟩
 refine eT ?_
 refine dX ?_
 refine aC ?_
 refine lE bM ?_
 refine lE (eU 1) ?_
 refine lE dR ?_
 refine aW ?_
 refine cK ((k.power)=(0:Int)) rfl (fun hc4=> ?_) (fun hc4=> ?_)
 ·refine cC ?_
  refine lE (dO 1) ?_
  refine lu (bS 0 fX.ok (cs':= #[sB pH k.head cH,sB pA k.a cA,sB pB k.b cB,Ix (k.power)]) rfl rfl rfl rfl rfl rfl rfl) ?_
  refine lE eE ?_
  refine aW ?_
  refine bB ?_
  refine aK ?_
  refine fH (m:=[.agg #[sB pH k.head cH,sB pA k.a cA,sB pB k.b cB,Ix (k.power)],.bool true]) Try.results66 ⟨bY fX.ok rfl (dM 0 rfl rfl) rfl,cN (v:= .bool true) rfl,trivial⟩ rfl ?_
  intro w hw
  have e1:gV k.b k.power size=k.b:=if_pos hc4
  have e2:fP k.b k.power size=k.power:=by unfold fP dN;split<;>(try split)<;>omega
  have eK:{k with b:=gV k.b k.power size,power:=fP k.b k.power size}=k:=by rw[e1,e2]
  have ec:¬cutOk k.b k.power size:=by unfold cutOk;omega
  rw[show aV k e size=k from(nQ he).symm.trans eK]
  exact⟨by unfold xK;(try unfold sB);simp only[jW he];simp[ec],aF [false,false,true,true,true] rfl hw⟩
 refine eT ?_
 refine dX ?_
 refine aC ?_
 refine lE bM ?_
 refine lE (eU 1) ?_
 refine lE qZ ?_
 refine aW ?_
 refine cK ((0:Int)<(k.power)) rfl (fun hc5=> ?_) (fun hc5=> ?_)
 ·refine aC ?_
  refine lE bM ?_
  refine lE (eU 1) ?_
  refine lE omn ?_
  refine lE bM ?_
  refine lu (bS 1 sY.ok (cs':= #[sB pH k.head cH,sB pA k.a cA,sB pB k.b cB,Ix ((k.power)-(1:Int))]) rfl rfl rfl rfl rfl rfl rfl) ?_
  refine aW ?_
  refine dX ?_
  refine aC ?_
  refine lE bG ?_
  refine lE dR ?_
  refine aW ?_
  refine dI rfl ?_
  refine aC ?_
  refine lE bM ?_
  refine lE (fA 1) ?_
  refine lE bG ?_
  refine lv (v:= .slice pB (size) cB) (dF (a:=pB) (len:=(k.b).length) (cap:=cB) (h:=size) bQ rfl rfl (by omega)) ?_
  refine lE bM ?_
  refine lu (bS 1 lV.ok (cs':= #[sB pH k.head cH,sB pA k.a cA,.slice pB (size) cB,Ix ((k.power)-(1:Int))]) rfl rfl rfl rfl rfl rfl rfl) ?_
  refine eJ ?_
  refine lE (dO 1) ?_
  refine lu (bS 0 fX.ok (cs':= #[sB pH k.head cH,sB pA k.a cA,.slice pB (size) cB,Ix ((k.power)-(1:Int))]) rfl rfl rfl rfl rfl rfl rfl) ?_
  refine lE eE ?_
  refine aW ?_
  refine bB ?_
  refine fH (m:=[.agg #[sB pH k.head cH,sB pA k.a cA,.slice pB (size) cB,Ix ((k.power)-(1:Int))],.bool false]) Try.results66 ⟨bY fX.ok rfl (dM 0 rfl rfl) rfl,cN (v:= .bool false) rfl,trivial⟩ rfl ?_
  intro w hw
  have hw:=hw.conseq_at 4 rfl (fun a h=>kW (h:=size) h (by omega))
  have e0:(k.b.take size).length=size:=by simp;omega
  have e1:gV k.b k.power size=k.b.take size:=if_neg hc4
  have e2:fP k.b k.power size=k.power-1:=by unfold fP dN;rw[if_pos (by omega),if_pos (by omega)]
  have ec:cutOk k.b k.power size:= .inr hc4
  rw[←nQ he]
  simp only[sB,rB,e1,e2,e0,jW he,e0]
  simp only[sB,rB,e0]at hw
  exact⟨by unfold xK;(try unfold sB);simp[ec],aF [false,false,true,true,true] rfl hw⟩
 refine eT ?_
 refine dX ?_
 refine aC ?_
 refine lE bG ?_
 refine lE dR ?_
 refine aW ?_
 refine dI rfl ?_
 refine aC ?_
 refine lE bM ?_
 refine lE (fA 1) ?_
 refine lE bG ?_
 refine lv (v:= .slice pB (size) cB) (dF (a:=pB) (len:=(k.b).length) (cap:=cB) (h:=size) bQ rfl rfl (by omega)) ?_
 refine lE bM ?_
 refine lu (bS 1 lV.ok (cs':= #[sB pH k.head cH,sB pA k.a cA,.slice pB (size) cB,Ix (k.power)]) rfl rfl rfl rfl rfl rfl rfl) ?_
 refine eJ ?_
 refine lE (dO 1) ?_
 refine lu (bS 0 fX.ok (cs':= #[sB pH k.head cH,sB pA k.a cA,.slice pB (size) cB,Ix (k.power)]) rfl rfl rfl rfl rfl rfl rfl) ?_
 refine lE eE ?_
 refine aW ?_
 refine bB ?_
 refine fH (m:=[.agg #[sB pH k.head cH,sB pA k.a cA,.slice pB (size) cB,Ix (k.power)],.bool false]) Try.results66 ⟨bY fX.ok rfl (dM 0 rfl rfl) rfl,cN (v:= .bool false) rfl,trivial⟩ rfl ?_
 intro w hw
 have hw:=hw.conseq_at 4 rfl (fun a h=>kW (h:=size) h (by omega))
 have e0:(k.b.take size).length=size:=by simp;omega
 have e1:gV k.b k.power size=k.b.take size:=if_neg hc4
 have e2:fP k.b k.power size=k.power:=by unfold fP dN;rw[if_pos (by omega),if_neg (by omega)]
 have ec:cutOk k.b k.power size:= .inr hc4
 rw[←nQ he]
 simp only[sB,rB,e1,e2,e0,jW he,e0]
 simp only[sB,rB,e0]at hw
 exact⟨by unfold xK;(try unfold sB);simp[ec],aF [false,false,true,true,true] rfl hw⟩
theorem aAn(β:Base)(w:World)(pH pA pB:Option Addr)(cH cA cB:Nat)(k:KS)(hk:k.head.length≤1048576∧k.a.length≤1048576∧k.b.length≤1048576∧k.power≤9223372036854775807)(at_:Nat)(hat:at_≤1048576)(bs:Bs)(v:Value)(hb:bs.length≤1048576)(hs:Sl bE β.heap v bs)(hw:St β [rB pH k.head cH,rB pA k.a cA,rB pB k.b cB] w):Calls Try.prog 64 #[.agg #[sB pH k.head cH,sB pA k.a cA,sB pB k.b cB,Ix k.power],.int .i64 2,Nx at_,v] w fun r w'=>∃p c,r= .returned (.tuple #[.agg #[sB p ((iV k at_ bs).head) c,sB pA ((iV k at_ bs).a) cA,sB pB ((iV k at_ bs).b) cB,Ix (iV k at_ bs).power],.bool (decide (¬eI k.power bs))])∧St β [rB p ((iV k at_ bs).head) c,rB pA ((iV k at_ bs).a) cA,rB pB ((iV k at_ bs).b) cB] w':=by
 obtain⟨va,vc,rfl,vl,vm,ve⟩:=hs.get
 refine enter (n:=70) Try.func64 rfl Try.ntmps64 rfl ?_ hw
 refine cC ?_
 refine pD fun b1=> ?_
 refine fZ fun b2=> ?_
 refine lE eE ?_
 refine aW ?_
 refine dX ?_
 refine aC ?_
 refine lE bV ?_
 refine aW ?_
 refine aY ?_
 refine dV (fun(x_:Nat×Bs×Option Addr×Nat) f L=>match x_ with|(j,ys,p,c)=>(f 1= .int .i64 (2)∧f 2=Nx (at_)∧f 3=sB va bs (vc)∧f 4=pp b1 0∧f 8=pp b2 0∧f 10=Nx (j))∧L=[pt b2 (.cells #[.slice none 0 0,.slice none 0 0,.slice none 0 0,.int .i64 (0)] 32),pt b1 (.cells #[sB p ys c,sB pA k.a cA,sB pB k.b cB,Ix (pl k.power j)] 32),rB p ys c,rB pA k.a cA,rB pB k.b cB]∧(j≤pw k.power bs.length∧ys=wr k.head at_ (bs.take j))) (fun(j,ys,p,c)=>bs.length-j) (0,k.head,pH,cH) ?_ ?_
 ·exact⟨⟨rfl,rfl,rfl,rfl,rfl,rfl⟩,(by rw[oP];rfl),⟨by omega,by simp[wr]⟩⟩
 rintro⟨j,ys,p,c⟩ f0 L0 ⟨⟨hs1,hs2,hs3,hs4,hs8,hs10⟩,hL,⟨hj,hys⟩⟩
 subst L0
 refine dG 1 hs1 ?_
 refine dG 2 hs2 ?_
 refine dG 3 hs3 ?_
 refine dG 4 hs4 ?_
 refine dG 8 hs8 ?_
 refine dG 10 hs10 ?_
 have hyl:ys.length≤k.head.length+bs.length:=by rw[hys];refine Nat.le_trans iS ?_;simp;omega
 have hpl:=sM k.power j
 have hpm:=hk.2.2.2
 refine dX ?_
 refine aC ?_
 refine lE bG ?_
 refine lE cX ?_
 refine lE fC ?_
 refine lE jI ?_
 refine aW ?_
 refine cK (((j:Nat):Int)<((bs.length:Nat):Int)) rfl (fun hc3=> ?_) (fun hc3=> ?_)
 ·have hc_:j<bs.length:=by omega
  refine eT ?_
  refine aO ?_
  refine aY ?_
  refine dX ?_
  refine aC ?_
  refine lE bM ?_
  refine lE (eU 1) ?_
  refine lE dR ?_
  refine aW ?_
  refine cK ((pl k.power j)=(0:Int)) rfl (fun hc4=> ?_) (fun hc4=> ?_)
  ·refine cC ?_
   refine lE (dO 1) ?_
   refine lu (bS 0 fX.ok (cs':= #[sB p ys c,sB pA k.a cA,sB pB k.b cB,Ix (pl k.power j)]) rfl rfl rfl rfl rfl rfl rfl) ?_
   refine lE eE ?_
   refine aW ?_
   refine bB ?_
   refine aK ?_
   refine bH ?_
   refine aK ?_
   refine aK ?_
   refine bH ?_
   refine aK ?_
   refine fH (m:=[.agg #[sB p ys c,sB pA k.a cA,sB pB k.b cB,Ix (pl k.power j)],.bool true]) Try.results64 ⟨bY fX.ok rfl (dM 0 rfl rfl) rfl,cN (v:= .bool true) rfl,trivial⟩ rfl ?_
   intro w hw
   have hw2:=aF [true,true,true,false,false] rfl (hw.perm (L':=[rB p ys c,rB pA k.a cA,rB pB k.b cB,pt b2 (.cells #[sB p ys c,sB pA k.a cA,sB pB k.b cB,Ix (pl k.power j)] 32),pt b1 (.cells #[sB p ys c,sB pA k.a cA,sB pB k.b cB,Ix (pl k.power j)] 32)]) (by exact(bN [2,3,4,0,1] 5 rfl (by kernel_rfl) (by kernel_rfl))))
   obtain⟨e1,e3⟩:=oS hj hc_ hc4
   have e4:pl k.power j=pl k.power bs.length:=by rw[hc4,e3]
   have ec:¬eI k.power bs:=by unfold eI;omega
   have e2:ys=lJ k.head k.power at_ bs:=by rw[hys,lJ,e1]
   rw[e4,e2]at hw2⊢
   exact⟨p,c,by unfold xK;(try unfold sB);simp[ec,iV],hw2⟩
  refine eT ?_
  refine dX ?_
  have hpst:=oR hj hc_ hc4
  refine aC ?_
  refine lE bM ?_
  refine lE (eU 1) ?_
  refine lE qZ ?_
  refine aW ?_
  refine cK _ rfl (fun hc5=> ?_) (fun hc5=> ?_)
  ·refine aC ?_
   refine lE bM ?_
   refine lE (eU 1) ?_
   refine lE omn ?_
   refine lE bM ?_
   refine lu (mS 1 (#[sB p ys c,sB pA k.a cA,sB pB k.b cB,Ix ((pl k.power j)-(1:Int))])) ?_
   refine aW ?_
   refine aO ?_
   have hq:(pl k.power j)-(1:Int)=pl k.power (j+1):=by have h9:=hpst.2;unfold dN at h9;split at h9<;>omega
   refine lR (L':=[pt b2 (.cells #[.slice none 0 0,.slice none 0 0,.slice none 0 0,.int .i64 (0)] 32),pt b1 (.cells #[sB p ys c,sB pA k.a cA,sB pB k.b cB,Ix (pl k.power (j+1))] 32),rB p ys c,rB pA k.a cA,rB pB k.b cB]) (by show [pt b2 (.cells #[.slice none 0 0,.slice none 0 0,.slice none 0 0,.int .i64 (0)] 32),pt b1 (.cells #[sB p ys c,sB pA k.a cA,sB pB k.b cB,Ix ((pl k.power j)-(1:Int))] 32),rB p ys c,rB pA k.a cA,rB pB k.b cB]=_;rw[hq]) ?_
   refine bA 2 rfl (fun hcl hcm=> ?_)
   refine aC ?_
   refine lE bM ?_
   refine lE (fA 1) ?_
   refine lE fR ?_
   refine aW ?_
   refine dX ?_
   refine aC ?_
   refine lE bG ?_
   refine lE jI ?_
   refine aW ?_
   refine dI rfl ?_
   refine eT ?_
   refine dX ?_
   refine aC ?_
   iterate 2 refine lE bG ?_
   refine lE xS ?_
   refine lE cX ?_
   refine lE fC ?_
   refine lE jI ?_
   refine aW ?_
   refine cK _ rfl (fun hc6=> ?_) (fun hc6=> ?_)
   ·refine aC ?_
    refine lE cX ?_
    iterate 2 refine lE bG ?_
    refine lE xS ?_
    refine lE cX ?_
    refine lE bG ?_
    obtain⟨x7,hx8⟩:=kC bs j (by omega)
    obtain⟨ha9,cs10,hc11,rfl⟩:=ve _ _ hx8
    refine lE (rN bQ ha9) ?_
    refine lv (v:=Bx (x7)) (bZ gQ.ok rfl (kB hc11)) ?_
    refine lv (v:= .pointer (some ((ba p).add ((at_+j)*1)))) (dK 2 (j:=at_+j) (len:=(ys).length) (cap:=c) (p:=p) rfl rfl bQ (by omega) (by omega) rfl) ?_
    refine lu (fJ 2 gQ.ok (o:=(at_+j)*1) (v:=Bx (x7)) rfl rfl rfl rfl rfl (by omega) (by omega)) ?_
    refine pR (L':=[pt b2 (.cells #[.slice none 0 0,.slice none 0 0,.slice none 0 0,.int .i64 (0)] 32),pt b1 (.cells #[.slice p ((ys.set (at_+j) x7)).length c,.slice pA (k.a).length cA,.slice pB (k.b).length cB,Ix (pl k.power (j+1))] 32),row (.slice p ((ys.set (at_+j) x7)).length c) 5 1 (((ys.set (at_+j) x7)).length) (BX (ys.set (at_+j) x7)),row (.slice pA (k.a).length cA) 5 1 ((k.a).length) (BX k.a),row (.slice pB (k.b).length cB) 5 1 ((k.b).length) (BX k.b)]) (by show [pt b2 (.cells #[.slice none 0 0,.slice none 0 0,.slice none 0 0,.int .i64 (0)] 32),pt b1 (.cells #[.slice p (ys).length c,.slice pA (k.a).length cA,.slice pB (k.b).length cB,Ix (pl k.power (j+1))] 32),row (.slice p (ys).length c) 5 1 ((ys).length) ((kE (BX ys) ((at_+j)*1) [Bx (x7)])),row (.slice pA (k.a).length cA) 5 1 ((k.a).length) (BX k.a),row (.slice pB (k.b).length cB) 5 1 ((k.b).length) (BX k.b)]=_;rw[gX (by omega)];simp only[List.length_set]) ?_
    refine aW ?_
    refine aO ?_
    refine dG 11 (v:=sB p ((ys.set (at_+j) x7)) c) (show(sB p ys c:Value)=_ by simp only[sB,List.length_set]) ?_
    refine aC ?_
    refine lE bG ?_
    refine aW ?_
    refine aY ?_
    refine cC ?_
    refine lE dR ?_
    refine lE eE ?_
    refine aW ?_
    refine dI rfl ?_
    refine cC ?_
    refine lE dR ?_
    refine lE eE ?_
    refine aW ?_
    refine dI rfl ?_
    refine aC ?_
    refine lE cX ?_
    refine lE bM ?_
    refine lu (mS 1 (#[sB p ((ys.set (at_+j) x7)) c,sB pA k.a cA,sB pB k.b cB,Ix (pl k.power (j+1))])) ?_
    refine aG ?_
    refine bD ?_
    refine bD ?_
    refine aQ ?_
    refine aC ?_
    refine lE bG ?_
    refine lv (v:=Nx (j+1)) (bJ rfl rfl (bU (by omega) (by omega))) ?_
    refine lE bV ?_
    refine aG ?_
    exact bT ⟨(j+1,(ys.set (at_+j) x7),p,c),⟨⟨rfl,rfl,rfl,rfl,rfl,rfl⟩,rfl,⟨hpst.1,by rw[hys,fM hx8,if_pos (by rw[←hys];omega)]⟩⟩,(show bs.length-(j+1)<bs.length-j from by omega)⟩
   refine aC ?_
   iterate 2 refine lE cX ?_
   refine lE bG ?_
   obtain⟨x13,hx14⟩:=kC bs j (by omega)
   obtain⟨ha15,cs16,hc17,rfl⟩:=ve _ _ hx14
   refine lE (rN bQ ha15) ?_
   refine lv (v:=Bx (x13)) (bZ gQ.ok rfl (kB hc17)) ?_
   refine cF rfl rfl rfl (cO bQ iG.ok (cells:= #[Bx (x13)]) rfl rfl rfl rfl) ?_
   rintro _ _ ⟨b19,rfl,rfl⟩
   refine cF rfl rfl rfl (cG (enc:=fun c:UInt8=>Bx c) 3 dJ bQ fV (v:=sB p ys c) (xs:=ys) (ys:=[x13]) (ao:=some ⟨b19,0,none⟩) (c:=1) rfl rfl (by first|rfl|simp) rfl (by first|rfl|simp) (fO 0 (xs:=[x13]) rfl) (by first|omega|(simp only[List.length_append,List.length_nil,List.length_cons,aL]at*;omega)) (by first|omega|(simp only[List.length_append,List.length_nil,List.length_cons,aL]at*;omega))) ?_
   rintro _ _ ⟨rp20,rc21,rfl,rfl⟩
   refine lE fR ?_
   refine eJ ?_
   refine lE bG ?_
   refine aW ?_
   refine aY ?_
   refine cC ?_
   refine lE dR ?_
   refine lE eE ?_
   refine aW ?_
   refine dI rfl ?_
   refine cC ?_
   refine lE dR ?_
   refine lE eE ?_
   refine aW ?_
   refine dI rfl ?_
   refine aC ?_
   refine lE cX ?_
   refine lE bM ?_
   refine lu (mS 2 (#[sB rp20 (ys++[x13]) rc21,sB pA k.a cA,sB pB k.b cB,Ix (pl k.power (j+1))])) ?_
   refine aG ?_
   refine bD ?_
   refine bD ?_
   refine aQ ?_
   refine aC ?_
   refine lE bG ?_
   refine lv (v:=Nx (j+1)) (bJ rfl rfl (bU (by omega) (by omega))) ?_
   refine lE bV ?_
   refine aG ?_
   refine dL [false,true,true,true,true,true] rfl ?_
   exact bT ⟨(j+1,ys++[x13],rp20,rc21),⟨⟨rfl,rfl,rfl,rfl,rfl,rfl⟩,rfl,⟨hpst.1,by rw[hys,fM hx14,if_neg (by rw[←hys];omega)]⟩⟩,(show bs.length-(j+1)<bs.length-j from by omega)⟩
  refine eT ?_
  refine aO ?_
  have hq:pl k.power j=pl k.power (j+1):=by have h9:=hpst.2;unfold dN at h9;split at h9<;>omega
  refine lR (L':=[pt b2 (.cells #[.slice none 0 0,.slice none 0 0,.slice none 0 0,.int .i64 (0)] 32),pt b1 (.cells #[sB p ys c,sB pA k.a cA,sB pB k.b cB,Ix (pl k.power (j+1))] 32),rB p ys c,rB pA k.a cA,rB pB k.b cB]) (by show [pt b2 (.cells #[.slice none 0 0,.slice none 0 0,.slice none 0 0,.int .i64 (0)] 32),pt b1 (.cells #[sB p ys c,sB pA k.a cA,sB pB k.b cB,Ix (pl k.power j)] 32),rB p ys c,rB pA k.a cA,rB pB k.b cB]=_;rw[hq]) ?_
  refine bA 2 rfl (fun hcl hcm=> ?_)
  refine aC ?_
  refine lE bM ?_
  refine lE (fA 1) ?_
  refine lE fR ?_
  refine aW ?_
  refine dX ?_
  refine aC ?_
  refine lE bG ?_
  refine lE jI ?_
  refine aW ?_
  refine dI rfl ?_
  refine eT ?_
  refine dX ?_
  refine aC ?_
  iterate 2 refine lE bG ?_
  refine lE xS ?_
  refine lE cX ?_
  refine lE fC ?_
  refine lE jI ?_
  refine aW ?_
  refine cK _ rfl (fun hc22=> ?_) (fun hc22=> ?_)
  ·refine aC ?_
   refine lE cX ?_
   iterate 2 refine lE bG ?_
   refine lE xS ?_
   refine lE cX ?_
   refine lE bG ?_
   obtain⟨x23,hx24⟩:=kC bs j (by omega)
   obtain⟨ha25,cs26,hc27,rfl⟩:=ve _ _ hx24
   refine lE (rN bQ ha25) ?_
   refine lv (v:=Bx (x23)) (bZ gQ.ok rfl (kB hc27)) ?_
   refine lv (v:= .pointer (some ((ba p).add ((at_+j)*1)))) (dK 2 (j:=at_+j) (len:=(ys).length) (cap:=c) (p:=p) rfl rfl bQ (by omega) (by omega) rfl) ?_
   refine lu (fJ 2 gQ.ok (o:=(at_+j)*1) (v:=Bx (x23)) rfl rfl rfl rfl rfl (by omega) (by omega)) ?_
   refine pR (L':=[pt b2 (.cells #[.slice none 0 0,.slice none 0 0,.slice none 0 0,.int .i64 (0)] 32),pt b1 (.cells #[.slice p ((ys.set (at_+j) x23)).length c,.slice pA (k.a).length cA,.slice pB (k.b).length cB,Ix (pl k.power (j+1))] 32),row (.slice p ((ys.set (at_+j) x23)).length c) 5 1 (((ys.set (at_+j) x23)).length) (BX (ys.set (at_+j) x23)),row (.slice pA (k.a).length cA) 5 1 ((k.a).length) (BX k.a),row (.slice pB (k.b).length cB) 5 1 ((k.b).length) (BX k.b)]) (by show [pt b2 (.cells #[.slice none 0 0,.slice none 0 0,.slice none 0 0,.int .i64 (0)] 32),pt b1 (.cells #[.slice p (ys).length c,.slice pA (k.a).length cA,.slice pB (k.b).length cB,Ix (pl k.power (j+1))] 32),row (.slice p (ys).length c) 5 1 ((ys).length) ((kE (BX ys) ((at_+j)*1) [Bx (x23)])),row (.slice pA (k.a).length cA) 5 1 ((k.a).length) (BX k.a),row (.slice pB (k.b).length cB) 5 1 ((k.b).length) (BX k.b)]=_;rw[gX (by omega)];simp only[List.length_set]) ?_
   refine aW ?_
   refine aO ?_
   refine dG 11 (v:=sB p ((ys.set (at_+j) x23)) c) (show(sB p ys c:Value)=_ by simp only[sB,List.length_set]) ?_
   refine aC ?_
   refine lE bG ?_
   refine aW ?_
   refine aY ?_
   refine cC ?_
   refine lE dR ?_
   refine lE eE ?_
   refine aW ?_
   refine dI rfl ?_
   refine cC ?_
   refine lE dR ?_
   refine lE eE ?_
   refine aW ?_
   refine dI rfl ?_
   refine aC ?_
   refine lE cX ?_
   refine lE bM ?_
   refine lu (mS 1 (#[sB p ((ys.set (at_+j) x23)) c,sB pA k.a cA,sB pB k.b cB,Ix (pl k.power (j+1))])) ?_
   refine aG ?_
   refine bD ?_
   refine bD ?_
   refine aQ ?_
   refine aC ?_
   refine lE bG ?_
   refine lv (v:=Nx (j+1)) (bJ rfl rfl (bU (by omega) (by omega))) ?_
   refine lE bV ?_
   refine aG ?_
   exact bT ⟨(j+1,(ys.set (at_+j) x23),p,c),⟨⟨rfl,rfl,rfl,rfl,rfl,rfl⟩,rfl,⟨hpst.1,by rw[hys,fM hx24,if_pos (by rw[←hys];omega)]⟩⟩,(show bs.length-(j+1)<bs.length-j from by omega)⟩
  refine aC ?_
  iterate 2 refine lE cX ?_
  refine lE bG ?_
  obtain⟨x29,hx30⟩:=kC bs j (by omega)
  obtain⟨ha31,cs32,hc33,rfl⟩:=ve _ _ hx30
  refine lE (rN bQ ha31) ?_
  refine lv (v:=Bx (x29)) (bZ gQ.ok rfl (kB hc33)) ?_
  refine cF rfl rfl rfl (cO bQ iG.ok (cells:= #[Bx (x29)]) rfl rfl rfl rfl) ?_
  rintro _ _ ⟨b35,rfl,rfl⟩
  refine cF rfl rfl rfl (cG (enc:=fun c:UInt8=>Bx c) 3 dJ bQ fV (v:=sB p ys c) (xs:=ys) (ys:=[x29]) (ao:=some ⟨b35,0,none⟩) (c:=1) rfl rfl (by first|rfl|simp) rfl (by first|rfl|simp) (fO 0 (xs:=[x29]) rfl) (by first|omega|(simp only[List.length_append,List.length_nil,List.length_cons,aL]at*;omega)) (by first|omega|(simp only[List.length_append,List.length_nil,List.length_cons,aL]at*;omega))) ?_
  rintro _ _ ⟨rp36,rc37,rfl,rfl⟩
  refine lE fR ?_
  refine eJ ?_
  refine lE bG ?_
  refine aW ?_
  refine aY ?_
  refine cC ?_
  refine lE dR ?_
  refine lE eE ?_
  refine aW ?_
  refine dI rfl ?_
  refine cC ?_
  refine lE dR ?_
  refine lE eE ?_
  refine aW ?_
  refine dI rfl ?_
  refine aC ?_
  refine lE cX ?_
  refine lE bM ?_
  refine lu (bS 2 lV.ok (cs':= #[sB rp36 (ys++[x29]) rc37,sB pA k.a cA,sB pB k.b cB,Ix (pl k.power (j+1))]) rfl rfl rfl rfl rfl rfl rfl) ?_
  refine aG ?_
  refine bD ?_
  refine bD ?_
  refine aQ ?_
  refine aC ?_
  refine lE bG ?_
  refine lv (v:=Nx (j+1)) (bJ (a:=((j:Nat):Int)) (b:=(1:Int)) rfl rfl (bU (by omega) (by omega))) ?_
  refine lE bV ?_
  refine aG ?_
  refine dL (L':=[pt b2 (.cells #[.slice none 0 0,.slice none 0 0,.slice none 0 0,.int .i64 (0)] 32),pt b1 (.cells #[sB rp36 (ys++[x29]) rc37,sB pA k.a cA,sB pB k.b cB,Ix (pl k.power (j+1))] 32),rB rp36 (ys++[x29]) rc37,rB pA k.a cA,rB pB k.b cB]) [false,true,true,true,true,true] rfl ?_
  exact bT ⟨(j+1,ys++[x29],rp36,rc37),⟨⟨rfl,rfl,rfl,rfl,rfl,rfl⟩,rfl,⟨hpst.1,by rw[hys,fM hx30,if_neg (by rw[←hys];omega)]⟩⟩,(show bs.length-(j+1)<bs.length-j from by omega)⟩
 refine dZ ?_
 refine aU ?_
 refine aU ?_
 refine eA ?_
 refine qF ?_
 refine lE (dO 1) ?_
 refine lu (bS 0 fX.ok (cs':= #[sB p ys c,sB pA k.a cA,sB pB k.b cB,Ix (pl k.power j)]) rfl rfl rfl rfl rfl rfl rfl) ?_
 refine lE eE ?_
 refine aW ?_
 refine bB ?_
 refine fH (m:=[.agg #[sB p ys c,sB pA k.a cA,sB pB k.b cB,Ix (pl k.power j)],.bool false]) Try.results64 ⟨bY fX.ok rfl (dM 0 rfl rfl) rfl,cN (v:= .bool false) rfl,trivial⟩ rfl ?_
 intro w hw
 have hw2:=aF [true,true,true,false,false] rfl (hw.perm (L':=[rB p ys c,rB pA k.a cA,rB pB k.b cB,pt b2 (.cells #[sB p ys c,sB pA k.a cA,sB pB k.b cB,Ix (pl k.power j)] 32),pt b1 (.cells #[sB p ys c,sB pA k.a cA,sB pB k.b cB,Ix (pl k.power j)] 32)]) (by exact(bN [2,3,4,0,1] 5 rfl (by kernel_rfl) (by kernel_rfl))))
 obtain⟨e1,e0⟩:=rP hj (by omega)
 have e4:pl k.power j=pl k.power bs.length:=by rw[e0]
 have ec:eI k.power bs:=e1
 have e2:ys=lJ k.head k.power at_ bs:=by rw[hys,lJ,e1,e0]
 rw[e4,e2]at hw2⊢
 exact⟨p,c,by unfold xK;(try unfold sB);simp[ec,iV],hw2⟩
theorem aAl(β:Base)(w:World)(pH pA pB:Option Addr)(cH cA cB:Nat)(k:KS)(hk:k.head.length≤1048576∧k.a.length≤1048576∧k.b.length≤1048576∧k.power≤9223372036854775807)(e:Nat)(he:e%2=0)(at_:Nat)(hat:at_≤1048576)(bs:Bs)(v:Value)(hb:bs.length≤1048576)(hs:Sl bE β.heap v bs)(hw:St β [rB pH k.head cH,rB pA k.a cA,rB pB k.b cB] w):Calls Try.prog 64 #[.agg #[sB pH k.head cH,sB pA k.a cA,sB pB k.b cB,Ix k.power],.int .i64 0,Nx at_,v] w fun r w'=>∃p c,r= .returned (.tuple #[.agg #[sB pH ((cJ k e at_ bs).head) cH,sB p ((cJ k e at_ bs).a) c,sB pB ((cJ k e at_ bs).b) cB,Ix (cJ k e at_ bs).power],.bool (decide (¬eI k.power bs))])∧St β [rB pH ((cJ k e at_ bs).head) cH,rB p ((cJ k e at_ bs).a) c,rB pB ((cJ k e at_ bs).b) cB] w':=by
 obtain⟨va,vc,rfl,vl,vm,ve⟩:=hs.get
 refine enter (n:=70) Try.func64 rfl Try.ntmps64 rfl ?_ hw
 refine cC ?_
 refine pD fun b1=> ?_
 refine fZ fun b2=> ?_
 refine lE eE ?_
 refine aW ?_
 refine dX ?_
 refine aC ?_
 refine lE bV ?_
 refine aW ?_
 refine aY ?_
 refine dV (fun(x_:Nat×Bs×Option Addr×Nat) f L=>match x_ with|(j,ys,p,c)=>(f 1= .int .i64 (0)∧f 2=Nx (at_)∧f 3=sB va bs (vc)∧f 4=pp b1 0∧f 8=pp b2 0∧f 10=Nx (j))∧L=[pt b2 (.cells #[.slice none 0 0,.slice none 0 0,.slice none 0 0,.int .i64 (0)] 32),pt b1 (.cells #[sB pH k.head cH,sB p ys c,sB pB k.b cB,Ix (pl k.power j)] 32),rB pH k.head cH,rB p ys c,rB pB k.b cB]∧(j≤pw k.power bs.length∧ys=wr k.a at_ (bs.take j))) (fun(j,ys,p,c)=>bs.length-j) (0,k.a,pA,cA) ?_ ?_
 ·exact⟨⟨rfl,rfl,rfl,rfl,rfl,rfl⟩,(by rw[oP];rfl),⟨by omega,by simp[wr]⟩⟩
 rintro⟨j,ys,p,c⟩ f0 L0 ⟨⟨hs1,hs2,hs3,hs4,hs8,hs10⟩,hL,⟨hj,hys⟩⟩
 subst L0
 refine dG 1 hs1 ?_
 refine dG 2 hs2 ?_
 refine dG 3 hs3 ?_
 refine dG 4 hs4 ?_
 refine dG 8 hs8 ?_
 refine dG 10 hs10 ?_
 have hyl:ys.length≤k.a.length+bs.length:=by rw[hys];refine Nat.le_trans iS ?_;simp;omega
 have hpl:=sM k.power j
 have hpm:=hk.2.2.2
 refine dX ?_
 refine aC ?_
 refine lE bG ?_
 refine lE cX ?_
 refine lE fC ?_
 refine lE jI ?_
 refine aW ?_
 refine cK (((j:Nat):Int)<((bs.length:Nat):Int)) rfl (fun hc3=> ?_) (fun hc3=> ?_)
 ·have hc_:j<bs.length:=by omega
  refine eT ?_
  refine aO ?_
  refine aY ?_
  refine dX ?_
  refine aC ?_
  refine lE bM ?_
  refine lE (eU 1) ?_
  refine lE dR ?_
  refine aW ?_
  refine cK ((pl k.power j)=(0:Int)) rfl (fun hc4=> ?_) (fun hc4=> ?_)
  ·refine cC ?_
   refine lE (dO 1) ?_
   refine lu (bS 0 fX.ok (cs':= #[sB pH k.head cH,sB p ys c,sB pB k.b cB,Ix (pl k.power j)]) rfl rfl rfl rfl rfl rfl rfl) ?_
   refine lE eE ?_
   refine aW ?_
   refine bB ?_
   refine aK ?_
   refine bH ?_
   refine aK ?_
   refine aK ?_
   refine bH ?_
   refine aK ?_
   refine fH (m:=[.agg #[sB pH k.head cH,sB p ys c,sB pB k.b cB,Ix (pl k.power j)],.bool true]) Try.results64 ⟨bY fX.ok rfl (dM 0 rfl rfl) rfl,cN (v:= .bool true) rfl,trivial⟩ rfl ?_
   intro w hw
   have hw2:=aF [true,true,true,false,false] rfl (hw.perm (L':=[rB pH k.head cH,rB p ys c,rB pB k.b cB,pt b2 (.cells #[sB pH k.head cH,sB p ys c,sB pB k.b cB,Ix (pl k.power j)] 32),pt b1 (.cells #[sB pH k.head cH,sB p ys c,sB pB k.b cB,Ix (pl k.power j)] 32)]) (by exact(bN [2,3,4,0,1] 5 rfl (by kernel_rfl) (by kernel_rfl))))
   obtain⟨e1,e3⟩:=oS hj hc_ hc4
   have e4:pl k.power j=pl k.power bs.length:=by rw[hc4,e3]
   have ec:¬eI k.power bs:=by unfold eI;omega
   have e2:ys=lJ k.a k.power at_ bs:=by rw[hys,lJ,e1]
   rw[e4,e2]at hw2⊢
   rw[←uX he]
   exact⟨p,c,by unfold xK;(try unfold sB);simp[ec],hw2⟩
  refine eT ?_
  refine dX ?_
  have hpst:=oR hj hc_ hc4
  refine aC ?_
  refine lE bM ?_
  refine lE (eU 1) ?_
  refine lE qZ ?_
  refine aW ?_
  refine cK _ rfl (fun hc5=> ?_) (fun hc5=> ?_)
  ·refine aC ?_
   refine lE bM ?_
   refine lE (eU 1) ?_
   refine lE omn ?_
   refine lE bM ?_
   refine lu (mS 1 (#[sB pH k.head cH,sB p ys c,sB pB k.b cB,Ix ((pl k.power j)-(1:Int))])) ?_
   refine aW ?_
   refine aO ?_
   have hq:(pl k.power j)-(1:Int)=pl k.power (j+1):=by have h9:=hpst.2;unfold dN at h9;split at h9<;>omega
   refine lR (L':=[pt b2 (.cells #[.slice none 0 0,.slice none 0 0,.slice none 0 0,.int .i64 (0)] 32),pt b1 (.cells #[sB pH k.head cH,sB p ys c,sB pB k.b cB,Ix (pl k.power (j+1))] 32),rB pH k.head cH,rB p ys c,rB pB k.b cB]) (by show [pt b2 (.cells #[.slice none 0 0,.slice none 0 0,.slice none 0 0,.int .i64 (0)] 32),pt b1 (.cells #[sB pH k.head cH,sB p ys c,sB pB k.b cB,Ix ((pl k.power j)-(1:Int))] 32),rB pH k.head cH,rB p ys c,rB pB k.b cB]=_;rw[hq]) ?_
   refine bA 3 rfl (fun hcl hcm=> ?_)
   refine aC ?_
   refine lE bM ?_
   refine lE (fA 1) ?_
   refine lE fR ?_
   refine aW ?_
   refine dX ?_
   refine aC ?_
   refine lE bG ?_
   refine lE jI ?_
   refine aW ?_
   refine dU rfl ?_
   refine aC ?_
   refine lE (dO 1) ?_
   refine lE bG ?_
   refine gW gU (fun w β1 sb kn hw1=>rR β1 w hw1 0 (by decide) ({k with a:=ys,power:=pl k.power (j+1)}:KS) _ _ _ (kU kn 2 rfl) (kU kn 3 rfl) (kU kn 4 rfl)) ?_
   refine lE fR ?_
   refine aW ?_
   refine dX ?_
   refine aC ?_
   iterate 2 refine lE bG ?_
   refine lE xS ?_
   refine lE cX ?_
   refine lE fC ?_
   refine lE jI ?_
   refine aW ?_
   refine cK _ rfl (fun hc6=> ?_) (fun hc6=> ?_)
   ·refine aC ?_
    refine lE cX ?_
    iterate 2 refine lE bG ?_
    refine lE xS ?_
    refine lE cX ?_
    refine lE bG ?_
    obtain⟨x7,hx8⟩:=kC bs j (by omega)
    obtain⟨ha9,cs10,hc11,rfl⟩:=ve _ _ hx8
    refine lE (rN bQ ha9) ?_
    refine lv (v:=Bx (x7)) (bZ gQ.ok rfl (kB hc11)) ?_
    refine lv (v:= .pointer (some ((ba p).add ((at_+j)*1)))) (dK 3 (j:=at_+j) (len:=(ys).length) (cap:=c) (p:=p) rfl rfl bQ (by omega) (by omega) rfl) ?_
    refine lu (fJ 3 gQ.ok (o:=(at_+j)*1) (v:=Bx (x7)) rfl rfl rfl rfl rfl (by omega) (by omega)) ?_
    refine pR (L':=[pt b2 (.cells #[.slice none 0 0,.slice none 0 0,.slice none 0 0,.int .i64 (0)] 32),pt b1 (.cells #[.slice pH (k.head).length cH,.slice p ((ys.set (at_+j) x7)).length c,.slice pB (k.b).length cB,Ix (pl k.power (j+1))] 32),row (.slice pH (k.head).length cH) 5 1 ((k.head).length) (BX k.head),row (.slice p ((ys.set (at_+j) x7)).length c) 5 1 (((ys.set (at_+j) x7)).length) (BX (ys.set (at_+j) x7)),row (.slice pB (k.b).length cB) 5 1 ((k.b).length) (BX k.b)]) (by show [pt b2 (.cells #[.slice none 0 0,.slice none 0 0,.slice none 0 0,.int .i64 (0)] 32),pt b1 (.cells #[.slice pH (k.head).length cH,.slice p (ys).length c,.slice pB (k.b).length cB,Ix (pl k.power (j+1))] 32),row (.slice pH (k.head).length cH) 5 1 ((k.head).length) (BX k.head),row (.slice p (ys).length c) 5 1 ((ys).length) ((kE (BX ys) ((at_+j)*1) [Bx (x7)])),row (.slice pB (k.b).length cB) 5 1 ((k.b).length) (BX k.b)]=_;rw[gX (by omega)];simp only[List.length_set]) ?_
    refine aW ?_
    refine aO ?_
    refine dG 11 (v:=sB p ((ys.set (at_+j) x7)) c) (show(sB p ys c:Value)=_ by simp only[sB,List.length_set]) ?_
    refine aC ?_
    refine lE bG ?_
    refine aW ?_
    refine aY ?_
    refine cC ?_
    refine lE dR ?_
    refine lE eE ?_
    refine aW ?_
    refine dU rfl ?_
    refine aC ?_
    refine lE cX ?_
    refine lE bM ?_
    refine lu (mS 1 (#[sB pH k.head cH,sB p ((ys.set (at_+j) x7)) c,sB pB k.b cB,Ix (pl k.power (j+1))])) ?_
    refine aG ?_
    refine bD ?_
    refine bD ?_
    refine aQ ?_
    refine aC ?_
    refine lE bG ?_
    refine lv (v:=Nx (j+1)) (bJ rfl rfl (bU (by omega) (by omega))) ?_
    refine lE bV ?_
    refine aG ?_
    exact bT ⟨(j+1,(ys.set (at_+j) x7),p,c),⟨⟨rfl,rfl,rfl,rfl,rfl,rfl⟩,rfl,⟨hpst.1,by rw[hys,fM hx8,if_pos (by rw[←hys];omega)]⟩⟩,(show bs.length-(j+1)<bs.length-j from by omega)⟩
   refine aC ?_
   iterate 2 refine lE cX ?_
   refine lE bG ?_
   obtain⟨x13,hx14⟩:=kC bs j (by omega)
   obtain⟨ha15,cs16,hc17,rfl⟩:=ve _ _ hx14
   refine lE (rN bQ ha15) ?_
   refine lv (v:=Bx (x13)) (bZ gQ.ok rfl (kB hc17)) ?_
   refine cF rfl rfl rfl (cO bQ iG.ok (cells:= #[Bx (x13)]) rfl rfl rfl rfl) ?_
   rintro _ _ ⟨b19,rfl,rfl⟩
   refine cF rfl rfl rfl (cG (enc:=fun c:UInt8=>Bx c) 4 dJ bQ fV (v:=sB p ys c) (xs:=ys) (ys:=[x13]) (ao:=some ⟨b19,0,none⟩) (c:=1) rfl rfl (by first|rfl|simp) rfl (by first|rfl|simp) (fO 0 (xs:=[x13]) rfl) (by first|omega|(simp only[List.length_append,List.length_nil,List.length_cons,aL]at*;omega)) (by first|omega|(simp only[List.length_append,List.length_nil,List.length_cons,aL]at*;omega))) ?_
   rintro _ _ ⟨rp20,rc21,rfl,rfl⟩
   refine lE fR ?_
   refine eJ ?_
   refine lE bG ?_
   refine aW ?_
   refine aY ?_
   refine cC ?_
   refine lE dR ?_
   refine lE eE ?_
   refine aW ?_
   refine dU rfl ?_
   refine aC ?_
   refine lE cX ?_
   refine lE bM ?_
   refine lu (mS 2 (#[sB pH k.head cH,sB rp20 (ys++[x13]) rc21,sB pB k.b cB,Ix (pl k.power (j+1))])) ?_
   refine aG ?_
   refine bD ?_
   refine bD ?_
   refine aQ ?_
   refine aC ?_
   refine lE bG ?_
   refine lv (v:=Nx (j+1)) (bJ rfl rfl (bU (by omega) (by omega))) ?_
   refine lE bV ?_
   refine aG ?_
   refine dL [false,true,true,true,true,true] rfl ?_
   exact bT ⟨(j+1,ys++[x13],rp20,rc21),⟨⟨rfl,rfl,rfl,rfl,rfl,rfl⟩,rfl,⟨hpst.1,by rw[hys,fM hx14,if_neg (by rw[←hys];omega)]⟩⟩,(show bs.length-(j+1)<bs.length-j from by omega)⟩
  refine eT ?_
  refine aO ?_
  have hq:pl k.power j=pl k.power (j+1):=by have h9:=hpst.2;unfold dN at h9;split at h9<;>omega
  refine lR (L':=[pt b2 (.cells #[.slice none 0 0,.slice none 0 0,.slice none 0 0,.int .i64 (0)] 32),pt b1 (.cells #[sB pH k.head cH,sB p ys c,sB pB k.b cB,Ix (pl k.power (j+1))] 32),rB pH k.head cH,rB p ys c,rB pB k.b cB]) (by show [pt b2 (.cells #[.slice none 0 0,.slice none 0 0,.slice none 0 0,.int .i64 (0)] 32),pt b1 (.cells #[sB pH k.head cH,sB p ys c,sB pB k.b cB,Ix (pl k.power j)] 32),rB pH k.head cH,rB p ys c,rB pB k.b cB]=_;rw[hq]) ?_
  refine bA 3 rfl (fun hcl hcm=> ?_)
  refine aC ?_
  refine lE bM ?_
  refine lE (fA 1) ?_
  refine lE fR ?_
  refine aW ?_
  refine dX ?_
  refine aC ?_
  refine lE bG ?_
  refine lE jI ?_
  refine aW ?_
  refine dU rfl ?_
  refine aC ?_
  refine lE (dO 1) ?_
  refine lE bG ?_
  refine gW gU (fun w β1 sb kn hw1=>rR β1 w hw1 0 (by decide) ({k with a:=ys,power:=pl k.power (j+1)}:KS) _ _ _ (kU kn 2 rfl) (kU kn 3 rfl) (kU kn 4 rfl)) ?_
  refine lE fR ?_
  refine aW ?_
  refine dX ?_
  refine aC ?_
  iterate 2 refine lE bG ?_
  refine lE xS ?_
  refine lE cX ?_
  refine lE fC ?_
  refine lE jI ?_
  refine aW ?_
  refine cK _ rfl (fun hc22=> ?_) (fun hc22=> ?_)
  ·refine aC ?_
   refine lE cX ?_
   iterate 2 refine lE bG ?_
   refine lE xS ?_
   refine lE cX ?_
   refine lE bG ?_
   obtain⟨x23,hx24⟩:=kC bs j (by omega)
   obtain⟨ha25,cs26,hc27,rfl⟩:=ve _ _ hx24
   refine lE (rN bQ ha25) ?_
   refine lv (v:=Bx (x23)) (bZ gQ.ok rfl (kB hc27)) ?_
   refine lv (v:= .pointer (some ((ba p).add ((at_+j)*1)))) (dK 3 (j:=at_+j) (len:=(ys).length) (cap:=c) (p:=p) rfl rfl bQ (by omega) (by omega) rfl) ?_
   refine lu (fJ 3 gQ.ok (o:=(at_+j)*1) (v:=Bx (x23)) rfl rfl rfl rfl rfl (by omega) (by omega)) ?_
   refine pR (L':=[pt b2 (.cells #[.slice none 0 0,.slice none 0 0,.slice none 0 0,.int .i64 (0)] 32),pt b1 (.cells #[.slice pH (k.head).length cH,.slice p ((ys.set (at_+j) x23)).length c,.slice pB (k.b).length cB,Ix (pl k.power (j+1))] 32),row (.slice pH (k.head).length cH) 5 1 ((k.head).length) (BX k.head),row (.slice p ((ys.set (at_+j) x23)).length c) 5 1 (((ys.set (at_+j) x23)).length) (BX (ys.set (at_+j) x23)),row (.slice pB (k.b).length cB) 5 1 ((k.b).length) (BX k.b)]) (by show [pt b2 (.cells #[.slice none 0 0,.slice none 0 0,.slice none 0 0,.int .i64 (0)] 32),pt b1 (.cells #[.slice pH (k.head).length cH,.slice p (ys).length c,.slice pB (k.b).length cB,Ix (pl k.power (j+1))] 32),row (.slice pH (k.head).length cH) 5 1 ((k.head).length) (BX k.head),row (.slice p (ys).length c) 5 1 ((ys).length) ((kE (BX ys) ((at_+j)*1) [Bx (x23)])),row (.slice pB (k.b).length cB) 5 1 ((k.b).length) (BX k.b)]=_;rw[gX (by omega)];simp only[List.length_set]) ?_
   refine aW ?_
   refine aO ?_
   refine dG 11 (v:=sB p ((ys.set (at_+j) x23)) c) (show(sB p ys c:Value)=_ by simp only[sB,List.length_set]) ?_
   refine aC ?_
   refine lE bG ?_
   refine aW ?_
   refine aY ?_
   refine cC ?_
   refine lE dR ?_
   refine lE eE ?_
   refine aW ?_
   refine dU rfl ?_
   refine aC ?_
   refine lE cX ?_
   refine lE bM ?_
   refine lu (mS 1 (#[sB pH k.head cH,sB p ((ys.set (at_+j) x23)) c,sB pB k.b cB,Ix (pl k.power (j+1))])) ?_
   refine aG ?_
   refine bD ?_
   refine bD ?_
   refine aQ ?_
   refine aC ?_
   refine lE bG ?_
   refine lv (v:=Nx (j+1)) (bJ rfl rfl (bU (by omega) (by omega))) ?_
   refine lE bV ?_
   refine aG ?_
   exact bT ⟨(j+1,(ys.set (at_+j) x23),p,c),⟨⟨rfl,rfl,rfl,rfl,rfl,rfl⟩,rfl,⟨hpst.1,by rw[hys,fM hx24,if_pos (by rw[←hys];omega)]⟩⟩,(show bs.length-(j+1)<bs.length-j from by omega)⟩
  refine aC ?_
  iterate 2 refine lE cX ?_
  refine lE bG ?_
  obtain⟨x29,hx30⟩:=kC bs j (by omega)
  obtain⟨ha31,cs32,hc33,rfl⟩:=ve _ _ hx30
  refine lE (rN bQ ha31) ?_
  refine lv (v:=Bx (x29)) (bZ gQ.ok rfl (kB hc33)) ?_
  refine cF rfl rfl rfl (cO bQ iG.ok (cells:= #[Bx (x29)]) rfl rfl rfl rfl) ?_
  rintro _ _ ⟨b35,rfl,rfl⟩
  refine cF rfl rfl rfl (cG (enc:=fun c:UInt8=>Bx c) 4 dJ bQ fV (v:=sB p ys c) (xs:=ys) (ys:=[x29]) (ao:=some ⟨b35,0,none⟩) (c:=1) rfl rfl (by first|rfl|simp) rfl (by first|rfl|simp) (fO 0 (xs:=[x29]) rfl) (by first|omega|(simp only[List.length_append,List.length_nil,List.length_cons,aL]at*;omega)) (by first|omega|(simp only[List.length_append,List.length_nil,List.length_cons,aL]at*;omega))) ?_
  rintro _ _ ⟨rp36,rc37,rfl,rfl⟩
  refine lE fR ?_
  refine eJ ?_
  refine lE bG ?_
  refine aW ?_
  refine aY ?_
  refine cC ?_
  refine lE dR ?_
  refine lE eE ?_
  refine aW ?_
  refine dU rfl ?_
  refine aC ?_
  refine lE cX ?_
  refine lE bM ?_
  refine lu (bS 2 lV.ok (cs':= #[sB pH k.head cH,sB rp36 (ys++[x29]) rc37,sB pB k.b cB,Ix (pl k.power (j+1))]) rfl rfl rfl rfl rfl rfl rfl) ?_
  refine aG ?_
  refine bD ?_
  refine bD ?_
  refine aQ ?_
  refine aC ?_
  refine lE bG ?_
  refine lv (v:=Nx (j+1)) (bJ (a:=((j:Nat):Int)) (b:=(1:Int)) rfl rfl (bU (by omega) (by omega))) ?_
  refine lE bV ?_
  refine aG ?_
  refine dL (L':=[pt b2 (.cells #[.slice none 0 0,.slice none 0 0,.slice none 0 0,.int .i64 (0)] 32),pt b1 (.cells #[sB pH k.head cH,sB rp36 (ys++[x29]) rc37,sB pB k.b cB,Ix (pl k.power (j+1))] 32),rB pH k.head cH,rB rp36 (ys++[x29]) rc37,rB pB k.b cB]) [false,true,true,true,true,true] rfl ?_
  exact bT ⟨(j+1,ys++[x29],rp36,rc37),⟨⟨rfl,rfl,rfl,rfl,rfl,rfl⟩,rfl,⟨hpst.1,by rw[hys,fM hx30,if_neg (by rw[←hys];omega)]⟩⟩,(show bs.length-(j+1)<bs.length-j from by omega)⟩
 refine dZ ?_
 refine aU ?_
 refine aU ?_
 refine eA ?_
 refine qF ?_
 refine lE (dO 1) ?_
 refine lu (bS 0 fX.ok (cs':= #[sB pH k.head cH,sB p ys c,sB pB k.b cB,Ix (pl k.power j)]) rfl rfl rfl rfl rfl rfl rfl) ?_
 refine lE eE ?_
 refine aW ?_
 refine bB ?_
 refine fH (m:=[.agg #[sB pH k.head cH,sB p ys c,sB pB k.b cB,Ix (pl k.power j)],.bool false]) Try.results64 ⟨bY fX.ok rfl (dM 0 rfl rfl) rfl,cN (v:= .bool false) rfl,trivial⟩ rfl ?_
 intro w hw
 have hw2:=aF [true,true,true,false,false] rfl (hw.perm (L':=[rB pH k.head cH,rB p ys c,rB pB k.b cB,pt b2 (.cells #[sB pH k.head cH,sB p ys c,sB pB k.b cB,Ix (pl k.power j)] 32),pt b1 (.cells #[sB pH k.head cH,sB p ys c,sB pB k.b cB,Ix (pl k.power j)] 32)]) (by exact(bN [2,3,4,0,1] 5 rfl (by kernel_rfl) (by kernel_rfl))))
 obtain⟨e1,e0⟩:=rP hj (by omega)
 have e4:pl k.power j=pl k.power bs.length:=by rw[e0]
 have ec:eI k.power bs:=e1
 have e2:ys=lJ k.a k.power at_ bs:=by rw[hys,lJ,e1,e0]
 rw[e4,e2]at hw2⊢
 rw[←uX he]
 exact⟨p,c,by unfold xK;(try unfold sB);simp[ec],hw2⟩
theorem aAm(β:Base)(w:World)(pH pA pB:Option Addr)(cH cA cB:Nat)(k:KS)(hk:k.head.length≤1048576∧k.a.length≤1048576∧k.b.length≤1048576∧k.power≤9223372036854775807)(e:Nat)(he:e%2=1)(at_:Nat)(hat:at_≤1048576)(bs:Bs)(v:Value)(hb:bs.length≤1048576)(hs:Sl bE β.heap v bs)(hw:St β [rB pH k.head cH,rB pA k.a cA,rB pB k.b cB] w):Calls Try.prog 64 #[.agg #[sB pH k.head cH,sB pA k.a cA,sB pB k.b cB,Ix k.power],.int .i64 1,Nx at_,v] w fun r w'=>∃p c,r= .returned (.tuple #[.agg #[sB pH ((cJ k e at_ bs).head) cH,sB pA ((cJ k e at_ bs).a) cA,sB p ((cJ k e at_ bs).b) c,Ix (cJ k e at_ bs).power],.bool (decide (¬eI k.power bs))])∧St β [rB pH ((cJ k e at_ bs).head) cH,rB pA ((cJ k e at_ bs).a) cA,rB p ((cJ k e at_ bs).b) c] w':=by
 obtain⟨va,vc,rfl,vl,vm,ve⟩:=hs.get
 refine enter (n:=70) Try.func64 rfl Try.ntmps64 rfl ?_ hw
 refine cC ?_
 refine pD fun b1=> ?_
 refine fZ fun b2=> ?_
 refine lE eE ?_
 refine aW ?_
 refine dX ?_
 refine aC ?_
 refine lE bV ?_
 refine aW ?_
 refine aY ?_
 refine dV (fun(x_:Nat×Bs×Option Addr×Nat) f L=>match x_ with|(j,ys,p,c)=>(f 1= .int .i64 (1)∧f 2=Nx (at_)∧f 3=sB va bs (vc)∧f 4=pp b1 0∧f 8=pp b2 0∧f 10=Nx (j))∧L=[pt b2 (.cells #[.slice none 0 0,.slice none 0 0,.slice none 0 0,.int .i64 (0)] 32),pt b1 (.cells #[sB pH k.head cH,sB pA k.a cA,sB p ys c,Ix (pl k.power j)] 32),rB pH k.head cH,rB pA k.a cA,rB p ys c]∧(j≤pw k.power bs.length∧ys=wr k.b at_ (bs.take j))) (fun(j,ys,p,c)=>bs.length-j) (0,k.b,pB,cB) ?_ ?_
 ·exact⟨⟨rfl,rfl,rfl,rfl,rfl,rfl⟩,(by rw[oP];rfl),⟨by omega,by simp[wr]⟩⟩
 rintro⟨j,ys,p,c⟩ f0 L0 ⟨⟨hs1,hs2,hs3,hs4,hs8,hs10⟩,hL,⟨hj,hys⟩⟩
 subst L0
 refine dG 1 hs1 ?_
 refine dG 2 hs2 ?_
 refine dG 3 hs3 ?_
 refine dG 4 hs4 ?_
 refine dG 8 hs8 ?_
 refine dG 10 hs10 ?_
 have hyl:ys.length≤k.b.length+bs.length:=by rw[hys];refine Nat.le_trans iS ?_;simp;omega
 have hpl:=sM k.power j
 have hpm:=hk.2.2.2
 refine dX ?_
 refine aC ?_
 refine lE bG ?_
 refine lE cX ?_
 refine lE fC ?_
 refine lE jI ?_
 refine aW ?_
 refine cK (((j:Nat):Int)<((bs.length:Nat):Int)) rfl (fun hc3=> ?_) (fun hc3=> ?_)
 ·have hc_:j<bs.length:=by omega
  refine eT ?_
  refine aO ?_
  refine aY ?_
  refine dX ?_
  refine aC ?_
  refine lE bM ?_
  refine lE (eU 1) ?_
  refine lE dR ?_
  refine aW ?_
  refine cK ((pl k.power j)=(0:Int)) rfl (fun hc4=> ?_) (fun hc4=> ?_)
  ·refine cC ?_
   refine lE (dO 1) ?_
   refine lu (bS 0 fX.ok (cs':= #[sB pH k.head cH,sB pA k.a cA,sB p ys c,Ix (pl k.power j)]) rfl rfl rfl rfl rfl rfl rfl) ?_
   refine lE eE ?_
   refine aW ?_
   refine bB ?_
   refine aK ?_
   refine bH ?_
   refine aK ?_
   refine aK ?_
   refine bH ?_
   refine aK ?_
   refine fH (m:=[.agg #[sB pH k.head cH,sB pA k.a cA,sB p ys c,Ix (pl k.power j)],.bool true]) Try.results64 ⟨bY fX.ok rfl (dM 0 rfl rfl) rfl,cN (v:= .bool true) rfl,trivial⟩ rfl ?_
   intro w hw
   have hw2:=aF [true,true,true,false,false] rfl (hw.perm (L':=[rB pH k.head cH,rB pA k.a cA,rB p ys c,pt b2 (.cells #[sB pH k.head cH,sB pA k.a cA,sB p ys c,Ix (pl k.power j)] 32),pt b1 (.cells #[sB pH k.head cH,sB pA k.a cA,sB p ys c,Ix (pl k.power j)] 32)]) (by exact(bN [2,3,4,0,1] 5 rfl (by kernel_rfl) (by kernel_rfl))))
   obtain⟨e1,e3⟩:=oS hj hc_ hc4
   have e4:pl k.power j=pl k.power bs.length:=by rw[hc4,e3]
   have ec:¬eI k.power bs:=by unfold eI;omega
   have e2:ys=lJ k.b k.power at_ bs:=by rw[hys,lJ,e1]
   rw[e4,e2]at hw2⊢
   rw[←xP he]
   exact⟨p,c,by unfold xK;(try unfold sB);simp[ec],hw2⟩
  refine eT ?_
  refine dX ?_
  have hpst:=oR hj hc_ hc4
  refine aC ?_
  refine lE bM ?_
  refine lE (eU 1) ?_
  refine lE qZ ?_
  refine aW ?_
  refine cK _ rfl (fun hc5=> ?_) (fun hc5=> ?_)
  ·refine aC ?_
   refine lE bM ?_
   refine lE (eU 1) ?_
   refine lE omn ?_
   refine lE bM ?_
   refine lu (mS 1 (#[sB pH k.head cH,sB pA k.a cA,sB p ys c,Ix ((pl k.power j)-(1:Int))])) ?_
   refine aW ?_
   refine aO ?_
   have hq:(pl k.power j)-(1:Int)=pl k.power (j+1):=by have h9:=hpst.2;unfold dN at h9;split at h9<;>omega
   refine lR (L':=[pt b2 (.cells #[.slice none 0 0,.slice none 0 0,.slice none 0 0,.int .i64 (0)] 32),pt b1 (.cells #[sB pH k.head cH,sB pA k.a cA,sB p ys c,Ix (pl k.power (j+1))] 32),rB pH k.head cH,rB pA k.a cA,rB p ys c]) (by show [pt b2 (.cells #[.slice none 0 0,.slice none 0 0,.slice none 0 0,.int .i64 (0)] 32),pt b1 (.cells #[sB pH k.head cH,sB pA k.a cA,sB p ys c,Ix ((pl k.power j)-(1:Int))] 32),rB pH k.head cH,rB pA k.a cA,rB p ys c]=_;rw[hq]) ?_
   refine bA 4 rfl (fun hcl hcm=> ?_)
   refine aC ?_
   refine lE bM ?_
   refine lE (fA 1) ?_
   refine lE fR ?_
   refine aW ?_
   refine dX ?_
   refine aC ?_
   refine lE bG ?_
   refine lE jI ?_
   refine aW ?_
   refine dU rfl ?_
   refine aC ?_
   refine lE (dO 1) ?_
   refine lE bG ?_
   refine gW gU (fun w β1 sb kn hw1=>rS β1 w hw1 1 (by decide) ({k with b:=ys,power:=pl k.power (j+1)}:KS) _ _ _ (kU kn 2 rfl) (kU kn 3 rfl) (kU kn 4 rfl)) ?_
   refine lE fR ?_
   refine aW ?_
   refine dX ?_
   refine aC ?_
   iterate 2 refine lE bG ?_
   refine lE xS ?_
   refine lE cX ?_
   refine lE fC ?_
   refine lE jI ?_
   refine aW ?_
   refine cK _ rfl (fun hc6=> ?_) (fun hc6=> ?_)
   ·refine aC ?_
    refine lE cX ?_
    iterate 2 refine lE bG ?_
    refine lE xS ?_
    refine lE cX ?_
    refine lE bG ?_
    obtain⟨x7,hx8⟩:=kC bs j (by omega)
    obtain⟨ha9,cs10,hc11,rfl⟩:=ve _ _ hx8
    refine lE (rN bQ ha9) ?_
    refine lv (v:=Bx (x7)) (bZ gQ.ok rfl (kB hc11)) ?_
    refine lv (v:= .pointer (some ((ba p).add ((at_+j)*1)))) (dK 4 (j:=at_+j) (len:=(ys).length) (cap:=c) (p:=p) rfl rfl bQ (by omega) (by omega) rfl) ?_
    refine lu (fJ 4 gQ.ok (o:=(at_+j)*1) (v:=Bx (x7)) rfl rfl rfl rfl rfl (by omega) (by omega)) ?_
    refine pR (L':=[pt b2 (.cells #[.slice none 0 0,.slice none 0 0,.slice none 0 0,.int .i64 (0)] 32),pt b1 (.cells #[.slice pH (k.head).length cH,.slice pA (k.a).length cA,.slice p ((ys.set (at_+j) x7)).length c,Ix (pl k.power (j+1))] 32),row (.slice pH (k.head).length cH) 5 1 ((k.head).length) (BX k.head),row (.slice pA (k.a).length cA) 5 1 ((k.a).length) (BX k.a),row (.slice p ((ys.set (at_+j) x7)).length c) 5 1 (((ys.set (at_+j) x7)).length) (BX (ys.set (at_+j) x7))]) (by show [pt b2 (.cells #[.slice none 0 0,.slice none 0 0,.slice none 0 0,.int .i64 (0)] 32),pt b1 (.cells #[.slice pH (k.head).length cH,.slice pA (k.a).length cA,.slice p (ys).length c,Ix (pl k.power (j+1))] 32),row (.slice pH (k.head).length cH) 5 1 ((k.head).length) (BX k.head),row (.slice pA (k.a).length cA) 5 1 ((k.a).length) (BX k.a),row (.slice p (ys).length c) 5 1 ((ys).length) ((kE (BX ys) ((at_+j)*1) [Bx (x7)]))]=_;rw[gX (by omega)];simp only[List.length_set]) ?_
    refine aW ?_
    refine aO ?_
    refine dG 11 (v:=sB p ((ys.set (at_+j) x7)) c) (show(sB p ys c:Value)=_ by simp only[sB,List.length_set]) ?_
    refine aC ?_
    refine lE bG ?_
    refine aW ?_
    refine aY ?_
    refine cC ?_
    refine lE dR ?_
    refine lE eE ?_
    refine aW ?_
    refine dI rfl ?_
    refine cC ?_
    refine lE dR ?_
    refine lE eE ?_
    refine aW ?_
    refine dU rfl ?_
    refine aC ?_
    refine lE cX ?_
    refine lE bM ?_
    refine lu (mS 1 (#[sB pH k.head cH,sB pA k.a cA,sB p ((ys.set (at_+j) x7)) c,Ix (pl k.power (j+1))])) ?_
    refine aG ?_
    refine bD ?_
    refine bD ?_
    refine aQ ?_
    refine aC ?_
    refine lE bG ?_
    refine lv (v:=Nx (j+1)) (bJ rfl rfl (bU (by omega) (by omega))) ?_
    refine lE bV ?_
    refine aG ?_
    exact bT ⟨(j+1,(ys.set (at_+j) x7),p,c),⟨⟨rfl,rfl,rfl,rfl,rfl,rfl⟩,rfl,⟨hpst.1,by rw[hys,fM hx8,if_pos (by rw[←hys];omega)]⟩⟩,(show bs.length-(j+1)<bs.length-j from by omega)⟩
   refine aC ?_
   iterate 2 refine lE cX ?_
   refine lE bG ?_
   obtain⟨x13,hx14⟩:=kC bs j (by omega)
   obtain⟨ha15,cs16,hc17,rfl⟩:=ve _ _ hx14
   refine lE (rN bQ ha15) ?_
   refine lv (v:=Bx (x13)) (bZ gQ.ok rfl (kB hc17)) ?_
   refine cF rfl rfl rfl (cO bQ iG.ok (cells:= #[Bx (x13)]) rfl rfl rfl rfl) ?_
   rintro _ _ ⟨b19,rfl,rfl⟩
   refine cF rfl rfl rfl (cG (enc:=fun c:UInt8=>Bx c) 5 dJ bQ fV (v:=sB p ys c) (xs:=ys) (ys:=[x13]) (ao:=some ⟨b19,0,none⟩) (c:=1) rfl rfl (by first|rfl|simp) rfl (by first|rfl|simp) (fO 0 (xs:=[x13]) rfl) (by first|omega|(simp only[List.length_append,List.length_nil,List.length_cons,aL]at*;omega)) (by first|omega|(simp only[List.length_append,List.length_nil,List.length_cons,aL]at*;omega))) ?_
   rintro _ _ ⟨rp20,rc21,rfl,rfl⟩
   refine lE fR ?_
   refine eJ ?_
   refine lE bG ?_
   refine aW ?_
   refine aY ?_
   refine cC ?_
   refine lE dR ?_
   refine lE eE ?_
   refine aW ?_
   refine dI rfl ?_
   refine cC ?_
   refine lE dR ?_
   refine lE eE ?_
   refine aW ?_
   refine dU rfl ?_
   refine aC ?_
   refine lE cX ?_
   refine lE bM ?_
   refine lu (mS 2 (#[sB pH k.head cH,sB pA k.a cA,sB rp20 (ys++[x13]) rc21,Ix (pl k.power (j+1))])) ?_
   refine aG ?_
   refine bD ?_
   refine bD ?_
   refine aQ ?_
   refine aC ?_
   refine lE bG ?_
   refine lv (v:=Nx (j+1)) (bJ rfl rfl (bU (by omega) (by omega))) ?_
   refine lE bV ?_
   refine aG ?_
   refine dL [false,true,true,true,true,true] rfl ?_
   exact bT ⟨(j+1,ys++[x13],rp20,rc21),⟨⟨rfl,rfl,rfl,rfl,rfl,rfl⟩,rfl,⟨hpst.1,by rw[hys,fM hx14,if_neg (by rw[←hys];omega)]⟩⟩,(show bs.length-(j+1)<bs.length-j from by omega)⟩
  refine eT ?_
  refine aO ?_
  have hq:pl k.power j=pl k.power (j+1):=by have h9:=hpst.2;unfold dN at h9;split at h9<;>omega
  refine lR (L':=[pt b2 (.cells #[.slice none 0 0,.slice none 0 0,.slice none 0 0,.int .i64 (0)] 32),pt b1 (.cells #[sB pH k.head cH,sB pA k.a cA,sB p ys c,Ix (pl k.power (j+1))] 32),rB pH k.head cH,rB pA k.a cA,rB p ys c]) (by show [pt b2 (.cells #[.slice none 0 0,.slice none 0 0,.slice none 0 0,.int .i64 (0)] 32),pt b1 (.cells #[sB pH k.head cH,sB pA k.a cA,sB p ys c,Ix (pl k.power j)] 32),rB pH k.head cH,rB pA k.a cA,rB p ys c]=_;rw[hq]) ?_
  refine bA 4 rfl (fun hcl hcm=> ?_)
  refine aC ?_
  refine lE bM ?_
  refine lE (fA 1) ?_
  refine lE fR ?_
  refine aW ?_
  refine dX ?_
  refine aC ?_
  refine lE bG ?_
  refine lE jI ?_
  refine aW ?_
  refine dU rfl ?_
  refine aC ?_
  refine lE (dO 1) ?_
  refine lE bG ?_
  refine gW gU (fun w β1 sb kn hw1=>rS β1 w hw1 1 (by decide) ({k with b:=ys,power:=pl k.power (j+1)}:KS) _ _ _ (kU kn 2 rfl) (kU kn 3 rfl) (kU kn 4 rfl)) ?_
  refine lE fR ?_
  refine aW ?_
  refine dX ?_
  refine aC ?_
  iterate 2 refine lE bG ?_
  refine lE xS ?_
  refine lE cX ?_
  refine lE fC ?_
  refine lE jI ?_
  refine aW ?_
  refine cK _ rfl (fun hc22=> ?_) (fun hc22=> ?_)
  ·refine aC ?_
   refine lE cX ?_
   iterate 2 refine lE bG ?_
   refine lE xS ?_
   refine lE cX ?_
   refine lE bG ?_
   obtain⟨x23,hx24⟩:=kC bs j (by omega)
   obtain⟨ha25,cs26,hc27,rfl⟩:=ve _ _ hx24
   refine lE (rN bQ ha25) ?_
   refine lv (v:=Bx (x23)) (bZ gQ.ok rfl (kB hc27)) ?_
   refine lv (v:= .pointer (some ((ba p).add ((at_+j)*1)))) (dK 4 (j:=at_+j) (len:=(ys).length) (cap:=c) (p:=p) rfl rfl bQ (by omega) (by omega) rfl) ?_
   refine lu (fJ 4 gQ.ok (o:=(at_+j)*1) (v:=Bx (x23)) rfl rfl rfl rfl rfl (by omega) (by omega)) ?_
   refine pR (L':=[pt b2 (.cells #[.slice none 0 0,.slice none 0 0,.slice none 0 0,.int .i64 (0)] 32),pt b1 (.cells #[.slice pH (k.head).length cH,.slice pA (k.a).length cA,.slice p ((ys.set (at_+j) x23)).length c,Ix (pl k.power (j+1))] 32),row (.slice pH (k.head).length cH) 5 1 ((k.head).length) (BX k.head),row (.slice pA (k.a).length cA) 5 1 ((k.a).length) (BX k.a),row (.slice p ((ys.set (at_+j) x23)).length c) 5 1 (((ys.set (at_+j) x23)).length) (BX (ys.set (at_+j) x23))]) (by show [pt b2 (.cells #[.slice none 0 0,.slice none 0 0,.slice none 0 0,.int .i64 (0)] 32),pt b1 (.cells #[.slice pH (k.head).length cH,.slice pA (k.a).length cA,.slice p (ys).length c,Ix (pl k.power (j+1))] 32),row (.slice pH (k.head).length cH) 5 1 ((k.head).length) (BX k.head),row (.slice pA (k.a).length cA) 5 1 ((k.a).length) (BX k.a),row (.slice p (ys).length c) 5 1 ((ys).length) ((kE (BX ys) ((at_+j)*1) [Bx (x23)]))]=_;rw[gX (by omega)];simp only[List.length_set]) ?_
   refine aW ?_
   refine aO ?_
   refine dG 11 (v:=sB p ((ys.set (at_+j) x23)) c) (show(sB p ys c:Value)=_ by simp only[sB,List.length_set]) ?_
   refine aC ?_
   refine lE bG ?_
   refine aW ?_
   refine aY ?_
   refine cC ?_
   refine lE dR ?_
   refine lE eE ?_
   refine aW ?_
   refine dI rfl ?_
   refine cC ?_
   refine lE dR ?_
   refine lE eE ?_
   refine aW ?_
   refine dU rfl ?_
   refine aC ?_
   refine lE cX ?_
   refine lE bM ?_
   refine lu (mS 1 (#[sB pH k.head cH,sB pA k.a cA,sB p ((ys.set (at_+j) x23)) c,Ix (pl k.power (j+1))])) ?_
   refine aG ?_
   refine bD ?_
   refine bD ?_
   refine aQ ?_
   refine aC ?_
   refine lE bG ?_
   refine lv (v:=Nx (j+1)) (bJ rfl rfl (bU (by omega) (by omega))) ?_
   refine lE bV ?_
   refine aG ?_
   exact bT ⟨(j+1,(ys.set (at_+j) x23),p,c),⟨⟨rfl,rfl,rfl,rfl,rfl,rfl⟩,rfl,⟨hpst.1,by rw[hys,fM hx24,if_pos (by rw[←hys];omega)]⟩⟩,(show bs.length-(j+1)<bs.length-j from by omega)⟩
  refine aC ?_
  iterate 2 refine lE cX ?_
  refine lE bG ?_
  obtain⟨x29,hx30⟩:=kC bs j (by omega)
  obtain⟨ha31,cs32,hc33,rfl⟩:=ve _ _ hx30
  refine lE (rN bQ ha31) ?_
  refine lv (v:=Bx (x29)) (bZ gQ.ok rfl (kB hc33)) ?_
  refine cF rfl rfl rfl (cO bQ iG.ok (cells:= #[Bx (x29)]) rfl rfl rfl rfl) ?_
  rintro _ _ ⟨b35,rfl,rfl⟩
  refine cF rfl rfl rfl (cG (enc:=fun c:UInt8=>Bx c) 5 dJ bQ fV (v:=sB p ys c) (xs:=ys) (ys:=[x29]) (ao:=some ⟨b35,0,none⟩) (c:=1) rfl rfl (by first|rfl|simp) rfl (by first|rfl|simp) (fO 0 (xs:=[x29]) rfl) (by first|omega|(simp only[List.length_append,List.length_nil,List.length_cons,aL]at*;omega)) (by first|omega|(simp only[List.length_append,List.length_nil,List.length_cons,aL]at*;omega))) ?_
  rintro _ _ ⟨rp36,rc37,rfl,rfl⟩
  refine lE fR ?_
  refine eJ ?_
  refine lE bG ?_
  refine aW ?_
  refine aY ?_
  refine cC ?_
  refine lE dR ?_
  refine lE eE ?_
  refine aW ?_
  refine dI rfl ?_
  refine cC ?_
  refine lE dR ?_
  refine lE eE ?_
  refine aW ?_
  refine dU rfl ?_
  refine aC ?_
  refine lE cX ?_
  refine lE bM ?_
  refine lu (bS 2 lV.ok (cs':= #[sB pH k.head cH,sB pA k.a cA,sB rp36 (ys++[x29]) rc37,Ix (pl k.power (j+1))]) rfl rfl rfl rfl rfl rfl rfl) ?_
  refine aG ?_
  refine bD ?_
  refine bD ?_
  refine aQ ?_
  refine aC ?_
  refine lE bG ?_
  refine lv (v:=Nx (j+1)) (bJ (a:=((j:Nat):Int)) (b:=(1:Int)) rfl rfl (bU (by omega) (by omega))) ?_
  refine lE bV ?_
  refine aG ?_
  refine dL (L':=[pt b2 (.cells #[.slice none 0 0,.slice none 0 0,.slice none 0 0,.int .i64 (0)] 32),pt b1 (.cells #[sB pH k.head cH,sB pA k.a cA,sB rp36 (ys++[x29]) rc37,Ix (pl k.power (j+1))] 32),rB pH k.head cH,rB pA k.a cA,rB rp36 (ys++[x29]) rc37]) [false,true,true,true,true,true] rfl ?_
  exact bT ⟨(j+1,ys++[x29],rp36,rc37),⟨⟨rfl,rfl,rfl,rfl,rfl,rfl⟩,rfl,⟨hpst.1,by rw[hys,fM hx30,if_neg (by rw[←hys];omega)]⟩⟩,(show bs.length-(j+1)<bs.length-j from by omega)⟩
 refine dZ ?_
 refine aU ?_
 refine aU ?_
 refine eA ?_
 refine qF ?_
 refine lE (dO 1) ?_
 refine lu (bS 0 fX.ok (cs':= #[sB pH k.head cH,sB pA k.a cA,sB p ys c,Ix (pl k.power j)]) rfl rfl rfl rfl rfl rfl rfl) ?_
 refine lE eE ?_
 refine aW ?_
 refine bB ?_
 refine fH (m:=[.agg #[sB pH k.head cH,sB pA k.a cA,sB p ys c,Ix (pl k.power j)],.bool false]) Try.results64 ⟨bY fX.ok rfl (dM 0 rfl rfl) rfl,cN (v:= .bool false) rfl,trivial⟩ rfl ?_
 intro w hw
 have hw2:=aF [true,true,true,false,false] rfl (hw.perm (L':=[rB pH k.head cH,rB pA k.a cA,rB p ys c,pt b2 (.cells #[sB pH k.head cH,sB pA k.a cA,sB p ys c,Ix (pl k.power j)] 32),pt b1 (.cells #[sB pH k.head cH,sB pA k.a cA,sB p ys c,Ix (pl k.power j)] 32)]) (by exact(bN [2,3,4,0,1] 5 rfl (by kernel_rfl) (by kernel_rfl))))
 obtain⟨e1,e0⟩:=rP hj (by omega)
 have e4:pl k.power j=pl k.power bs.length:=by rw[e0]
 have ec:eI k.power bs:=e1
 have e2:ys=lJ k.b k.power at_ bs:=by rw[hys,lJ,e1,e0]
 rw[e4,e2]at hw2⊢
 rw[←xP he]
 exact⟨p,c,by unfold xK;(try unfold sB);simp[ec],hw2⟩
theorem yZ(β:Base)(w:World)(pH pA pB:Option Addr)(cH cA cB:Nat)(k:KS)(e size:Nat)(hs:size≤(k.area e).length)(hp:k.power≤9223372036854775807)(hw:St β [rB pH k.head cH,rB pA k.a cA,rB pB k.b cB] w):Calls Try.prog 66 #[.agg #[sB pH k.head cH,sB pA k.a cA,sB pB k.b cB,Ix k.power],Nx (e%2),Nx size] w fun r w'=>r= .returned (.tuple #[.agg #[sB pH ((aV k e size).head) cH,sB pA ((aV k e size).a) cA,sB pB ((aV k e size).b) cB,Ix (aV k e size).power],.bool (decide (¬cutOk (k.area e) k.power size))])∧St β [rB pH ((aV k e size).head) cH,rB pA ((aV k e size).a) cA,rB pB ((aV k e size).b) cB] w':=by
 rcases Nat.mod_two_eq_zero_or_one e with he|he
 ·rw[he];exact aFi β w pH pA pB cH cA cB k e size he hs hp hw
 rw[he];exact aFj β w pH pA pB cH cA cB k e size he hs hp hw
theorem uO(β:Base)(w:World)(pH pA pB:Option Addr)(cH cA cB:Nat)(k:KS)(hk:k.head.length≤1048576∧k.a.length≤1048576∧k.b.length≤1048576∧k.power≤9223372036854775807)(e:Nat)(at_:Nat)(hat:at_≤1048576)(bs:Bs)(v:Value)(hb:bs.length≤1048576)(hs:Sl bE β.heap v bs)(hw:St β [rB pH k.head cH,rB pA k.a cA,rB pB k.b cB] w):Calls Try.prog 64 #[.agg #[sB pH k.head cH,sB pA k.a cA,sB pB k.b cB,Ix k.power],Nx (e%2),Nx at_,v] w fun r w'=>∃pA' pB' cA' cB',r= .returned (.tuple #[.agg #[sB pH ((cJ k e at_ bs).head) cH,sB pA' ((cJ k e at_ bs).a) cA',sB pB' ((cJ k e at_ bs).b) cB',Ix (cJ k e at_ bs).power],.bool (decide (¬eI k.power bs))])∧St β [rB pH ((cJ k e at_ bs).head) cH,rB pA' ((cJ k e at_ bs).a) cA',rB pB' ((cJ k e at_ bs).b) cB'] w':=by
 rcases Nat.mod_two_eq_zero_or_one e with he|he
 ·rw[he];exact(aAl β w pH pA pB cH cA cB k hk e he at_ hat bs v hb hs hw).mono fun r w' ⟨p,c,h⟩=>⟨p,_,c,_,h⟩
 rw[he];exact(aAm β w pH pA pB cH cA cB k hk e he at_ hat bs v hb hs hw).mono fun r w' ⟨p,c,h⟩=>⟨_,p,_,c,h⟩
end Go.Proofs
