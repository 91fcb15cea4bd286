/-
 The reference's Open,Append,Checkpoint,walked. Printed by a program of my own.
-/
import Derived.Test.YtkpdcajddpiknaaJn19
set_option linter.all false
set_option maxHeartbeats 4000000
namespace Go.Proofs
open Go Go.Sl Go.Jn
theorem aEf{k:KS}{m:Nat}(h:k.fits m)(hm:m≤1048576):k.head.length≤1048576∧k.a.length≤1048576∧k.b.length≤1048576∧k.power≤9223372036854775807:=⟨h.1,by have:=h.2.1;omega,by have:=h.2.2.1;omega,h.2.2.2⟩
instance aBn:ZerC Try.prog 56 (.agg #[.slice none 0 0,.slice none 0 0,.slice none 0 0,.int .i64 (0),.int .i64 (0),.int .i64 (0),.slice none 0 0,.slice none 0 0,.int .i64 (0),.bool false]):={}
instance aGb:CfC Try.prog 59:={}
theorem aBo:stB Try.prog 56 [(0,4),(4,5),(9,1)]=true:=by kernel_rfl
instance jK:TyC Try.prog 56 true 10:={}
instance aGc:CfC Try.prog 65:={}
instance aJe:CfC Try.prog 66:={}
instance tf157:FldC Try.prog 56 2 9 1 false:={}
instance tf158:FldC Try.prog 56 0 0 4 true:={}
instance tf159:FldC Try.prog 56 1 4 5 true:={}
instance aGd:CfC Try.prog 64:={}
theorem vZ(β:Base)(w:World)(hw:St β [] w)(k:KS)(vh va vb:Value)(hH:Sl bE β.heap vh k.head)(hA:Sl bE β.heap va k.a)(hB:Sl bE β.heap vb k.b)(hno:¬k.okP):kH Try.prog 59 #[.agg #[vh,va,vb,Ix k.power]] β w (.tuple #[.agg #[.int .i64 0,.int .i64 0,.slice none 0 0,.slice none 0 0,.int .i64 0],.int .i64 2]):=by
 refine(uK β w hw k vh va vb hH hA hB).mono ?_
 rintro r w' (⟨h1,_,h3⟩|⟨_,h2,_⟩|⟨_,h2,_⟩)
 ·exact⟨h1,h3⟩
 ·exact absurd h2 hno
 exact absurd h2 hno
theorem uJ(β:Base)(w:World)(hw:St β [] w)(k:KS)(vh va vb:Value)(hH:Sl bE β.heap vh k.head)(hA:Sl bE β.heap va k.a)(hB:Sl bE β.heap vb k.b)(hok:k.okP)(hri:eW k=none):kH Try.prog 59 #[.agg #[vh,va,vb,Ix k.power]] β w (.tuple #[.agg #[.int .i64 0,.int .i64 0,.slice none 0 0,.slice none 0 0,.int .i64 0],.int .i64 311]):=by
 refine(uK β w hw k vh va vb hH hA hB).mono ?_
 rintro r w' (⟨_,h2,_⟩|⟨h1,_,_,h3⟩|⟨_,_,h2,_⟩)
 ·exact absurd hok h2
 ·exact⟨h1,h3⟩
 rw[hri]at h2;cases h2
theorem pW(β:Base)(w:World)(hw:St β [] w)(k:KS)(vh va vb:Value)(hH:Sl bE β.heap vh k.head)(hA:Sl bE β.heap va k.a)(hB:Sl bE β.heap vb k.b)(hok:k.okP)(i:KI)(hri:eW k=some i):Calls Try.prog 59 #[.agg #[vh,va,vb,Ix k.power]] w fun r w'=>∃ps cs pr cr us,r= .returned (.tuple #[.agg #[Nx i.epoch,Nx i.next,sB ps i.state cs,sB pr i.recs cr,Nx i.size],.int .i64 0])∧(∀h,Sl bE h va k.a→Sl bE h vb k.b→Sl bE h (sB ps i.state cs) i.state∧tX us i.recs h)∧St β [row (sB pr i.recs cr) 30 1 i.recs.length us] w':=by
 refine(uK β w hw k vh va vb hH hA hB).mono ?_
 rintro r w' (⟨_,h2,_⟩|⟨_,_,h2,_⟩|⟨i',_,h2,h3⟩)
 ·exact absurd hok h2
 ·rw[hri]at h2;cases h2
 rw[hri]at h2;cases h2;exact h3
theorem aCx(β:Base)(w:World)(hw:St β [] w)(k:KS)(vh va vb:Value)(hH:Sl bE β.heap vh k.head)(hA:Sl bE β.heap va k.a)(hB:Sl bE β.heap vb k.b)(hno:¬k.okP):kH Try.prog 61 #[.agg #[vh,va,vb,Ix k.power]] β w (.tuple #[.agg #[vh,va,vb,Ix k.power,.int .i64 0,.int .i64 0,.slice none 0 0,.slice none 0 0,.int .i64 0,.bool false],.int .i64 2]):=by
 obtain⟨vha,vhc,rfl,vhl,vhm,vhe⟩:=hH.get
 obtain⟨vaa,vac,rfl,val,vam,vae⟩:=hA.get
 obtain⟨vba,vbc,rfl,vbl,vbm,vbe⟩:=hB.get
 refine enter (n:=34) Try.func61 rfl Try.ntmps61 rfl ?_ hw
 refine cC ?_
 refine pD fun b1=> ?_
 refine fZ fun b2=> ?_
 refine lE bV ?_
 refine eJ ?_
 refine lE (dO 1) ?_
 refine gW gU (fun w β1 sb kn hw1=>vZ β1 w hw1 k _ _ _ (Sl.mono _ _ _ _ _ sb (⟨⟨_,_,rfl,vhl,vhm,vhe⟩⟩:Sl bE _ _ k.head)) (Sl.mono _ _ _ _ _ sb (⟨⟨_,_,rfl,val,vam,vae⟩⟩:Sl bE _ _ k.a)) (Sl.mono _ _ _ _ _ sb (⟨⟨_,_,rfl,vbl,vbm,vbe⟩⟩:Sl bE _ _ k.b)) hno) ?_
 refine lE iK ?_
 refine lE mV ?_
 refine lE kK ?_
 refine fZ fun b3=> ?_
 refine lu (mS 0 (#[.int .i64 (0),.int .i64 (0),.slice none 0 0,.slice none 0 0,.int .i64 (0)])) ?_
 refine lE bV ?_
 refine aW ?_
 refine dX ?_
 refine aC ?_
 refine lE bG ?_
 refine lE gO ?_
 refine aW ?_
 refine dU rfl ?_
 refine cC ?_
 refine lE (dO 2) ?_
 refine lv (v:= .agg #[sB vha k.head (vhc),sB vaa k.a (vac),sB vba k.b (vbc),Ix (k.power),.int .i64 (0),.int .i64 (0),.slice none 0 0,.slice none 0 0,.int .i64 (0),.bool false]) (dW aBn.ok aBo (vs:=[(0,.agg #[sB vha k.head (vhc),sB vaa k.a (vac),sB vba k.b (vbc),Ix (k.power)])]) (cells:= #[sB vha k.head (vhc),sB vaa k.a (vac),sB vba k.b (vbc),Ix (k.power),.int .i64 (0),.int .i64 (0),.slice none 0 0,.slice none 0 0,.int .i64 (0),.bool false]) rfl (by kernel_rfl)) ?_
 refine lE bG ?_
 refine lu (mS 1 (#[sB vha k.head (vhc),sB vaa k.a (vac),sB vba k.b (vbc),Ix (k.power),.int .i64 (0),.int .i64 (0),.slice none 0 0,.slice none 0 0,.int .i64 (0),.bool false])) ?_
 refine lE bV ?_
 refine aW ?_
 refine bB ?_
 refine aK ?_
 refine fH (m:=[.agg #[sB vha k.head (vhc),sB vaa k.a (vac),sB vba k.b (vbc),Ix (k.power),.int .i64 (0),.int .i64 (0),.slice none 0 0,.slice none 0 0,.int .i64 (0),.bool false],.int .i64 (2)]) Try.results61 ⟨bY jK.ok rfl (dM 1 rfl rfl) rfl,cN (v:= .int .i64 (2)) rfl,trivial⟩ rfl ?_
 intro w hw
 exact⟨rfl,aF [false,false,false] rfl hw⟩
theorem aAk(β:Base)(w:World)(hw:St β [] w)(k:KS)(vh va vb:Value)(hH:Sl bE β.heap vh k.head)(hA:Sl bE β.heap va k.a)(hB:Sl bE β.heap vb k.b)(hok:k.okP)(hri:eW k=none):kH Try.prog 61 #[.agg #[vh,va,vb,Ix k.power]] β w (.tuple #[.agg #[vh,va,vb,Ix k.power,.int .i64 0,.int .i64 0,.slice none 0 0,.slice none 0 0,.int .i64 0,.bool false],.int .i64 311]):=by
 obtain⟨vha,vhc,rfl,vhl,vhm,vhe⟩:=hH.get
 obtain⟨vaa,vac,rfl,val,vam,vae⟩:=hA.get
 obtain⟨vba,vbc,rfl,vbl,vbm,vbe⟩:=hB.get
 refine enter (n:=34) Try.func61 rfl Try.ntmps61 rfl ?_ hw
 refine cC ?_
 refine pD fun b1=> ?_
 refine fZ fun b2=> ?_
 refine lE bV ?_
 refine eJ ?_
 refine lE (dO 1) ?_
 refine gW gU (fun w β1 sb kn hw1=>uJ β1 w hw1 k _ _ _ (Sl.mono _ _ _ _ _ sb (⟨⟨_,_,rfl,vhl,vhm,vhe⟩⟩:Sl bE _ _ k.head)) (Sl.mono _ _ _ _ _ sb (⟨⟨_,_,rfl,val,vam,vae⟩⟩:Sl bE _ _ k.a)) (Sl.mono _ _ _ _ _ sb (⟨⟨_,_,rfl,vbl,vbm,vbe⟩⟩:Sl bE _ _ k.b)) hok hri) ?_
 refine lE iK ?_
 refine lE mV ?_
 refine lE kK ?_
 refine fZ fun b3=> ?_
 refine lu (mS 0 (#[.int .i64 (0),.int .i64 (0),.slice none 0 0,.slice none 0 0,.int .i64 (0)])) ?_
 refine lE bV ?_
 refine aW ?_
 refine dX ?_
 refine aC ?_
 refine lE bG ?_
 refine lE gO ?_
 refine aW ?_
 refine dU rfl ?_
 refine cC ?_
 refine lE (dO 2) ?_
 refine lv (v:= .agg #[sB vha k.head (vhc),sB vaa k.a (vac),sB vba k.b (vbc),Ix (k.power),.int .i64 (0),.int .i64 (0),.slice none 0 0,.slice none 0 0,.int .i64 (0),.bool false]) (dW aBn.ok aBo (vs:=[(0,.agg #[sB vha k.head (vhc),sB vaa k.a (vac),sB vba k.b (vbc),Ix (k.power)])]) (cells:= #[sB vha k.head (vhc),sB vaa k.a (vac),sB vba k.b (vbc),Ix (k.power),.int .i64 (0),.int .i64 (0),.slice none 0 0,.slice none 0 0,.int .i64 (0),.bool false]) rfl (by kernel_rfl)) ?_
 refine lE bG ?_
 refine lu (mS 1 (#[sB vha k.head (vhc),sB vaa k.a (vac),sB vba k.b (vbc),Ix (k.power),.int .i64 (0),.int .i64 (0),.slice none 0 0,.slice none 0 0,.int .i64 (0),.bool false])) ?_
 refine lE bV ?_
 refine aW ?_
 refine bB ?_
 refine aK ?_
 refine fH (m:=[.agg #[sB vha k.head (vhc),sB vaa k.a (vac),sB vba k.b (vbc),Ix (k.power),.int .i64 (0),.int .i64 (0),.slice none 0 0,.slice none 0 0,.int .i64 (0),.bool false],.int .i64 (311)]) Try.results61 ⟨bY jK.ok rfl (dM 1 rfl rfl) rfl,cN (v:= .int .i64 (311)) rfl,trivial⟩ rfl ?_
 intro w hw
 exact⟨rfl,aF [false,false,false] rfl hw⟩
theorem vY(β:Base)(w:World)(hw:St β [] w)(k:KS)(vh va vb:Value)(hH:Sl bE β.heap vh k.head)(hA:Sl bE β.heap va k.a)(hB:Sl bE β.heap vb k.b)(hok:k.okP)(hpw:k.power≤9223372036854775807)(i:KI)(hri:eW k=some i):Calls Try.prog 61 #[.agg #[vh,va,vb,Ix k.power]] w fun r w'=>(¬cutOk (k.area i.epoch) k.power i.size∧∃pH pA pB cH cA cB,r= .returned (.tuple #[.agg #[sB pH ((aV k i.epoch i.size).head) cH,sB pA ((aV k i.epoch i.size).a) cA,sB pB ((aV k i.epoch i.size).b) cB,Ix (aV k i.epoch i.size).power,.int .i64 0,.int .i64 0,.slice none 0 0,.slice none 0 0,.int .i64 0,.bool false],.int .i64 310])∧St β [rB pH ((aV k i.epoch i.size).head) cH,rB pA ((aV k i.epoch i.size).a) cA,rB pB ((aV k i.epoch i.size).b) cB] w')∨(cutOk (k.area i.epoch) k.power i.size∧∃pH pA pB cH cA cB ps cs pr cr us,r= .returned (.tuple #[.agg #[sB pH ((aV k i.epoch i.size).head) cH,sB pA ((aV k i.epoch i.size).a) cA,sB pB ((aV k i.epoch i.size).b) cB,Ix (aV k i.epoch i.size).power,Nx i.epoch,Nx i.next,sB ps i.state cs,sB pr i.recs cr,Nx i.size,.bool false],.int .i64 0])∧(∀h,Sl bE h va k.a→Sl bE h vb k.b→Sl bE h (sB ps i.state cs) i.state∧tX us i.recs h)∧St β ([rB pH ((aV k i.epoch i.size).head) cH,rB pA ((aV k i.epoch i.size).a) cA,rB pB ((aV k i.epoch i.size).b) cB]++[row (sB pr i.recs cr) 30 1 i.recs.length us]) w'):=by
 obtain⟨vha,vhc,rfl,vhl,vhm,vhe⟩:=hH.get
 obtain⟨vaa,vac,rfl,val,vam,vae⟩:=hA.get
 obtain⟨vba,vbc,rfl,vbl,vbm,vbe⟩:=hB.get
 refine enter (n:=34) Try.func61 rfl Try.ntmps61 rfl ?_ hw
 refine cC ?_
 refine pD fun b1=> ?_
 refine fZ fun b2=> ?_
 refine lE bV ?_
 refine eJ ?_
 refine lE (dO 1) ?_
 refine jH (cY (vs:=[.agg #[sB vha k.head (vhc),sB vaa k.a (vac),sB vba k.b (vbc),Ix (k.power)]]) aGb.ok rfl rfl) rfl fun w β1 sb kn hw1 back=>(pW β1 w hw1 k _ _ _ (Sl.mono _ _ _ _ _ sb (⟨⟨_,_,rfl,vhl,vhm,vhe⟩⟩:Sl bE _ _ k.head)) (Sl.mono _ _ _ _ _ sb (⟨⟨_,_,rfl,val,vam,vae⟩⟩:Sl bE _ _ k.a)) (Sl.mono _ _ _ _ _ sb (⟨⟨_,_,rfl,vbl,vbm,vbe⟩⟩:Sl bE _ _ k.b)) hok i hri).mono ?_
 rintro e w' ⟨ps3,cs4,pr5,cr6,us7,rfl,hx8,hw'⟩
 refine⟨_,rfl,_,back _ _ hw',?_⟩
 refine lE iK ?_
 refine lE mV ?_
 refine lE kK ?_
 refine fZ fun b9=> ?_
 refine lu (mS 0 (#[Nx (i.epoch),Nx (i.next),sB ps3 i.state cs4,sB pr5 i.recs cr6,Nx (i.size)])) ?_
 refine lE bV ?_
 refine aW ?_
 refine dX ?_
 refine aC ?_
 refine lE bG ?_
 refine lE gO ?_
 refine aW ?_
 refine dI rfl ?_
 refine eT ?_
 refine aO ?_
 have hrb:=aAi hri
 have hl1:k.head.length≤1048576:=by unfold KS.okP at hok;omega
 have hl2:k.a.length≤1048576:=by unfold KS.okP at hok;omega
 have hl3:k.b.length≤1048576:=by unfold KS.okP at hok;omega
 refine rF [sv 18 (.agg #[sB vha k.head (vhc),sB vaa k.a (vac),sB vba k.b (vbc),Ix (k.power)]) [] [] [0],⟨[0],[0],[],[19],fun f=>f 19= .agg #[sB (aM (aE 0 (f 19))) k.head (aN (aE 0 (f 19))),sB (aM (aE 1 (f 19))) k.a (aN (aE 1 (f 19))),sB (aM (aE 2 (f 19))) k.b (aN (aE 2 (f 19))),Ix (k.power)]⟩,sv 20 (pp b9 0) [] [] [1],sv 21 (Nx (i.epoch)) [2] [2] [],sv 22 (Nx (i.epoch%2)) [2,3] [3] [],sv 23 (pp b9 4) [] [] [1],sv 24 (Nx (i.size)) [5] [5] [],⟨(List.range 7),[1,4,6],[],[19,25],fun f=>f 25= .tuple #[.agg #[sB (aM (aE 0 (f 19))) ((aV k i.epoch i.size).head) (aN (aE 0 (f 19))),sB (aM (aE 1 (f 19))) ((aV k i.epoch i.size).a) (aN (aE 1 (f 19))),sB (aM (aE 2 (f 19))) ((aV k i.epoch i.size).b) (aN (aE 2 (f 19))),Ix ((aV k i.epoch i.size).power)],.bool (decide (¬cutOk (k.area i.epoch) k.power i.size))]⟩,⟨(List.range 8),[7],[],[17,19],fun f=>f 17= .tuple #[.agg #[sB (aM (aE 0 (f 19))) ((aV k i.epoch i.size).head) (aN (aE 0 (f 19))),sB (aM (aE 1 (f 19))) ((aV k i.epoch i.size).a) (aN (aE 1 (f 19))),sB (aM (aE 2 (f 19))) ((aV k i.epoch i.size).b) (aN (aE 2 (f 19))),Ix ((aV k i.epoch i.size).power)],.bool (decide (¬cutOk (k.area i.epoch) k.power i.size))]⟩,⟨(List.range 9),[8],[],[19,26],fun f=>f 26= .agg #[sB (aM (aE 0 (f 19))) ((aV k i.epoch i.size).head) (aN (aE 0 (f 19))),sB (aM (aE 1 (f 19))) ((aV k i.epoch i.size).a) (aN (aE 1 (f 19))),sB (aM (aE 2 (f 19))) ((aV k i.epoch i.size).b) (aN (aE 2 (f 19))),Ix ((aV k i.epoch i.size).power)]⟩,sv 27 (.bool (decide (¬cutOk (k.area i.epoch) k.power i.size))) (List.range 9) [8] [],⟨(List.range 10),[9],[0],[],fun _=>True⟩,sv 6 (.bool (decide (¬cutOk (k.area i.epoch) k.power i.size))) (List.range 12) [10] []] [u1 [3,6],u0,u0,(some 11,[0,11])] [⟨(some 1),(some 7),[7],[19],fun f=>rB (aM (aE 0 (f 19))) k.head (aN (aE 0 (f 19)))⟩,⟨(some 1),(some 7),[7],[19],fun f=>rB (aM (aE 1 (f 19))) k.a (aN (aE 1 (f 19)))⟩,⟨(some 1),(some 7),[7],[19],fun f=>rB (aM (aE 2 (f 19))) k.b (aN (aE 2 (f 19)))⟩,⟨(some 7),none,[],[19],fun f=>rB (aM (aE 0 (f 19))) ((aV k i.epoch i.size).head) (aN (aE 0 (f 19)))⟩,⟨(some 7),none,[],[19],fun f=>rB (aM (aE 1 (f 19))) ((aV k i.epoch i.size).a) (aN (aE 1 (f 19)))⟩,⟨(some 7),none,[],[19],fun f=>rB (aM (aE 2 (f 19))) ((aV k i.epoch i.size).b) (aN (aE 2 (f 19)))⟩,⟨(some 11),none,[],[19],fun f=>pt b1 (.cells #[sB (aM (aE 0 (f 19))) ((aV k i.epoch i.size).head) (aN (aE 0 (f 19))),sB (aM (aE 1 (f 19))) ((aV k i.epoch i.size).a) (aN (aE 1 (f 19))),sB (aM (aE 2 (f 19))) ((aV k i.epoch i.size).b) (aN (aE 2 (f 19))),Ix ((aV k i.epoch i.size).power)] 32)⟩] [(1,pp b1 0),(4,pp b9 0),(2,pp b2 0)] [0,2,1] ⟨rfl,rfl,rfl,trivial⟩ ⟨?_,?_,?_,?_,?_,?_,?_,?_,?_,?_,?_,?_,?_,trivial⟩ ?_
 ·rintro f M-⟨i0,-⟩
  exact bK (dO 0)
 ·rintro f M ⟨k0,-⟩-
  refine fF (aA (d:=18) rfl k0) ?_
  refine jH (cY (vs:=[.agg #[sB vha k.head (vhc),sB vaa k.a (vac),sB vba k.b (vbc),Ix (k.power)]]) aGc.ok rfl rfl) rfl fun w β1 sb kn hw1 back=>(pV β1 w hw1 k _ _ _ (Sl.mono _ _ _ _ _ sb (⟨⟨_,_,rfl,vhl,vhm,vhe⟩⟩:Sl bE _ _ k.head)) (Sl.mono _ _ _ _ _ sb (⟨⟨_,_,rfl,val,vam,vae⟩⟩:Sl bE _ _ k.a)) (Sl.mono _ _ _ _ _ sb (⟨⟨_,_,rfl,vbl,vbm,vbe⟩⟩:Sl bE _ _ k.b)) (by omega) (by omega) (by omega)).mono ?_
  rintro e w' ⟨pH16,pA17,pB18,cH19,cA20,cB21,rfl,hw'⟩
  refine⟨_,rfl,_,back _ _ hw',?_⟩
  refine aG ?_
  exact aI (aA (d:=18) rfl k0) rfl (((aB 2 rfl).trans (aB 2 rfl)).trans (aB 2 rfl))
 ·rintro f M-⟨i0,-⟩
  exact bK bM
 ·rintro f M ⟨k0,-⟩-
  exact bK (eU 0)
 ·rintro f M ⟨k0,-⟩-
  exact nA (aA (d:=21) rfl k0) rfl (gJ (a:=((i.epoch:Nat):Int)) (b:=(2:Int)) rfl rfl (by decide) (eC _ 2)) (.refl _)
 ·rintro f M-⟨i0,-⟩
  exact bK bM
 ·rintro f M ⟨k0,-⟩-
  exact bK (eU 0)
 ·rintro f M ⟨k0,k1,k2,-⟩-
  have hs19:f 19= .agg #[sB (aM (aE 0 (f 19))) k.head (aN (aE 0 (f 19))),sB (aM (aE 1 (f 19))) k.a (aN (aE 1 (f 19))),sB (aM (aE 2 (f 19))) k.b (aN (aE 2 (f 19))),Ix (k.power)]:=k0
  refine fF (aA (d:=24) (aA (d:=22) (aA rfl hs19) k1) k2) ?_
  refine bP rfl rfl rfl (cY (vs:=[.agg #[sB (aM (aE 0 (f 19))) k.head (aN (aE 0 (f 19))),sB (aM (aE 1 (f 19))) k.a (aN (aE 1 (f 19))),sB (aM (aE 2 (f 19))) k.b (aN (aE 2 (f 19))),Ix (k.power)],Nx (i.epoch%2),Nx (i.size)]) aJe.ok rfl rfl) ?_
  intro w hw
  obtain⟨β1,sb,kn,hw1,back⟩:=St.frame (L:=[_,_,_]) (M:=M) hw
  refine(yZ β1 w (aM (aE 0 (f 19))) (aM (aE 1 (f 19))) (aM (aE 2 (f 19))) (aN (aE 0 (f 19))) (aN (aE 1 (f 19))) (aN (aE 2 (f 19))) k i.epoch i.size hrb.size hpw hw1).mono ?_
  rintro e w' ⟨rfl,hw'⟩
  refine⟨_,rfl,_,back _ _ hw',?_⟩
  refine aG ?_
  exact aI (aA (d:=24) (aA (d:=22) (aA rfl hs19) k1) k2) rfl (((aB 2 rfl).trans (aB 2 rfl)).trans (aB 2 rfl))
 ·rintro f M ⟨k0,-⟩-
  have hs25:f 25= .tuple #[.agg #[sB (aM (aE 0 (f 19))) ((aV k i.epoch i.size).head) (aN (aE 0 (f 19))),sB (aM (aE 1 (f 19))) ((aV k i.epoch i.size).a) (aN (aE 1 (f 19))),sB (aM (aE 2 (f 19))) ((aV k i.epoch i.size).b) (aN (aE 2 (f 19))),Ix ((aV k i.epoch i.size).power)],.bool (decide (¬cutOk (k.area i.epoch) k.power i.size))]:=k0
  exact bK iK
 ·rintro f M ⟨k0,-⟩-
  have hs17:f 17= .tuple #[.agg #[sB (aM (aE 0 (f 19))) ((aV k i.epoch i.size).head) (aN (aE 0 (f 19))),sB (aM (aE 1 (f 19))) ((aV k i.epoch i.size).a) (aN (aE 1 (f 19))),sB (aM (aE 2 (f 19))) ((aV k i.epoch i.size).b) (aN (aE 2 (f 19))),Ix ((aV k i.epoch i.size).power)],.bool (decide (¬cutOk (k.area i.epoch) k.power i.size))]:=k0
  exact bK mV
 ·rintro f M ⟨k0,-⟩-
  have hs17:f 17= .tuple #[.agg #[sB (aM (aE 0 (f 19))) ((aV k i.epoch i.size).head) (aN (aE 0 (f 19))),sB (aM (aE 1 (f 19))) ((aV k i.epoch i.size).a) (aN (aE 1 (f 19))),sB (aM (aE 2 (f 19))) ((aV k i.epoch i.size).b) (aN (aE 2 (f 19))),Ix ((aV k i.epoch i.size).power)],.bool (decide (¬cutOk (k.area i.epoch) k.power i.size))]:=k0
  exact bK xT
 ·rintro f M ⟨k0,-⟩ ⟨i0,-⟩
  have hs26:f 26= .agg #[sB (aM (aE 0 (f 19))) ((aV k i.epoch i.size).head) (aN (aE 0 (f 19))),sB (aM (aE 1 (f 19))) ((aV k i.epoch i.size).a) (aN (aE 1 (f 19))),sB (aM (aE 2 (f 19))) ((aV k i.epoch i.size).b) (aN (aE 2 (f 19))),Ix ((aV k i.epoch i.size).power)]:=k0
  refine fF (aA (aA (d:=1) rfl i0) hs26) ?_
  refine lu (mS 0 (#[sB (aM (aE 0 (f 19))) ((aV k i.epoch i.size).head) (aN (aE 0 (f 19))),sB (aM (aE 1 (f 19))) ((aV k i.epoch i.size).a) (aN (aE 1 (f 19))),sB (aM (aE 2 (f 19))) ((aV k i.epoch i.size).b) (aN (aE 2 (f 19))),Ix ((aV k i.epoch i.size).power)])) ?_
  refine aG ?_
  exact cT (aA (aA (d:=1) rfl i0) hs26) trivial (aB 0 rfl)
 ·rintro f M ⟨k0,-⟩-
  exact bK eE
 rintro fa22 ⟨-,-,-,-,-,-,-,-,-,-,-,-,k12,-⟩ ⟨j0,j1,j2,-⟩
 refine rL ?_
 refine aJ (d:=1) j0 ?_
 refine aJ (d:=2) j1 ?_
 refine aJ (d:=4) j2 ?_
 refine aJ (d:=6) k12 ?_
 refine zT ?_
 refine cC ?_
 refine lE dQ ?_
 refine aW ?_
 refine cK _ rfl (fun hc23=> ?_) (fun hc23=> ?_)
 ·refine cC ?_
  refine lE (dO 6) ?_
  refine lv (v:= .agg #[sB (aM (aE 0 (fa22 19))) ((aV k i.epoch i.size).head) (aN (aE 0 (fa22 19))),sB (aM (aE 1 (fa22 19))) ((aV k i.epoch i.size).a) (aN (aE 1 (fa22 19))),sB (aM (aE 2 (fa22 19))) ((aV k i.epoch i.size).b) (aN (aE 2 (fa22 19))),Ix ((aV k i.epoch i.size).power),.int .i64 (0),.int .i64 (0),.slice none 0 0,.slice none 0 0,.int .i64 (0),.bool false]) (dW aBn.ok aBo (vs:=[(0,.agg #[sB (aM (aE 0 (fa22 19))) ((aV k i.epoch i.size).head) (aN (aE 0 (fa22 19))),sB (aM (aE 1 (fa22 19))) ((aV k i.epoch i.size).a) (aN (aE 1 (fa22 19))),sB (aM (aE 2 (fa22 19))) ((aV k i.epoch i.size).b) (aN (aE 2 (fa22 19))),Ix ((aV k i.epoch i.size).power)])]) (cells:= #[sB (aM (aE 0 (fa22 19))) ((aV k i.epoch i.size).head) (aN (aE 0 (fa22 19))),sB (aM (aE 1 (fa22 19))) ((aV k i.epoch i.size).a) (aN (aE 1 (fa22 19))),sB (aM (aE 2 (fa22 19))) ((aV k i.epoch i.size).b) (aN (aE 2 (fa22 19))),Ix ((aV k i.epoch i.size).power),.int .i64 (0),.int .i64 (0),.slice none 0 0,.slice none 0 0,.int .i64 (0),.bool false]) rfl (by kernel_rfl)) ?_
  refine lu (mS 2 (#[sB (aM (aE 0 (fa22 19))) ((aV k i.epoch i.size).head) (aN (aE 0 (fa22 19))),sB (aM (aE 1 (fa22 19))) ((aV k i.epoch i.size).a) (aN (aE 1 (fa22 19))),sB (aM (aE 2 (fa22 19))) ((aV k i.epoch i.size).b) (aN (aE 2 (fa22 19))),Ix ((aV k i.epoch i.size).power),.int .i64 (0),.int .i64 (0),.slice none 0 0,.slice none 0 0,.int .i64 (0),.bool false])) ?_
  refine lE bV ?_
  refine aW ?_
  refine bB ?_
  refine aK ?_
  refine fH (m:=[.agg #[sB (aM (aE 0 (fa22 19))) ((aV k i.epoch i.size).head) (aN (aE 0 (fa22 19))),sB (aM (aE 1 (fa22 19))) ((aV k i.epoch i.size).a) (aN (aE 1 (fa22 19))),sB (aM (aE 2 (fa22 19))) ((aV k i.epoch i.size).b) (aN (aE 2 (fa22 19))),Ix ((aV k i.epoch i.size).power),.int .i64 (0),.int .i64 (0),.slice none 0 0,.slice none 0 0,.int .i64 (0),.bool false],.int .i64 (310)]) Try.results61 ⟨bY jK.ok rfl (dM 2 rfl rfl) rfl,cN (v:= .int .i64 (310)) rfl,trivial⟩ rfl ?_
  intro w hw
  exact .inl ⟨hc23,_,_,_,_,_,_,rfl,aF [true,true,true,false,false,false,false] rfl (hw.perm (L':=[rB (aM (aE 0 (fa22 19))) ((aV k i.epoch i.size).head) (aN (aE 0 (fa22 19))),rB (aM (aE 1 (fa22 19))) ((aV k i.epoch i.size).a) (aN (aE 1 (fa22 19))),rB (aM (aE 2 (fa22 19))) ((aV k i.epoch i.size).b) (aN (aE 2 (fa22 19))),pt b9 (.cells #[Nx (i.epoch),Nx (i.next),sB ps3 i.state cs4,sB pr5 i.recs cr6,Nx (i.size)] 54),row (sB pr5 i.recs cr6) 30 1 (i.recs.length) (us7),pt b2 (.cells #[sB (aM (aE 0 (fa22 19))) ((aV k i.epoch i.size).head) (aN (aE 0 (fa22 19))),sB (aM (aE 1 (fa22 19))) ((aV k i.epoch i.size).a) (aN (aE 1 (fa22 19))),sB (aM (aE 2 (fa22 19))) ((aV k i.epoch i.size).b) (aN (aE 2 (fa22 19))),Ix ((aV k i.epoch i.size).power),.int .i64 (0),.int .i64 (0),.slice none 0 0,.slice none 0 0,.int .i64 (0),.bool false] 56),pt b1 (.cells #[sB (aM (aE 0 (fa22 19))) ((aV k i.epoch i.size).head) (aN (aE 0 (fa22 19))),sB (aM (aE 1 (fa22 19))) ((aV k i.epoch i.size).a) (aN (aE 1 (fa22 19))),sB (aM (aE 2 (fa22 19))) ((aV k i.epoch i.size).b) (aN (aE 2 (fa22 19))),Ix ((aV k i.epoch i.size).power)] 32)]) (by exact(bN [3,4,5,0,1,2,6] 7 rfl (by kernel_rfl) (by kernel_rfl))))⟩
 refine eT ?_
 refine cC ?_
 refine lE (dO 6) ?_
 refine lE (dO 0) ?_
 refine lv (v:= .agg #[sB (aM (aE 0 (fa22 19))) ((aV k i.epoch i.size).head) (aN (aE 0 (fa22 19))),sB (aM (aE 1 (fa22 19))) ((aV k i.epoch i.size).a) (aN (aE 1 (fa22 19))),sB (aM (aE 2 (fa22 19))) ((aV k i.epoch i.size).b) (aN (aE 2 (fa22 19))),Ix ((aV k i.epoch i.size).power),Nx (i.epoch),Nx (i.next),sB ps3 i.state cs4,sB pr5 i.recs cr6,Nx (i.size),.bool false]) (dW aBn.ok aBo (vs:=[(0,.agg #[sB (aM (aE 0 (fa22 19))) ((aV k i.epoch i.size).head) (aN (aE 0 (fa22 19))),sB (aM (aE 1 (fa22 19))) ((aV k i.epoch i.size).a) (aN (aE 1 (fa22 19))),sB (aM (aE 2 (fa22 19))) ((aV k i.epoch i.size).b) (aN (aE 2 (fa22 19))),Ix ((aV k i.epoch i.size).power)]),(1,.agg #[Nx (i.epoch),Nx (i.next),sB ps3 i.state cs4,sB pr5 i.recs cr6,Nx (i.size)])]) (cells:= #[sB (aM (aE 0 (fa22 19))) ((aV k i.epoch i.size).head) (aN (aE 0 (fa22 19))),sB (aM (aE 1 (fa22 19))) ((aV k i.epoch i.size).a) (aN (aE 1 (fa22 19))),sB (aM (aE 2 (fa22 19))) ((aV k i.epoch i.size).b) (aN (aE 2 (fa22 19))),Ix ((aV k i.epoch i.size).power),Nx (i.epoch),Nx (i.next),sB ps3 i.state cs4,sB pr5 i.recs cr6,Nx (i.size),.bool false]) rfl (by kernel_rfl)) ?_
 refine lu (mS 2 (#[sB (aM (aE 0 (fa22 19))) ((aV k i.epoch i.size).head) (aN (aE 0 (fa22 19))),sB (aM (aE 1 (fa22 19))) ((aV k i.epoch i.size).a) (aN (aE 1 (fa22 19))),sB (aM (aE 2 (fa22 19))) ((aV k i.epoch i.size).b) (aN (aE 2 (fa22 19))),Ix ((aV k i.epoch i.size).power),Nx (i.epoch),Nx (i.next),sB ps3 i.state cs4,sB pr5 i.recs cr6,Nx (i.size),.bool false])) ?_
 refine lE bV ?_
 refine aW ?_
 refine bB ?_
 refine fH (m:=[.agg #[sB (aM (aE 0 (fa22 19))) ((aV k i.epoch i.size).head) (aN (aE 0 (fa22 19))),sB (aM (aE 1 (fa22 19))) ((aV k i.epoch i.size).a) (aN (aE 1 (fa22 19))),sB (aM (aE 2 (fa22 19))) ((aV k i.epoch i.size).b) (aN (aE 2 (fa22 19))),Ix ((aV k i.epoch i.size).power),Nx (i.epoch),Nx (i.next),sB ps3 i.state cs4,sB pr5 i.recs cr6,Nx (i.size),.bool false],.int .i64 (0)]) Try.results61 ⟨bY jK.ok rfl (dM 2 rfl rfl) rfl,cN (v:= .int .i64 (0)) rfl,trivial⟩ rfl ?_
 intro w hw
 exact .inr ⟨Decidable.not_not.1 hc23,_,_,_,_,_,_,_,_,_,_,_,rfl,hx8,aF [true,true,true,true,false,false,false] rfl (hw.perm (L':=[rB (aM (aE 0 (fa22 19))) ((aV k i.epoch i.size).head) (aN (aE 0 (fa22 19))),rB (aM (aE 1 (fa22 19))) ((aV k i.epoch i.size).a) (aN (aE 1 (fa22 19))),rB (aM (aE 2 (fa22 19))) ((aV k i.epoch i.size).b) (aN (aE 2 (fa22 19))),row (sB pr5 i.recs cr6) 30 1 (i.recs.length) (us7),pt b9 (.cells #[Nx (i.epoch),Nx (i.next),sB ps3 i.state cs4,sB pr5 i.recs cr6,Nx (i.size)] 54),pt b2 (.cells #[sB (aM (aE 0 (fa22 19))) ((aV k i.epoch i.size).head) (aN (aE 0 (fa22 19))),sB (aM (aE 1 (fa22 19))) ((aV k i.epoch i.size).a) (aN (aE 1 (fa22 19))),sB (aM (aE 2 (fa22 19))) ((aV k i.epoch i.size).b) (aN (aE 2 (fa22 19))),Ix ((aV k i.epoch i.size).power),Nx (i.epoch),Nx (i.next),sB ps3 i.state cs4,sB pr5 i.recs cr6,Nx (i.size),.bool false] 56),pt b1 (.cells #[sB (aM (aE 0 (fa22 19))) ((aV k i.epoch i.size).head) (aN (aE 0 (fa22 19))),sB (aM (aE 1 (fa22 19))) ((aV k i.epoch i.size).a) (aN (aE 1 (fa22 19))),sB (aM (aE 2 (fa22 19))) ((aV k i.epoch i.size).b) (aN (aE 2 (fa22 19))),Ix ((aV k i.epoch i.size).power)] 32)]) (by exact(bN [3,4,5,1,0,2,6] 7 rfl (by kernel_rfl) (by kernel_rfl))))⟩
theorem aCy(β:Base)(w:World)(hw:St β [] w)(k:KS)(vh va vb:Value)(hH:Sl bE β.heap vh k.head)(hA:Sl bE β.heap va k.a)(hB:Sl bE β.heap vb k.b)(hok:k.okP)(hpw:k.power≤9223372036854775807)(i:KI)(hri:eW k=some i)(hcut:¬cutOk (k.area i.epoch) k.power i.size):Calls Try.prog 61 #[.agg #[vh,va,vb,Ix k.power]] w fun r w'=>∃pH pA pB cH cA cB,r= .returned (.tuple #[.agg #[sB pH ((aV k i.epoch i.size).head) cH,sB pA ((aV k i.epoch i.size).a) cA,sB pB ((aV k i.epoch i.size).b) cB,Ix (aV k i.epoch i.size).power,.int .i64 0,.int .i64 0,.slice none 0 0,.slice none 0 0,.int .i64 0,.bool false],.int .i64 310])∧St β [rB pH ((aV k i.epoch i.size).head) cH,rB pA ((aV k i.epoch i.size).a) cA,rB pB ((aV k i.epoch i.size).b) cB] w':=by
 exact(vY β w hw k vh va vb hH hA hB hok hpw i hri).mono fun r w' h=>h.elim (fun h=>h.2) (fun h=>absurd h.1 hcut)
theorem zF(β:Base)(w:World)(hw:St β [] w)(k:KS)(vh va vb:Value)(hH:Sl bE β.heap vh k.head)(hA:Sl bE β.heap va k.a)(hB:Sl bE β.heap vb k.b)(hok:k.okP)(hpw:k.power≤9223372036854775807)(i:KI)(hri:eW k=some i)(hcut:cutOk (k.area i.epoch) k.power i.size):Calls Try.prog 61 #[.agg #[vh,va,vb,Ix k.power]] w fun r w'=>∃pH pA pB cH cA cB ps cs pr cr us,r= .returned (.tuple #[.agg #[sB pH ((aV k i.epoch i.size).head) cH,sB pA ((aV k i.epoch i.size).a) cA,sB pB ((aV k i.epoch i.size).b) cB,Ix (aV k i.epoch i.size).power,Nx i.epoch,Nx i.next,sB ps i.state cs,sB pr i.recs cr,Nx i.size,.bool false],.int .i64 0])∧(∀h,Sl bE h va k.a→Sl bE h vb k.b→Sl bE h (sB ps i.state cs) i.state∧tX us i.recs h)∧St β ([rB pH ((aV k i.epoch i.size).head) cH,rB pA ((aV k i.epoch i.size).a) cA,rB pB ((aV k i.epoch i.size).b) cB]++[row (sB pr i.recs cr) 30 1 i.recs.length us]) w':=by
 exact(vY β w hw k vh va vb hH hA hB hok hpw i hri).mono fun r w' h=>h.elim (fun h=>absurd hcut h.1) (fun h=>h.2)
theorem rQ(β:Base)(w:World)(hw:St β [] w)(k:KS)(vh va vb:Value)(hH:Sl bE β.heap vh k.head)(hA:Sl bE β.heap va k.a)(hB:Sl bE β.heap vb k.b)(i:KI)(ps pr:Option Addr)(cs cr:Nat)(us:List Value)(hul:us.length=i.recs.length)(hus:Cs β.heap (ba pr) us)(hu1:us.all (·.oneCell')=true)(hpr:0<i.recs.length→pr=some (ba pr))(bs:Bs)(v:Value)(hs:Sl bE β.heap v bs)(hfit:k.fits 524288)(hB9:i.epoch≤4611686018427387904∧i.next≤4611686018427387904∧i.size≤1048576∧i.recs.length≤1048576)(hbl:bs.length≤65536)(hfull:262144<(k.area i.epoch).length+24+bs.length∨i.next=4611686018427387904):kH Try.prog 24 #[.agg #[vh,va,vb,Ix k.power,Nx i.epoch,Nx i.next,sB ps i.state cs,sB pr i.recs cr,Nx i.size,.bool false],v] β w (.tuple #[.agg #[vh,va,vb,Ix k.power,Nx i.epoch,Nx i.next,sB ps i.state cs,sB pr i.recs cr,Nx i.size,.bool false],.int .i64 0,.int .i64 4]):=by
 obtain⟨vha,vhc,rfl,vhl,vhm,vhe⟩:=hH.get
 obtain⟨vaa,vac,rfl,val,vam,vae⟩:=hA.get
 obtain⟨vba,vbc,rfl,vbl,vbm,vbe⟩:=hB.get
 obtain⟨va,vc,rfl,vl,vm,ve⟩:=hs.get
 refine enter (n:=95) Try.func24 rfl Try.ntmps24 rfl ?_ hw
 refine cC ?_
 refine pD fun b1=> ?_
 refine fZ fun b2=> ?_
 iterate 2 refine lE bV ?_
 refine aW ?_
 refine dX ?_
 refine aC ?_
 refine lE cX ?_
 refine lE fC ?_
 refine lE qZ ?_
 refine aW ?_
 refine cK _ rfl (fun hc3=> ?_) (fun hc3=> ?_)
 ·exact absurd hc3 (by omega)
 refine eT ?_
 refine dX ?_
 refine aC ?_
 refine lE bM ?_
 refine lE (olb 1) ?_
 refine aW ?_
 refine dI rfl ?_
 refine eT ?_
 refine dX ?_
 have hl1:k.head.length≤1048576:=hfit.1
 have hl2:k.a.length≤1048576:=by have:=hfit.2.1;omega
 have hl3:k.b.length≤1048576:=by have:=hfit.2.2.1;omega
 have hfl:=aH i.epoch i.next bs
 obtain⟨hB1,hB2,hB3,hB4⟩:=hB9
 have hal:(k.area i.epoch).length≤524288:=kP (P:=fun z=>z.length≤524288) hfit.2.1 hfit.2.2.1 i.epoch
 refine aC ?_
 refine lE bM ?_
 refine lE (dO 1) ?_
 iterate 2 refine lE bM ?_
 refine lE (eU 1) ?_
 refine jH (cY (vs:=[.agg #[sB vha k.head (vhc),sB vaa k.a (vac),sB vba k.b (vbc),Ix (k.power)],Nx (i.epoch)]) aGa.ok rfl rfl) rfl fun w β1 sb kn hw1 back=>(rT β1 w hw1 i.epoch k _ _ _ (Sl.mono _ _ _ _ _ sb (⟨⟨_,_,rfl,vhl,vhm,vhe⟩⟩:Sl bE _ _ k.head)) (Sl.mono _ _ _ _ _ sb (⟨⟨_,_,rfl,val,vam,vae⟩⟩:Sl bE _ _ k.a)) (Sl.mono _ _ _ _ _ sb (⟨⟨_,_,rfl,vbl,vbm,vbe⟩⟩:Sl bE _ _ k.b))).mono ?_
 rintro e w' ⟨ar4,aa5,ac6,har7,rfl,has8,hw'⟩
 refine⟨_,rfl,_,back _ _ hw',?_⟩
 have har7L:=congrArg List.length har7
 obtain⟨_,has8l,has8m,has8e⟩:=(has8 _ (⟨⟨_,_,rfl,val,vam,vae⟩⟩:Sl bE _ _ k.a) (⟨⟨_,_,rfl,vbl,vbm,vbe⟩⟩:Sl bE _ _ k.b)).parts
 refine lE fC ?_
 refine lv (v:=Nx (ar4.length+24)) (bJ rfl rfl (bU (by omega) (by omega))) ?_
 refine lE cX ?_
 refine lE fC ?_
 refine lv (v:=Nx ((ar4.length+24)+bs.length)) (bJ rfl rfl (bU (by omega) (by omega))) ?_
 refine lE qZ ?_
 refine lE dQ ?_
 refine cD (s:=29) rfl (fun hg9=> ?_) (fun hg9=> ?_)
 ·iterate 4 refine iU ?_
  refine lE dY ?_
  refine aW ?_
  refine dU rfl ?_
  refine cC ?_
  refine lE (dO 1) ?_
  refine lu (mS 0 (#[sB vha k.head (vhc),sB vaa k.a (vac),sB vba k.b (vbc),Ix (k.power),Nx (i.epoch),Nx (i.next),sB ps i.state cs,sB pr i.recs (cr),Nx (i.size),.bool false])) ?_
  iterate 2 refine lE bV ?_
  refine aW ?_
  refine bB ?_
  refine aK ?_
  refine fH (m:=[.agg #[sB vha k.head (vhc),sB vaa k.a (vac),sB vba k.b (vbc),Ix (k.power),Nx (i.epoch),Nx (i.next),sB ps i.state cs,sB pr i.recs (cr),Nx (i.size),.bool false],.int .i64 (0),.int .i64 (4)]) Try.results24 ⟨bY jK.ok rfl (dM 0 rfl rfl) rfl,cN (v:= .int .i64 (0)) rfl,cN (v:= .int .i64 (4)) rfl,trivial⟩ rfl ?_
  intro w hw
  exact⟨rfl,aF [false,false] rfl hw⟩
 iterate 2 refine gE bM ?_
 refine gE (eU 1) ?_
 refine gE dR ?_
 refine lE cR ?_
 refine aW ?_
 refine cK _ rfl (fun hc10=> ?_) (fun hc10=> ?_)
 ·refine cC ?_
  refine lE (dO 1) ?_
  refine lu (mS 0 (#[sB vha k.head (vhc),sB vaa k.a (vac),sB vba k.b (vbc),Ix (k.power),Nx (i.epoch),Nx (i.next),sB ps i.state cs,sB pr i.recs (cr),Nx (i.size),.bool false])) ?_
  iterate 2 refine lE bV ?_
  refine aW ?_
  refine bB ?_
  refine aK ?_
  refine fH (m:=[.agg #[sB vha k.head (vhc),sB vaa k.a (vac),sB vba k.b (vbc),Ix (k.power),Nx (i.epoch),Nx (i.next),sB ps i.state cs,sB pr i.recs (cr),Nx (i.size),.bool false],.int .i64 (0),.int .i64 (4)]) Try.results24 ⟨bY jK.ok rfl (dM 0 rfl rfl) rfl,cN (v:= .int .i64 (0)) rfl,cN (v:= .int .i64 (4)) rfl,trivial⟩ rfl ?_
  intro w hw
  exact⟨rfl,aF [false,false] rfl hw⟩
 exact absurd (by omega) hc10
theorem aFf(β:Base)(w:World)(hw:St β [] w)(k:KS)(vh va vb:Value)(hH:Sl bE β.heap vh k.head)(hA:Sl bE β.heap va k.a)(hB:Sl bE β.heap vb k.b)(i:KI)(ps pr:Option Addr)(cs cr:Nat)(us:List Value)(hul:us.length=i.recs.length)(hus:Cs β.heap (ba pr) us)(hu1:us.all (·.oneCell')=true)(hpr:0<i.recs.length→pr=some (ba pr))(bs:Bs)(v:Value)(hs:Sl bE β.heap v bs)(hfit:k.fits 524288)(hB9:i.epoch≤4611686018427387904∧i.next≤4611686018427387904∧i.size≤1048576∧i.recs.length≤1048576)(hbl:bs.length≤65536)(hroom:(k.area i.epoch).length+24+bs.length≤262144)(hnx:i.next≠4611686018427387904):Calls Try.prog 24 #[.agg #[vh,va,vb,Ix k.power,Nx i.epoch,Nx i.next,sB ps i.state cs,sB pr i.recs cr,Nx i.size,.bool false],v] w fun r w'=>(¬eI k.power (aD i.epoch i.next bs)∧∃pH pA pB cH cA cB,r= .returned (.tuple #[.agg #[sB pH ((cJ k i.epoch i.size (aD i.epoch i.next bs)).head) cH,sB pA ((cJ k i.epoch i.size (aD i.epoch i.next bs)).a) cA,sB pB ((cJ k i.epoch i.size (aD i.epoch i.next bs)).b) cB,Ix (cJ k i.epoch i.size (aD i.epoch i.next bs)).power,Nx i.epoch,Nx i.next,sB ps i.state cs,sB pr i.recs cr,Nx i.size,.bool true],.int .i64 0,.int .i64 310])∧St β [rB pH ((cJ k i.epoch i.size (aD i.epoch i.next bs)).head) cH,rB pA ((cJ k i.epoch i.size (aD i.epoch i.next bs)).a) cA,rB pB ((cJ k i.epoch i.size (aD i.epoch i.next bs)).b) cB] w')∨(eI k.power (aD i.epoch i.next bs)∧∃pH pA pB cH cA cB p c q cq,r= .returned (.tuple #[.agg #[sB pH ((cJ k i.epoch i.size (aD i.epoch i.next bs)).head) cH,sB pA ((cJ k i.epoch i.size (aD i.epoch i.next bs)).a) cA,sB pB ((cJ k i.epoch i.size (aD i.epoch i.next bs)).b) cB,Ix (cJ k i.epoch i.size (aD i.epoch i.next bs)).power,Nx i.epoch,Nx (i.next+1),sB ps i.state cs,.slice p (i.recs.length+1) c,Nx (i.size+(aD i.epoch i.next bs).length),.bool false],Nx i.next,.int .i64 0])∧St β ([rB pH ((cJ k i.epoch i.size (aD i.epoch i.next bs)).head) cH,rB pA ((cJ k i.epoch i.size (aD i.epoch i.next bs)).a) cA,rB pB ((cJ k i.epoch i.size (aD i.epoch i.next bs)).b) cB]++[row (.slice p (i.recs.length+1) c) 30 1 (i.recs.length+1) (us++[sB q bs cq]),rB q bs cq]) w'):=by
 obtain⟨vha,vhc,rfl,vhl,vhm,vhe⟩:=hH.get
 obtain⟨vaa,vac,rfl,val,vam,vae⟩:=hA.get
 obtain⟨vba,vbc,rfl,vbl,vbm,vbe⟩:=hB.get
 obtain⟨va,vc,rfl,vl,vm,ve⟩:=hs.get
 refine enter (n:=95) Try.func24 rfl Try.ntmps24 rfl ?_ hw
 refine cC ?_
 refine pD fun b1=> ?_
 refine fZ fun b2=> ?_
 iterate 2 refine lE bV ?_
 refine aW ?_
 refine dX ?_
 refine aC ?_
 refine lE cX ?_
 refine lE fC ?_
 refine lE qZ ?_
 refine aW ?_
 refine cK _ rfl (fun hc3=> ?_) (fun hc3=> ?_)
 ·exact absurd hc3 (by omega)
 refine eT ?_
 refine dX ?_
 refine aC ?_
 refine lE bM ?_
 refine lE (olb 1) ?_
 refine aW ?_
 refine dI rfl ?_
 refine eT ?_
 refine dX ?_
 have hl1:k.head.length≤1048576:=hfit.1
 have hl2:k.a.length≤1048576:=by have:=hfit.2.1;omega
 have hl3:k.b.length≤1048576:=by have:=hfit.2.2.1;omega
 have hfl:=aH i.epoch i.next bs
 obtain⟨hB1,hB2,hB3,hB4⟩:=hB9
 have hal:(k.area i.epoch).length≤524288:=kP (P:=fun z=>z.length≤524288) hfit.2.1 hfit.2.2.1 i.epoch
 refine aC ?_
 refine lE bM ?_
 refine lE (dO 1) ?_
 iterate 2 refine lE bM ?_
 refine lE (eU 1) ?_
 refine jH (cY (vs:=[.agg #[sB vha k.head (vhc),sB vaa k.a (vac),sB vba k.b (vbc),Ix (k.power)],Nx (i.epoch)]) aGa.ok rfl rfl) rfl fun w β1 sb kn hw1 back=>(rT β1 w hw1 i.epoch k _ _ _ (Sl.mono _ _ _ _ _ sb (⟨⟨_,_,rfl,vhl,vhm,vhe⟩⟩:Sl bE _ _ k.head)) (Sl.mono _ _ _ _ _ sb (⟨⟨_,_,rfl,val,vam,vae⟩⟩:Sl bE _ _ k.a)) (Sl.mono _ _ _ _ _ sb (⟨⟨_,_,rfl,vbl,vbm,vbe⟩⟩:Sl bE _ _ k.b))).mono ?_
 rintro e w' ⟨ar4,aa5,ac6,har7,rfl,has8,hw'⟩
 refine⟨_,rfl,_,back _ _ hw',?_⟩
 have har7L:=congrArg List.length har7
 obtain⟨_,has8l,has8m,has8e⟩:=(has8 _ (⟨⟨_,_,rfl,val,vam,vae⟩⟩:Sl bE _ _ k.a) (⟨⟨_,_,rfl,vbl,vbm,vbe⟩⟩:Sl bE _ _ k.b)).parts
 refine lE fC ?_
 refine lv (v:=Nx (ar4.length+24)) (bJ rfl rfl (bU (by omega) (by omega))) ?_
 refine lE cX ?_
 refine lE fC ?_
 refine lv (v:=Nx ((ar4.length+24)+bs.length)) (bJ rfl rfl (bU (by omega) (by omega))) ?_
 refine lE qZ ?_
 refine lE dQ ?_
 refine cD (s:=29) rfl (fun h=> ?_) (fun h=> ?_)
 exact absurd h (by omega)
 iterate 2 refine gE bM ?_
 refine gE (eU 1) ?_
 refine gE dR ?_
 refine lE cR ?_
 refine aW ?_
 refine cK _ rfl (fun hc9=> ?_) (fun hc9=> ?_)
 ·exact absurd hc9 (by omega)
 refine eT ?_
 refine aO ?_
 refine rF [sv 37 (pp b1 0) [] [] [0],sv 38 (.agg #[sB vha k.head (vhc),sB vaa k.a (vac),sB vba k.b (vbc),Ix (k.power)]) [0] [0] [],⟨[0,1],[1],[],[39],fun f=>f 39= .agg #[sB (aM (aE 0 (f 39))) k.head (aN (aE 0 (f 39))),sB (aM (aE 1 (f 39))) k.a (aN (aE 1 (f 39))),sB (aM (aE 2 (f 39))) k.b (aN (aE 2 (f 39))),Ix (k.power)]⟩,sv 40 (pp b1 4) [] [] [0],sv 41 (pp b1 4) [3] [3] [],sv 42 (Nx (i.epoch)) [3,4] [4] [],sv 43 (Nx (i.epoch%2)) [3,4,5] [5] [],sv 44 (pp b1 4) [] [] [0],sv 45 (pp b1 8) [7] [7] [],sv 46 (Nx (i.size)) [7,8] [8] [],sv 47 (pp b1 4) [] [] [0],sv 48 (pp b1 4) [10] [10] [],sv 49 (Nx (i.epoch)) [10,11] [11] [],sv 50 (pp b1 4) [] [] [0],sv 51 (pp b1 5) [13] [13] [],sv 52 (Nx (i.next)) [13,14] [14] [],sv 53 (sB va bs (vc)) [] [] [1],⟨[0,1,2,10,11,12,13,14,15,16],[12,15,16],[],[54],fun f=>f 54=sB (aM (f 54)) (aD ((i.epoch:Nat):Int) ((i.next:Nat):Int) bs) (aN (f 54))⟩,⟨(List.range 18),[2,6,9,17],[],[39,55],fun f=>f 55= .tuple #[.agg #[sB (aM (aE 0 (f 39))) ((cJ k i.epoch i.size (aD ((i.epoch:Nat):Int) ((i.next:Nat):Int) bs)).head) (aN (aE 0 (f 39))),sB (aM (aE 1 (aE 0 (f 55)))) ((cJ k i.epoch i.size (aD ((i.epoch:Nat):Int) ((i.next:Nat):Int) bs)).a) (aN (aE 1 (aE 0 (f 55)))),sB (aM (aE 2 (aE 0 (f 55)))) ((cJ k i.epoch i.size (aD ((i.epoch:Nat):Int) ((i.next:Nat):Int) bs)).b) (aN (aE 2 (aE 0 (f 55)))),Ix ((cJ k i.epoch i.size (aD ((i.epoch:Nat):Int) ((i.next:Nat):Int) bs)).power)],.bool (decide (¬eI k.power (aD ((i.epoch:Nat):Int) ((i.next:Nat):Int) bs)))]⟩,⟨(List.range 19),[18],[],[36,39,55],fun f=>f 36= .tuple #[.agg #[sB (aM (aE 0 (f 39))) ((cJ k i.epoch i.size (aD ((i.epoch:Nat):Int) ((i.next:Nat):Int) bs)).head) (aN (aE 0 (f 39))),sB (aM (aE 1 (aE 0 (f 55)))) ((cJ k i.epoch i.size (aD ((i.epoch:Nat):Int) ((i.next:Nat):Int) bs)).a) (aN (aE 1 (aE 0 (f 55)))),sB (aM (aE 2 (aE 0 (f 55)))) ((cJ k i.epoch i.size (aD ((i.epoch:Nat):Int) ((i.next:Nat):Int) bs)).b) (aN (aE 2 (aE 0 (f 55)))),Ix ((cJ k i.epoch i.size (aD ((i.epoch:Nat):Int) ((i.next:Nat):Int) bs)).power)],.bool (decide (¬eI k.power (aD ((i.epoch:Nat):Int) ((i.next:Nat):Int) bs)))]⟩,⟨(List.range 20),[19],[],[39,55,56],fun f=>f 56= .agg #[sB (aM (aE 0 (f 39))) ((cJ k i.epoch i.size (aD ((i.epoch:Nat):Int) ((i.next:Nat):Int) bs)).head) (aN (aE 0 (f 39))),sB (aM (aE 1 (aE 0 (f 55)))) ((cJ k i.epoch i.size (aD ((i.epoch:Nat):Int) ((i.next:Nat):Int) bs)).a) (aN (aE 1 (aE 0 (f 55)))),sB (aM (aE 2 (aE 0 (f 55)))) ((cJ k i.epoch i.size (aD ((i.epoch:Nat):Int) ((i.next:Nat):Int) bs)).b) (aN (aE 2 (aE 0 (f 55)))),Ix ((cJ k i.epoch i.size (aD ((i.epoch:Nat):Int) ((i.next:Nat):Int) bs)).power)]⟩,sv 57 (.bool (decide (¬eI k.power (aD ((i.epoch:Nat):Int) ((i.next:Nat):Int) bs)))) (List.range 20) [19] [],⟨[],[],[],[7],fun f=>f 7= .pointer (some ⟨(bI (f 7)),0,none⟩)⟩,⟨[0,1,2,3,4,5,6,7,8,9,10,11,12,13,14,15,16,17,18,19,20,22],[22,20],[],[],fun _=>True⟩,sv 8 (.bool (decide (¬eI k.power (aD ((i.epoch:Nat):Int) ((i.next:Nat):Int) bs)))) (List.range 24) [21] []] [u0,u1 [1,5,9,12,15]] [⟨(some 2),(some 18),[18],[39],fun f=>rB (aM (aE 0 (f 39))) k.head (aN (aE 0 (f 39)))⟩,⟨(some 2),(some 18),[18],[39],fun f=>rB (aM (aE 1 (f 39))) k.a (aN (aE 1 (f 39)))⟩,⟨(some 2),(some 18),[18],[39],fun f=>rB (aM (aE 2 (f 39))) k.b (aN (aE 2 (f 39)))⟩,⟨(some 17),none,[18],[54],fun f=>rB (aM (f 54)) (aD ((i.epoch:Nat):Int) ((i.next:Nat):Int) bs) (aN (f 54))⟩,⟨(some 18),none,[],[39],fun f=>rB (aM (aE 0 (f 39))) ((cJ k i.epoch i.size (aD ((i.epoch:Nat):Int) ((i.next:Nat):Int) bs)).head) (aN (aE 0 (f 39)))⟩,⟨(some 18),none,[],[55],fun f=>rB (aM (aE 1 (aE 0 (f 55)))) ((cJ k i.epoch i.size (aD ((i.epoch:Nat):Int) ((i.next:Nat):Int) bs)).a) (aN (aE 1 (aE 0 (f 55))))⟩,⟨(some 18),none,[],[55],fun f=>rB (aM (aE 2 (aE 0 (f 55)))) ((cJ k i.epoch i.size (aD ((i.epoch:Nat):Int) ((i.next:Nat):Int) bs)).b) (aN (aE 2 (aE 0 (f 55))))⟩,⟨(some 22),(some 23),[23],[7],fun f=>pt (bI (f 7)) (.cells #[.slice none 0 0,.slice none 0 0,.slice none 0 0,.int .i64 (0)] 32)⟩,⟨(some 23),none,[],[7,39,55],fun f=>pt (bI (f 7)) (.cells #[sB (aM (aE 0 (f 39))) ((cJ k i.epoch i.size (aD ((i.epoch:Nat):Int) ((i.next:Nat):Int) bs)).head) (aN (aE 0 (f 39))),sB (aM (aE 1 (aE 0 (f 55)))) ((cJ k i.epoch i.size (aD ((i.epoch:Nat):Int) ((i.next:Nat):Int) bs)).a) (aN (aE 1 (aE 0 (f 55)))),sB (aM (aE 2 (aE 0 (f 55)))) ((cJ k i.epoch i.size (aD ((i.epoch:Nat):Int) ((i.next:Nat):Int) bs)).b) (aN (aE 2 (aE 0 (f 55)))),Ix ((cJ k i.epoch i.size (aD ((i.epoch:Nat):Int) ((i.next:Nat):Int) bs)).power)] 32)⟩] [(2,pp b1 0),(1,sB va bs (vc)),(4,pp b2 0)] [1,0,2] ⟨rfl,rfl,rfl,trivial⟩ ⟨?_,?_,?_,?_,?_,?_,?_,?_,?_,?_,?_,?_,?_,?_,?_,?_,?_,?_,?_,?_,?_,?_,?_,?_,?_,trivial⟩ ?_
 ·rintro f M-⟨i0,-⟩
  exact bK bM
 ·rintro f M ⟨k0,-⟩-
  exact bK (dO 0)
 ·rintro f M ⟨k0,-⟩-
  refine fF (aA (d:=38) rfl k0) ?_
  refine jH (cY (vs:=[.agg #[sB vha k.head (vhc),sB vaa k.a (vac),sB vba k.b (vbc),Ix (k.power)]]) aGc.ok rfl rfl) rfl fun w β1 sb kn hw1 back=>(pV β1 w hw1 k _ _ _ (Sl.mono _ _ _ _ _ sb (⟨⟨_,_,rfl,vhl,vhm,vhe⟩⟩:Sl bE _ _ k.head)) (Sl.mono _ _ _ _ _ sb (⟨⟨_,_,rfl,val,vam,vae⟩⟩:Sl bE _ _ k.a)) (Sl.mono _ _ _ _ _ sb (⟨⟨_,_,rfl,vbl,vbm,vbe⟩⟩:Sl bE _ _ k.b)) (by omega) (by omega) (by omega)).mono ?_
  rintro e w' ⟨pH16,pA17,pB18,cH19,cA20,cB21,rfl,hw'⟩
  refine⟨_,rfl,_,back _ _ hw',?_⟩
  refine aG ?_
  exact aI (aA (d:=38) rfl k0) rfl (((aB 2 rfl).trans (aB 2 rfl)).trans (aB 2 rfl))
 ·rintro f M-⟨i0,-⟩
  exact bK bM
 ·rintro f M ⟨k0,-⟩-
  exact bK bM
 ·rintro f M ⟨k0,-⟩-
  exact bK (eU 0)
 ·rintro f M ⟨k0,-⟩-
  exact nA (aA (d:=42) rfl k0) rfl (gJ (a:=((i.epoch:Nat):Int)) (b:=(2:Int)) rfl rfl (by decide) (eC _ 2)) (.refl _)
 ·rintro f M-⟨i0,-⟩
  exact bK bM
 ·rintro f M ⟨k0,-⟩-
  exact bK bM
 ·rintro f M ⟨k0,-⟩-
  exact bK (eU 0)
 ·rintro f M-⟨i0,-⟩
  exact bK bM
 ·rintro f M ⟨k0,-⟩-
  exact bK bM
 ·rintro f M ⟨k0,-⟩-
  exact bK (eU 0)
 ·rintro f M-⟨i0,-⟩
  exact bK bM
 ·rintro f M ⟨k0,-⟩-
  exact bK bM
 ·rintro f M ⟨k0,-⟩-
  exact bK (eU 0)
 ·rintro f M-⟨i0,-⟩
  exact bK cX
 ·rintro f M ⟨k0,k1,k2,-⟩-
  refine fF (aA (d:=53) (aA (d:=52) (aA (d:=49) rfl k0) k1) k2) ?_
  refine jH (cY (vs:=[Nx (i.epoch),Nx (i.next),sB va bs (vc)]) oE.ok rfl rfl) rfl fun w β1 sb kn hw1 back=>(gZ β1 w hw1 ((i.epoch:Nat):Int) ((i.next:Nat):Int) bs _ (by omega) (Sl.mono _ _ _ _ _ sb (⟨⟨_,_,rfl,vl,vm,ve⟩⟩:Sl bE _ _ bs))).mono ?_
  rintro e w' ⟨p24,c25,rfl,hw'⟩
  refine⟨_,rfl,_,back _ _ hw',?_⟩
  refine aG ?_
  exact aI (aA (d:=53) (aA (d:=52) (aA (d:=49) rfl k0) k1) k2) rfl (aB 0 rfl)
 ·rintro f M ⟨k0,k1,k2,k3,-⟩-
  have hs39:f 39= .agg #[sB (aM (aE 0 (f 39))) k.head (aN (aE 0 (f 39))),sB (aM (aE 1 (f 39))) k.a (aN (aE 1 (f 39))),sB (aM (aE 2 (f 39))) k.b (aN (aE 2 (f 39))),Ix (k.power)]:=k0
  have hs54:f 54=sB (aM (f 54)) (aD ((i.epoch:Nat):Int) ((i.next:Nat):Int) bs) (aN (f 54)):=k3
  refine fF (aA (aA (d:=46) (aA (d:=43) (aA rfl hs39) k1) k2) hs54) ?_
  refine bP rfl rfl rfl (cY (vs:=[.agg #[sB (aM (aE 0 (f 39))) k.head (aN (aE 0 (f 39))),sB (aM (aE 1 (f 39))) k.a (aN (aE 1 (f 39))),sB (aM (aE 2 (f 39))) k.b (aN (aE 2 (f 39))),Ix (k.power)],Nx (i.epoch%2),Nx (i.size),sB (aM (f 54)) (aD ((i.epoch:Nat):Int) ((i.next:Nat):Int) bs) (aN (f 54))]) aGd.ok rfl rfl) ?_
  intro w hw
  obtain⟨β1,sb,kn,hw1,back⟩:=St.frame (L:=[_,_,_]) (M:=_::M) hw
  refine(uO β1 w (aM (aE 0 (f 39))) (aM (aE 1 (f 39))) (aM (aE 2 (f 39))) (aN (aE 0 (f 39))) (aN (aE 1 (f 39))) (aN (aE 2 (f 39))) k ⟨by have:=hfit.1;omega,by have:=hfit.2.1;omega,by have:=hfit.2.2.1;omega,hfit.2.2.2⟩ i.epoch i.size (by omega) (aD ((i.epoch:Nat):Int) ((i.next:Nat):Int) bs) _ (by omega) (kU kn 0 rfl) hw1).mono ?_
  rintro e w' ⟨pA30,pB31,cA32,cB33,rfl,hw'⟩
  refine⟨_,rfl,_,back _ _ hw',?_⟩
  refine aG ?_
  exact aI (aA (aA (d:=46) (aA (d:=43) (aA rfl hs39) k1) k2) hs54) rfl ((((aB 2 rfl).trans (aB 2 rfl)).trans (aB 2 rfl)).trans (aB 3 rfl))
 ·rintro f M ⟨k0,-⟩-
  have hs55:f 55= .tuple #[.agg #[sB (aM (aE 0 (f 39))) ((cJ k i.epoch i.size (aD ((i.epoch:Nat):Int) ((i.next:Nat):Int) bs)).head) (aN (aE 0 (f 39))),sB (aM (aE 1 (aE 0 (f 55)))) ((cJ k i.epoch i.size (aD ((i.epoch:Nat):Int) ((i.next:Nat):Int) bs)).a) (aN (aE 1 (aE 0 (f 55)))),sB (aM (aE 2 (aE 0 (f 55)))) ((cJ k i.epoch i.size (aD ((i.epoch:Nat):Int) ((i.next:Nat):Int) bs)).b) (aN (aE 2 (aE 0 (f 55)))),Ix ((cJ k i.epoch i.size (aD ((i.epoch:Nat):Int) ((i.next:Nat):Int) bs)).power)],.bool (decide (¬eI k.power (aD ((i.epoch:Nat):Int) ((i.next:Nat):Int) bs)))]:=k0
  exact bK iK
 ·rintro f M ⟨k0,-⟩-
  have hs36:f 36= .tuple #[.agg #[sB (aM (aE 0 (f 39))) ((cJ k i.epoch i.size (aD ((i.epoch:Nat):Int) ((i.next:Nat):Int) bs)).head) (aN (aE 0 (f 39))),sB (aM (aE 1 (aE 0 (f 55)))) ((cJ k i.epoch i.size (aD ((i.epoch:Nat):Int) ((i.next:Nat):Int) bs)).a) (aN (aE 1 (aE 0 (f 55)))),sB (aM (aE 2 (aE 0 (f 55)))) ((cJ k i.epoch i.size (aD ((i.epoch:Nat):Int) ((i.next:Nat):Int) bs)).b) (aN (aE 2 (aE 0 (f 55)))),Ix ((cJ k i.epoch i.size (aD ((i.epoch:Nat):Int) ((i.next:Nat):Int) bs)).power)],.bool (decide (¬eI k.power (aD ((i.epoch:Nat):Int) ((i.next:Nat):Int) bs)))]:=k0
  exact bK mV
 ·rintro f M ⟨k0,-⟩-
  have hs36:f 36= .tuple #[.agg #[sB (aM (aE 0 (f 39))) ((cJ k i.epoch i.size (aD ((i.epoch:Nat):Int) ((i.next:Nat):Int) bs)).head) (aN (aE 0 (f 39))),sB (aM (aE 1 (aE 0 (f 55)))) ((cJ k i.epoch i.size (aD ((i.epoch:Nat):Int) ((i.next:Nat):Int) bs)).a) (aN (aE 1 (aE 0 (f 55)))),sB (aM (aE 2 (aE 0 (f 55)))) ((cJ k i.epoch i.size (aD ((i.epoch:Nat):Int) ((i.next:Nat):Int) bs)).b) (aN (aE 2 (aE 0 (f 55)))),Ix ((cJ k i.epoch i.size (aD ((i.epoch:Nat):Int) ((i.next:Nat):Int) bs)).power)],.bool (decide (¬eI k.power (aD ((i.epoch:Nat):Int) ((i.next:Nat):Int) bs)))]:=k0
  exact bK xT
 ·rintro f M- -
  refine fF rfl ?_
  refine fZ fun b35=> ?_
  refine aG ?_
  exact aI rfl rfl (aB 0 rfl)
 ·rintro f M ⟨k0,k1,-⟩-
  have hs7:f 7= .pointer (some ⟨(bI (f 7)),0,none⟩):=k0
  have hs56:f 56= .agg #[sB (aM (aE 0 (f 39))) ((cJ k i.epoch i.size (aD ((i.epoch:Nat):Int) ((i.next:Nat):Int) bs)).head) (aN (aE 0 (f 39))),sB (aM (aE 1 (aE 0 (f 55)))) ((cJ k i.epoch i.size (aD ((i.epoch:Nat):Int) ((i.next:Nat):Int) bs)).a) (aN (aE 1 (aE 0 (f 55)))),sB (aM (aE 2 (aE 0 (f 55)))) ((cJ k i.epoch i.size (aD ((i.epoch:Nat):Int) ((i.next:Nat):Int) bs)).b) (aN (aE 2 (aE 0 (f 55)))),Ix ((cJ k i.epoch i.size (aD ((i.epoch:Nat):Int) ((i.next:Nat):Int) bs)).power)]:=k1
  refine fF (aA (aA rfl hs7) hs56) ?_
  refine lu (mS 0 (#[sB (aM (aE 0 (f 39))) ((cJ k i.epoch i.size (aD ((i.epoch:Nat):Int) ((i.next:Nat):Int) bs)).head) (aN (aE 0 (f 39))),sB (aM (aE 1 (aE 0 (f 55)))) ((cJ k i.epoch i.size (aD ((i.epoch:Nat):Int) ((i.next:Nat):Int) bs)).a) (aN (aE 1 (aE 0 (f 55)))),sB (aM (aE 2 (aE 0 (f 55)))) ((cJ k i.epoch i.size (aD ((i.epoch:Nat):Int) ((i.next:Nat):Int) bs)).b) (aN (aE 2 (aE 0 (f 55)))),Ix ((cJ k i.epoch i.size (aD ((i.epoch:Nat):Int) ((i.next:Nat):Int) bs)).power)])) ?_
  refine aG ?_
  exact cT (aA (aA rfl hs7) hs56) trivial (aB 0 rfl)
 ·rintro f M ⟨k0,-⟩-
  exact bK eE
 rintro fa36 ⟨-,-,-,-,-,-,-,-,-,-,-,-,-,-,-,-,-,-,-,-,-,-,k22,-,k24,-⟩ ⟨j0,j1,j2,-⟩
 refine rL ?_
 refine aJ (d:=1) j0 ?_
 refine aJ (d:=2) j1 ?_
 refine aJ (d:=4) j2 ?_
 refine aJ (d:=7) k22 ?_
 refine aJ (d:=8) k24 ?_
 refine qF ?_
 refine lE (dO 6) ?_
 refine lE bM ?_
 refine lu (mS 1 (#[sB (aM (aE 0 (fa36 39))) ((cJ k i.epoch i.size (aD ((i.epoch:Nat):Int) ((i.next:Nat):Int) bs)).head) (aN (aE 0 (fa36 39))),sB (aM (aE 1 (aE 0 (fa36 55)))) ((cJ k i.epoch i.size (aD ((i.epoch:Nat):Int) ((i.next:Nat):Int) bs)).a) (aN (aE 1 (aE 0 (fa36 55)))),sB (aM (aE 2 (aE 0 (fa36 55)))) ((cJ k i.epoch i.size (aD ((i.epoch:Nat):Int) ((i.next:Nat):Int) bs)).b) (aN (aE 2 (aE 0 (fa36 55)))),Ix ((cJ k i.epoch i.size (aD ((i.epoch:Nat):Int) ((i.next:Nat):Int) bs)).power),Nx (i.epoch),Nx (i.next),sB ps i.state cs,sB pr i.recs (cr),Nx (i.size),.bool false])) ?_
 refine aW ?_
 refine dX ?_
 refine aC ?_
 refine lE dQ ?_
 refine aW ?_
 refine cK _ rfl (fun hc37=> ?_) (fun hc37=> ?_)
 ·refine cC ?_
  refine lE bM ?_
  refine lu (mS 1 (#[sB (aM (aE 0 (fa36 39))) ((cJ k i.epoch i.size (aD ((i.epoch:Nat):Int) ((i.next:Nat):Int) bs)).head) (aN (aE 0 (fa36 39))),sB (aM (aE 1 (aE 0 (fa36 55)))) ((cJ k i.epoch i.size (aD ((i.epoch:Nat):Int) ((i.next:Nat):Int) bs)).a) (aN (aE 1 (aE 0 (fa36 55)))),sB (aM (aE 2 (aE 0 (fa36 55)))) ((cJ k i.epoch i.size (aD ((i.epoch:Nat):Int) ((i.next:Nat):Int) bs)).b) (aN (aE 2 (aE 0 (fa36 55)))),Ix ((cJ k i.epoch i.size (aD ((i.epoch:Nat):Int) ((i.next:Nat):Int) bs)).power),Nx (i.epoch),Nx (i.next),sB ps i.state cs,sB pr i.recs (cr),Nx (i.size),.bool true])) ?_
  refine eJ ?_
  refine lE (dO 1) ?_
  refine lu (mS 0 (#[sB (aM (aE 0 (fa36 39))) ((cJ k i.epoch i.size (aD ((i.epoch:Nat):Int) ((i.next:Nat):Int) bs)).head) (aN (aE 0 (fa36 39))),sB (aM (aE 1 (aE 0 (fa36 55)))) ((cJ k i.epoch i.size (aD ((i.epoch:Nat):Int) ((i.next:Nat):Int) bs)).a) (aN (aE 1 (aE 0 (fa36 55)))),sB (aM (aE 2 (aE 0 (fa36 55)))) ((cJ k i.epoch i.size (aD ((i.epoch:Nat):Int) ((i.next:Nat):Int) bs)).b) (aN (aE 2 (aE 0 (fa36 55)))),Ix ((cJ k i.epoch i.size (aD ((i.epoch:Nat):Int) ((i.next:Nat):Int) bs)).power),Nx (i.epoch),Nx (i.next),sB ps i.state cs,sB pr i.recs (cr),Nx (i.size),.bool true])) ?_
  iterate 2 refine lE bV ?_
  refine aW ?_
  refine bB ?_
  refine aK ?_
  refine fH (m:=[.agg #[sB (aM (aE 0 (fa36 39))) ((cJ k i.epoch i.size (aD ((i.epoch:Nat):Int) ((i.next:Nat):Int) bs)).head) (aN (aE 0 (fa36 39))),sB (aM (aE 1 (aE 0 (fa36 55)))) ((cJ k i.epoch i.size (aD ((i.epoch:Nat):Int) ((i.next:Nat):Int) bs)).a) (aN (aE 1 (aE 0 (fa36 55)))),sB (aM (aE 2 (aE 0 (fa36 55)))) ((cJ k i.epoch i.size (aD ((i.epoch:Nat):Int) ((i.next:Nat):Int) bs)).b) (aN (aE 2 (aE 0 (fa36 55)))),Ix ((cJ k i.epoch i.size (aD ((i.epoch:Nat):Int) ((i.next:Nat):Int) bs)).power),Nx (i.epoch),Nx (i.next),sB ps i.state cs,sB pr i.recs (cr),Nx (i.size),.bool true],.int .i64 (0),.int .i64 (310)]) Try.results24 ⟨bY jK.ok rfl (dM 0 rfl rfl) rfl,cN (v:= .int .i64 (0)) rfl,cN (v:= .int .i64 (310)) rfl,trivial⟩ rfl ?_
  intro w hw
  exact .inl ⟨hc37,_,_,_,_,_,_,rfl,aF [true,true,true,false,false,false,false] rfl (hw.perm (L':=[rB (aM (aE 0 (fa36 39))) ((cJ k i.epoch i.size (aD ((i.epoch:Nat):Int) ((i.next:Nat):Int) bs)).head) (aN (aE 0 (fa36 39))),rB (aM (aE 1 (aE 0 (fa36 55)))) ((cJ k i.epoch i.size (aD ((i.epoch:Nat):Int) ((i.next:Nat):Int) bs)).a) (aN (aE 1 (aE 0 (fa36 55)))),rB (aM (aE 2 (aE 0 (fa36 55)))) ((cJ k i.epoch i.size (aD ((i.epoch:Nat):Int) ((i.next:Nat):Int) bs)).b) (aN (aE 2 (aE 0 (fa36 55)))),pt b2 (.cells #[sB (aM (aE 0 (fa36 39))) ((cJ k i.epoch i.size (aD ((i.epoch:Nat):Int) ((i.next:Nat):Int) bs)).head) (aN (aE 0 (fa36 39))),sB (aM (aE 1 (aE 0 (fa36 55)))) ((cJ k i.epoch i.size (aD ((i.epoch:Nat):Int) ((i.next:Nat):Int) bs)).a) (aN (aE 1 (aE 0 (fa36 55)))),sB (aM (aE 2 (aE 0 (fa36 55)))) ((cJ k i.epoch i.size (aD ((i.epoch:Nat):Int) ((i.next:Nat):Int) bs)).b) (aN (aE 2 (aE 0 (fa36 55)))),Ix ((cJ k i.epoch i.size (aD ((i.epoch:Nat):Int) ((i.next:Nat):Int) bs)).power),Nx (i.epoch),Nx (i.next),sB ps i.state cs,sB pr i.recs (cr),Nx (i.size),.bool true] 56),pt b1 (.cells #[sB (aM (aE 0 (fa36 39))) ((cJ k i.epoch i.size (aD ((i.epoch:Nat):Int) ((i.next:Nat):Int) bs)).head) (aN (aE 0 (fa36 39))),sB (aM (aE 1 (aE 0 (fa36 55)))) ((cJ k i.epoch i.size (aD ((i.epoch:Nat):Int) ((i.next:Nat):Int) bs)).a) (aN (aE 1 (aE 0 (fa36 55)))),sB (aM (aE 2 (aE 0 (fa36 55)))) ((cJ k i.epoch i.size (aD ((i.epoch:Nat):Int) ((i.next:Nat):Int) bs)).b) (aN (aE 2 (aE 0 (fa36 55)))),Ix ((cJ k i.epoch i.size (aD ((i.epoch:Nat):Int) ((i.next:Nat):Int) bs)).power),Nx (i.epoch),Nx (i.next),sB ps i.state cs,sB pr i.recs (cr),Nx (i.size),.bool true] 56),rB (aM (fa36 54)) (aD ((i.epoch:Nat):Int) ((i.next:Nat):Int) bs) (aN (fa36 54)),pt (bI (fa36 7)) (.cells #[sB (aM (aE 0 (fa36 39))) ((cJ k i.epoch i.size (aD ((i.epoch:Nat):Int) ((i.next:Nat):Int) bs)).head) (aN (aE 0 (fa36 39))),sB (aM (aE 1 (aE 0 (fa36 55)))) ((cJ k i.epoch i.size (aD ((i.epoch:Nat):Int) ((i.next:Nat):Int) bs)).a) (aN (aE 1 (aE 0 (fa36 55)))),sB (aM (aE 2 (aE 0 (fa36 55)))) ((cJ k i.epoch i.size (aD ((i.epoch:Nat):Int) ((i.next:Nat):Int) bs)).b) (aN (aE 2 (aE 0 (fa36 55)))),Ix ((cJ k i.epoch i.size (aD ((i.epoch:Nat):Int) ((i.next:Nat):Int) bs)).power)] 32)]) (by exact(bN [3,4,5,0,1,2,6] 7 rfl (by kernel_rfl) (by kernel_rfl))))⟩
 refine eT ?_
 refine cC ?_
 iterate 2 refine lE bM ?_
 refine lE (eU 1) ?_
 refine lE bV ?_
 refine eJ ?_
 refine cF rfl rfl rfl (iZ mY) ?_
 rintro _ _ ⟨b38,rfl,rfl⟩
 iterate 2 refine lE bM ?_
 refine lE (fA 2) ?_
 refine iY 0 (r':=row (.slice (some ⟨b38,0,none⟩) 0 0) 30 1 0 []) rfl (fun a h=>jA (m:=0) (by decide) rfl a h) ?_
 refine cF rfl rfl rfl (jR 0 mY zP (v:= .slice (some ⟨b38,0,none⟩) 0 0) (m:=0) (vs:=[]) (ao:=pr) (k:=i.recs.length) (c:=cr) (news:=us) rfl rfl rfl (by rw[Nat.mul_one];exact hul) (kB hus) hu1 hpr (by unfold maxLen;omega) (by omega)) ?_
 rintro _ _ ⟨rp39,rc40,rfl,rfl⟩
 refine cF rfl rfl rfl (iZ bQ) ?_
 rintro _ _ ⟨b41,rfl,rfl⟩
 refine lE cX ?_
 refine iY 0 (r':=row (.slice (some ⟨b41,0,none⟩) 0 0) 5 1 0 (BX [])) rfl (fun a h=>jA (m:=0) (by decide) rfl a h) ?_
 refine cF rfl rfl rfl (cG (enc:=fun c:UInt8=>Bx c) 0 dJ bQ fV (v:= .slice (some ⟨b41,0,none⟩) 0 0) (xs:=[]) (ys:=bs) (ao:=va) (c:=vc) rfl rfl (by first|rfl|simp) rfl (by first|rfl|simp) (aX.of_base (bO.mono _ _ _) ve) (by first|omega|(simp only[List.length_append,List.length_nil,List.length_cons,aL]at*;omega)) (by first|omega|(simp only[List.length_append,List.length_nil,List.length_cons,aL]at*;omega))) ?_
 rintro _ _ ⟨rp42,rc43,rfl,rfl⟩
 refine cF rfl rfl rfl (cO mY aAp.ok (cells:= #[sB rp42 ([]++bs) rc43]) rfl rfl rfl rfl) ?_
 rintro _ _ ⟨b44,rfl,rfl⟩
 refine cF rfl rfl rfl (jR 2 mY zP (v:= .slice rp39 (0+i.recs.length) rc40) (m:=0+i.recs.length) (vs:=[]++us) (ao:=some ⟨b44,0,none⟩) (k:=1) (c:=1) (news:=[sB rp42 ([]++bs) rc43]) rfl rfl rfl rfl (dM 0 rfl rfl) rfl (fun _=>rfl) (by unfold maxLen;omega) (by omega)) ?_
 rintro _ _ ⟨rp45,rc46,rfl,rfl⟩
 iterate 2 refine lE bM ?_
 refine lu (bS 4 aLj.ok (cs':= #[sB (aM (aE 0 (fa36 39))) ((cJ k i.epoch i.size (aD ((i.epoch:Nat):Int) ((i.next:Nat):Int) bs)).head) (aN (aE 0 (fa36 39))),sB (aM (aE 1 (aE 0 (fa36 55)))) ((cJ k i.epoch i.size (aD ((i.epoch:Nat):Int) ((i.next:Nat):Int) bs)).a) (aN (aE 1 (aE 0 (fa36 55)))),sB (aM (aE 2 (aE 0 (fa36 55)))) ((cJ k i.epoch i.size (aD ((i.epoch:Nat):Int) ((i.next:Nat):Int) bs)).b) (aN (aE 2 (aE 0 (fa36 55)))),Ix ((cJ k i.epoch i.size (aD ((i.epoch:Nat):Int) ((i.next:Nat):Int) bs)).power),Nx (i.epoch),Nx (i.next),sB ps i.state cs,.slice rp45 ((0+i.recs.length)+1) rc46,Nx (i.size),.bool false]) rfl rfl rfl rfl rfl rfl rfl) ?_
 refine eJ ?_
 iterate 2 refine lE bM ?_
 refine lE (eU 4) ?_
 refine lv (v:=Nx (i.size+24)) (bJ (a:=((i.size:Nat):Int)) (b:=(24:Int)) rfl rfl (bU (by omega) (by omega))) ?_
 refine lE cX ?_
 refine lE fC ?_
 refine lv (v:=Nx ((i.size+24)+bs.length)) (bJ (a:=((i.size+24:Nat):Int)) (b:=((bs.length:Nat):Int)) rfl rfl (bU (by omega) (by omega))) ?_
 iterate 2 refine lE bM ?_
 refine lu (bS 4 sY.ok (cs':= #[sB (aM (aE 0 (fa36 39))) ((cJ k i.epoch i.size (aD ((i.epoch:Nat):Int) ((i.next:Nat):Int) bs)).head) (aN (aE 0 (fa36 39))),sB (aM (aE 1 (aE 0 (fa36 55)))) ((cJ k i.epoch i.size (aD ((i.epoch:Nat):Int) ((i.next:Nat):Int) bs)).a) (aN (aE 1 (aE 0 (fa36 55)))),sB (aM (aE 2 (aE 0 (fa36 55)))) ((cJ k i.epoch i.size (aD ((i.epoch:Nat):Int) ((i.next:Nat):Int) bs)).b) (aN (aE 2 (aE 0 (fa36 55)))),Ix ((cJ k i.epoch i.size (aD ((i.epoch:Nat):Int) ((i.next:Nat):Int) bs)).power),Nx (i.epoch),Nx (i.next),sB ps i.state cs,.slice rp45 ((0+i.recs.length)+1) rc46,Nx ((i.size+24)+bs.length),.bool false]) rfl rfl rfl rfl rfl rfl rfl) ?_
 refine eJ ?_
 iterate 2 refine lE bM ?_
 refine lE (eU 4) ?_
 refine lv (v:=Nx (i.next+1)) (bJ (a:=((i.next:Nat):Int)) (b:=(1:Int)) rfl rfl (bU (by omega) (by omega))) ?_
 iterate 2 refine lE bM ?_
 refine lu (bS 4 sY.ok (cs':= #[sB (aM (aE 0 (fa36 39))) ((cJ k i.epoch i.size (aD ((i.epoch:Nat):Int) ((i.next:Nat):Int) bs)).head) (aN (aE 0 (fa36 39))),sB (aM (aE 1 (aE 0 (fa36 55)))) ((cJ k i.epoch i.size (aD ((i.epoch:Nat):Int) ((i.next:Nat):Int) bs)).a) (aN (aE 1 (aE 0 (fa36 55)))),sB (aM (aE 2 (aE 0 (fa36 55)))) ((cJ k i.epoch i.size (aD ((i.epoch:Nat):Int) ((i.next:Nat):Int) bs)).b) (aN (aE 2 (aE 0 (fa36 55)))),Ix ((cJ k i.epoch i.size (aD ((i.epoch:Nat):Int) ((i.next:Nat):Int) bs)).power),Nx (i.epoch),Nx (i.next+1),sB ps i.state cs,.slice rp45 ((0+i.recs.length)+1) rc46,Nx ((i.size+24)+bs.length),.bool false]) rfl rfl rfl rfl rfl rfl rfl) ?_
 refine eJ ?_
 refine lE (dO 4) ?_
 refine lE bG ?_
 refine lu (bS 3 jK.ok (cs':= #[sB (aM (aE 0 (fa36 39))) ((cJ k i.epoch i.size (aD ((i.epoch:Nat):Int) ((i.next:Nat):Int) bs)).head) (aN (aE 0 (fa36 39))),sB (aM (aE 1 (aE 0 (fa36 55)))) ((cJ k i.epoch i.size (aD ((i.epoch:Nat):Int) ((i.next:Nat):Int) bs)).a) (aN (aE 1 (aE 0 (fa36 55)))),sB (aM (aE 2 (aE 0 (fa36 55)))) ((cJ k i.epoch i.size (aD ((i.epoch:Nat):Int) ((i.next:Nat):Int) bs)).b) (aN (aE 2 (aE 0 (fa36 55)))),Ix ((cJ k i.epoch i.size (aD ((i.epoch:Nat):Int) ((i.next:Nat):Int) bs)).power),Nx (i.epoch),Nx (i.next+1),sB ps i.state cs,.slice rp45 ((0+i.recs.length)+1) rc46,Nx ((i.size+24)+bs.length),.bool false]) rfl rfl rfl rfl rfl rfl rfl) ?_
 iterate 2 refine lE bV ?_
 refine aW ?_
 refine bB ?_
 refine fH (m:=[.agg #[sB (aM (aE 0 (fa36 39))) ((cJ k i.epoch i.size (aD ((i.epoch:Nat):Int) ((i.next:Nat):Int) bs)).head) (aN (aE 0 (fa36 39))),sB (aM (aE 1 (aE 0 (fa36 55)))) ((cJ k i.epoch i.size (aD ((i.epoch:Nat):Int) ((i.next:Nat):Int) bs)).a) (aN (aE 1 (aE 0 (fa36 55)))),sB (aM (aE 2 (aE 0 (fa36 55)))) ((cJ k i.epoch i.size (aD ((i.epoch:Nat):Int) ((i.next:Nat):Int) bs)).b) (aN (aE 2 (aE 0 (fa36 55)))),Ix ((cJ k i.epoch i.size (aD ((i.epoch:Nat):Int) ((i.next:Nat):Int) bs)).power),Nx (i.epoch),Nx (i.next+1),sB ps i.state cs,.slice rp45 ((0+i.recs.length)+1) rc46,Nx ((i.size+24)+bs.length),.bool false],Nx (i.next),.int .i64 (0)]) Try.results24 ⟨bY jK.ok rfl (dM 3 rfl rfl) rfl,cN (v:=Nx (i.next)) rfl,cN (v:= .int .i64 (0)) rfl,trivial⟩ rfl ?_
 intro w hw
 have hw2:=aF [true,true,true,true,true,false,false,false,false,false] rfl (hw.perm (L':=[rB (aM (aE 0 (fa36 39))) ((cJ k i.epoch i.size (aD ((i.epoch:Nat):Int) ((i.next:Nat):Int) bs)).head) (aN (aE 0 (fa36 39))),rB (aM (aE 1 (aE 0 (fa36 55)))) ((cJ k i.epoch i.size (aD ((i.epoch:Nat):Int) ((i.next:Nat):Int) bs)).a) (aN (aE 1 (aE 0 (fa36 55)))),rB (aM (aE 2 (aE 0 (fa36 55)))) ((cJ k i.epoch i.size (aD ((i.epoch:Nat):Int) ((i.next:Nat):Int) bs)).b) (aN (aE 2 (aE 0 (fa36 55)))),row (.slice rp45 ((0+i.recs.length)+1) rc46) 30 1 ((0+i.recs.length)+1) ([]++us++[sB rp42 ([]++bs) rc43]),rB rp42 ([]++bs) rc43,pt b44 (.cells #[sB rp42 ([]++bs) rc43] 30),pt b2 (.cells #[sB (aM (aE 0 (fa36 39))) ((cJ k i.epoch i.size (aD ((i.epoch:Nat):Int) ((i.next:Nat):Int) bs)).head) (aN (aE 0 (fa36 39))),sB (aM (aE 1 (aE 0 (fa36 55)))) ((cJ k i.epoch i.size (aD ((i.epoch:Nat):Int) ((i.next:Nat):Int) bs)).a) (aN (aE 1 (aE 0 (fa36 55)))),sB (aM (aE 2 (aE 0 (fa36 55)))) ((cJ k i.epoch i.size (aD ((i.epoch:Nat):Int) ((i.next:Nat):Int) bs)).b) (aN (aE 2 (aE 0 (fa36 55)))),Ix ((cJ k i.epoch i.size (aD ((i.epoch:Nat):Int) ((i.next:Nat):Int) bs)).power),Nx (i.epoch),Nx (i.next+1),sB ps i.state cs,.slice rp45 ((0+i.recs.length)+1) rc46,Nx ((i.size+24)+bs.length),.bool false] 56),pt b1 (.cells #[sB (aM (aE 0 (fa36 39))) ((cJ k i.epoch i.size (aD ((i.epoch:Nat):Int) ((i.next:Nat):Int) bs)).head) (aN (aE 0 (fa36 39))),sB (aM (aE 1 (aE 0 (fa36 55)))) ((cJ k i.epoch i.size (aD ((i.epoch:Nat):Int) ((i.next:Nat):Int) bs)).a) (aN (aE 1 (aE 0 (fa36 55)))),sB (aM (aE 2 (aE 0 (fa36 55)))) ((cJ k i.epoch i.size (aD ((i.epoch:Nat):Int) ((i.next:Nat):Int) bs)).b) (aN (aE 2 (aE 0 (fa36 55)))),Ix ((cJ k i.epoch i.size (aD ((i.epoch:Nat):Int) ((i.next:Nat):Int) bs)).power),Nx (i.epoch),Nx (i.next+1),sB ps i.state cs,.slice rp45 ((0+i.recs.length)+1) rc46,Nx ((i.size+24)+bs.length),.bool false] 56),rB (aM (fa36 54)) (aD ((i.epoch:Nat):Int) ((i.next:Nat):Int) bs) (aN (fa36 54)),pt (bI (fa36 7)) (.cells #[sB (aM (aE 0 (fa36 39))) ((cJ k i.epoch i.size (aD ((i.epoch:Nat):Int) ((i.next:Nat):Int) bs)).head) (aN (aE 0 (fa36 39))),sB (aM (aE 1 (aE 0 (fa36 55)))) ((cJ k i.epoch i.size (aD ((i.epoch:Nat):Int) ((i.next:Nat):Int) bs)).a) (aN (aE 1 (aE 0 (fa36 55)))),sB (aM (aE 2 (aE 0 (fa36 55)))) ((cJ k i.epoch i.size (aD ((i.epoch:Nat):Int) ((i.next:Nat):Int) bs)).b) (aN (aE 2 (aE 0 (fa36 55)))),Ix ((cJ k i.epoch i.size (aD ((i.epoch:Nat):Int) ((i.next:Nat):Int) bs)).power)] 32)]) (by exact(bN [6,7,8,2,1,0,3,4,5,9] 10 rfl (by kernel_rfl) (by kernel_rfl))))
 simp only[sB,rB,Nat.zero_add,List.nil_append]at hw2⊢
 exact .inr ⟨Decidable.not_not.1 hc37,_,_,_,_,_,_,_,_,_,_,by rw[show i.size+24+bs.length=i.size+(aD i.epoch i.next bs).length by omega]<;>rfl,hw2⟩
theorem aHz(β:Base)(w:World)(hw:St β [] w)(k:KS)(vh va vb:Value)(hH:Sl bE β.heap vh k.head)(hA:Sl bE β.heap va k.a)(hB:Sl bE β.heap vb k.b)(i:KI)(ps pr:Option Addr)(cs cr:Nat)(us:List Value)(hul:us.length=i.recs.length)(hus:Cs β.heap (ba pr) us)(hu1:us.all (·.oneCell')=true)(hpr:0<i.recs.length→pr=some (ba pr))(bs:Bs)(v:Value)(hs:Sl bE β.heap v bs)(hfit:k.fits 524288)(hB9:i.epoch≤4611686018427387904∧i.next≤4611686018427387904∧i.size≤1048576∧i.recs.length≤1048576)(hbl:bs.length≤65536)(hroom:(k.area i.epoch).length+24+bs.length≤262144)(hnx:i.next≠4611686018427387904)(hok:eI k.power (aD i.epoch i.next bs)):Calls Try.prog 24 #[.agg #[vh,va,vb,Ix k.power,Nx i.epoch,Nx i.next,sB ps i.state cs,sB pr i.recs cr,Nx i.size,.bool false],v] w fun r w'=>∃pH pA pB cH cA cB p c q cq,r= .returned (.tuple #[.agg #[sB pH ((cJ k i.epoch i.size (aD i.epoch i.next bs)).head) cH,sB pA ((cJ k i.epoch i.size (aD i.epoch i.next bs)).a) cA,sB pB ((cJ k i.epoch i.size (aD i.epoch i.next bs)).b) cB,Ix (cJ k i.epoch i.size (aD i.epoch i.next bs)).power,Nx i.epoch,Nx (i.next+1),sB ps i.state cs,.slice p (i.recs.length+1) c,Nx (i.size+(aD i.epoch i.next bs).length),.bool false],Nx i.next,.int .i64 0])∧St β ([rB pH ((cJ k i.epoch i.size (aD i.epoch i.next bs)).head) cH,rB pA ((cJ k i.epoch i.size (aD i.epoch i.next bs)).a) cA,rB pB ((cJ k i.epoch i.size (aD i.epoch i.next bs)).b) cB]++[row (.slice p (i.recs.length+1) c) 30 1 (i.recs.length+1) (us++[sB q bs cq]),rB q bs cq]) w':=by
 exact(aFf β w hw k vh va vb hH hA hB i ps pr cs cr us hul hus hu1 hpr bs v hs hfit hB9 hbl hroom hnx).mono fun r w' h=>h.elim (fun h=>absurd hok h.1) (fun h=>h.2)
theorem aCr(β:Base)(w:World)(hw:St β [] w)(k:KS)(vh va vb:Value)(hH:Sl bE β.heap vh k.head)(hA:Sl bE β.heap va k.a)(hB:Sl bE β.heap vb k.b)(i:KI)(ps pr:Option Addr)(cs cr:Nat)(bs:Bs)(v:Value)(hs:Sl bE β.heap v bs)(hbl:bs.length≤65536)(hfull:i.epoch=4611686018427387903):kH Try.prog 25 #[.agg #[vh,va,vb,Ix k.power,Nx i.epoch,Nx i.next,sB ps i.state cs,sB pr i.recs cr,Nx i.size,.bool false],v] β w (.tuple #[.agg #[vh,va,vb,Ix k.power,Nx i.epoch,Nx i.next,sB ps i.state cs,sB pr i.recs cr,Nx i.size,.bool false],.int .i64 4]):=by
 obtain⟨vha,vhc,rfl,vhl,vhm,vhe⟩:=hH.get
 obtain⟨vaa,vac,rfl,val,vam,vae⟩:=hA.get
 obtain⟨vba,vbc,rfl,vbl,vbm,vbe⟩:=hB.get
 obtain⟨va,vc,rfl,vl,vm,ve⟩:=hs.get
 refine enter (n:=85) Try.func25 rfl Try.ntmps25 rfl ?_ hw
 refine cC ?_
 refine pD fun b1=> ?_
 refine fZ fun b2=> ?_
 refine lE bV ?_
 refine aW ?_
 refine dX ?_
 refine aC ?_
 refine lE cX ?_
 refine lE fC ?_
 refine lE qZ ?_
 refine aW ?_
 refine cK _ rfl (fun hc3=> ?_) (fun hc3=> ?_)
 ·exact absurd hc3 (by omega)
 refine eT ?_
 refine dX ?_
 refine aC ?_
 refine lE bM ?_
 refine lE (olb 1) ?_
 refine aW ?_
 refine dI rfl ?_
 refine eT ?_
 refine dX ?_
 refine aC ?_
 iterate 2 refine lE bM ?_
 refine lE (eU 1) ?_
 refine lE dR ?_
 refine aW ?_
 refine cK _ rfl (fun hc4=> ?_) (fun hc4=> ?_)
 ·refine cC ?_
  refine lE (dO 1) ?_
  refine lu (mS 0 (#[sB vha k.head (vhc),sB vaa k.a (vac),sB vba k.b (vbc),Ix (k.power),Nx (i.epoch),Nx (i.next),sB ps i.state cs,sB pr i.recs (cr),Nx (i.size),.bool false])) ?_
  refine lE bV ?_
  refine aW ?_
  refine bB ?_
  refine aK ?_
  refine fH (m:=[.agg #[sB vha k.head (vhc),sB vaa k.a (vac),sB vba k.b (vbc),Ix (k.power),Nx (i.epoch),Nx (i.next),sB ps i.state cs,sB pr i.recs (cr),Nx (i.size),.bool false],.int .i64 (4)]) Try.results25 ⟨bY jK.ok rfl (dM 0 rfl rfl) rfl,cN (v:= .int .i64 (4)) rfl,trivial⟩ rfl ?_
  intro w hw
  exact⟨rfl,aF [false,false] rfl hw⟩
 exact absurd (by omega) hc4
theorem aFg(β:Base)(w:World)(hw:St β [] w)(k:KS)(vh va vb:Value)(hH:Sl bE β.heap vh k.head)(hA:Sl bE β.heap va k.a)(hB:Sl bE β.heap vb k.b)(i:KI)(ps pr:Option Addr)(cs cr:Nat)(bs:Bs)(v:Value)(hs:Sl bE β.heap v bs)(hfit:k.fits 524288)(hB9:i.epoch≤4611686018427387904∧i.next≤4611686018427387904∧i.size≤1048576∧i.recs.length≤1048576)(hbl:bs.length≤65536)(hne:i.epoch≠4611686018427387903):Calls Try.prog 25 #[.agg #[vh,va,vb,Ix k.power,Nx i.epoch,Nx i.next,sB ps i.state cs,sB pr i.recs cr,Nx i.size,.bool false],v] w fun r w'=>(¬sU k (i.epoch+1) i.next bs∧∃pH pA pB cH cA cB,r= .returned (.tuple #[.agg #[sB pH ((iE k (i.epoch+1) i.next bs).head) cH,sB pA ((iE k (i.epoch+1) i.next bs).a) cA,sB pB ((iE k (i.epoch+1) i.next bs).b) cB,Ix (iE k (i.epoch+1) i.next bs).power,Nx i.epoch,Nx i.next,sB ps i.state cs,sB pr i.recs cr,Nx i.size,.bool true],.int .i64 310])∧St β [rB pH ((iE k (i.epoch+1) i.next bs).head) cH,rB pA ((iE k (i.epoch+1) i.next bs).a) cA,rB pB ((iE k (i.epoch+1) i.next bs).b) cB] w')∨(sU k (i.epoch+1) i.next bs∧∃pH pA pB cH cA cB q cq,r= .returned (.tuple #[.agg #[sB pH ((iE k (i.epoch+1) i.next bs).head) cH,sB pA ((iE k (i.epoch+1) i.next bs).a) cA,sB pB ((iE k (i.epoch+1) i.next bs).b) cB,Ix (iE k (i.epoch+1) i.next bs).power,Nx (i.epoch+1),Nx i.next,sB q bs cq,.slice none 0 0,Nx (24+bs.length),.bool false],.int .i64 0])∧St β ([rB pH ((iE k (i.epoch+1) i.next bs).head) cH,rB pA ((iE k (i.epoch+1) i.next bs).a) cA,rB pB ((iE k (i.epoch+1) i.next bs).b) cB]++[rB q bs cq]) w'):=by
 obtain⟨vha,vhc,rfl,vhl,vhm,vhe⟩:=hH.get
 obtain⟨vaa,vac,rfl,val,vam,vae⟩:=hA.get
 obtain⟨vba,vbc,rfl,vbl,vbm,vbe⟩:=hB.get
 obtain⟨va,vc,rfl,vl,vm,ve⟩:=hs.get
 refine enter (n:=85) Try.func25 rfl Try.ntmps25 rfl ?_ hw
 refine cC ?_
 refine pD fun b1=> ?_
 refine fZ fun b2=> ?_
 refine lE bV ?_
 refine aW ?_
 refine dX ?_
 refine aC ?_
 refine lE cX ?_
 refine lE fC ?_
 refine lE qZ ?_
 refine aW ?_
 refine cK _ rfl (fun hc3=> ?_) (fun hc3=> ?_)
 ·exact absurd hc3 (by omega)
 refine eT ?_
 refine dX ?_
 refine aC ?_
 refine lE bM ?_
 refine lE (olb 1) ?_
 refine aW ?_
 refine dI rfl ?_
 refine eT ?_
 refine dX ?_
 refine aC ?_
 iterate 2 refine lE bM ?_
 refine lE (eU 1) ?_
 refine lE dR ?_
 refine aW ?_
 refine cK _ rfl (fun hc4=> ?_) (fun hc4=> ?_)
 ·exact absurd hc4 (by omega)
 refine eT ?_
 refine aO ?_
 have hl1:k.head.length≤1048576:=hfit.1
 have hl2:k.a.length≤1048576:=by have:=hfit.2.1;omega
 have hl3:k.b.length≤1048576:=by have:=hfit.2.2.1;omega
 have hfl:=aH ((i.epoch+1:Nat):Int) i.next bs
 obtain⟨hB1,hB2,hB3,hB4⟩:=hB9
 refine aC ?_
 iterate 2 refine lE bM ?_
 refine lE (eU 1) ?_
 refine lv (v:=Nx (i.epoch+1)) (bJ rfl rfl (bU (by omega) (by omega))) ?_
 refine lE bV ?_
 refine eJ ?_
 refine lE bM ?_
 refine lE (dO 1) ?_
 refine jH (cY (vs:=[.agg #[sB vha k.head (vhc),sB vaa k.a (vac),sB vba k.b (vbc),Ix (k.power)]]) aGc.ok rfl rfl) rfl fun w β1 sb kn hw1 back=>(pV β1 w hw1 k _ _ _ (Sl.mono _ _ _ _ _ sb (⟨⟨_,_,rfl,vhl,vhm,vhe⟩⟩:Sl bE _ _ k.head)) (Sl.mono _ _ _ _ _ sb (⟨⟨_,_,rfl,val,vam,vae⟩⟩:Sl bE _ _ k.a)) (Sl.mono _ _ _ _ _ sb (⟨⟨_,_,rfl,vbl,vbm,vbe⟩⟩:Sl bE _ _ k.b)) (by omega) (by omega) (by omega)).mono ?_
 rintro e w' ⟨pH5,pA6,pB7,cH8,cA9,cB10,rfl,hw'⟩
 refine⟨_,rfl,_,back _ _ hw',?_⟩
 refine lE bG ?_
 refine lv (v:=Nx ((i.epoch+1)%2)) (gJ (a:=((i.epoch+1:Nat):Int)) (b:=(2:Int)) rfl rfl (by decide) (eC _ 2)) ?_
 refine bP rfl rfl rfl (cY (vs:=[.agg #[sB pH5 k.head cH8,sB pA6 k.a cA9,sB pB7 k.b cB10,Ix (k.power)],Nx ((i.epoch+1)%2),.int .i64 (0)]) aJe.ok rfl rfl) ?_
 intro w hw
 obtain⟨β1,sb,kn,hw1,back⟩:=St.frame (L:=[_,_,_]) (M:=_::_::[]) hw
 refine(yZ β1 w pH5 pA6 pB7 cH8 cA9 cB10 k (i.epoch+1) 0 (Nat.zero_le _) hfit.2.2.2 hw1).mono ?_
 rintro e w' ⟨rfl,hw'⟩
 refine⟨_,rfl,_,back _ _ hw',?_⟩
 refine lE iK ?_
 refine lE mV ?_
 refine lE xT ?_
 refine fZ fun b11=> ?_
 refine lu (mS 0 (#[sB pH5 ((aV k (i.epoch+1) 0).head) cH8,sB pA6 ((aV k (i.epoch+1) 0).a) cA9,sB pB7 ((aV k (i.epoch+1) 0).b) cB10,Ix ((aV k (i.epoch+1) 0).power)])) ?_
 refine lE eE ?_
 refine aW ?_
 refine dX ?_
 obtain⟨K1,hK1⟩:∃z,z=aV k (i.epoch+1) 0:=⟨_,rfl⟩
 refine lR (L':=[pt b11 (.cells #[sB pH5 K1.head cH8,sB pA6 K1.a cA9,sB pB7 K1.b cB10,Ix (K1.power)] 32),rB pH5 K1.head cH8,rB pA6 K1.a cA9,rB pB7 K1.b cB10,pt b2 (.cells #[.slice none 0 0,.slice none 0 0,.slice none 0 0,.int .i64 (0),.int .i64 (0),.int .i64 (0),.slice none 0 0,.slice none 0 0,.int .i64 (0),.bool false] 56),pt b1 (.cells #[sB vha k.head (vhc),sB vaa k.a (vac),sB vba k.b (vbc),Ix (k.power),Nx (i.epoch),Nx (i.next),sB ps i.state cs,sB pr i.recs (cr),Nx (i.size),.bool false] 56)]) (by show [pt b11 (.cells #[sB pH5 ((aV k (i.epoch+1) 0).head) cH8,sB pA6 ((aV k (i.epoch+1) 0).a) cA9,sB pB7 ((aV k (i.epoch+1) 0).b) cB10,Ix ((aV k (i.epoch+1) 0).power)] 32),rB pH5 ((aV k (i.epoch+1) 0).head) cH8,rB pA6 ((aV k (i.epoch+1) 0).a) cA9,rB pB7 ((aV k (i.epoch+1) 0).b) cB10,pt b2 (.cells #[.slice none 0 0,.slice none 0 0,.slice none 0 0,.int .i64 (0),.int .i64 (0),.int .i64 (0),.slice none 0 0,.slice none 0 0,.int .i64 (0),.bool false] 56),pt b1 (.cells #[sB vha k.head (vhc),sB vaa k.a (vac),sB vba k.b (vbc),Ix (k.power),Nx (i.epoch),Nx (i.next),sB ps i.state cs,sB pr i.recs (cr),Nx (i.size),.bool false] 56)]=_;rw[hK1]) ?_
 have hf1:K1.fits 524288:=by rw[hK1];exact hfit.cut
 refine aC ?_
 refine lE dQ ?_
 refine lE ond ?_
 refine aW ?_
 refine cK _ rfl (fun hc12=> ?_) (fun hc12=> ?_)
 ·refine rF [sv 37 (.agg #[sB pH5 K1.head cH8,sB pA6 K1.a cA9,sB pB7 K1.b cB10,Ix (K1.power)]) [] [] [0],sv 38 (Nx (i.epoch+1)) [] [] [1],sv 39 (Nx ((i.epoch+1)%2)) [1] [1] [],sv 40 (Nx (i.epoch+1)) [] [] [1],sv 41 (pp b1 4) [] [] [2],sv 42 (pp b1 5) [4] [4] [],sv 43 (Nx (i.next)) [4,5] [5] [],sv 44 (sB va bs (vc)) [] [] [3],⟨[3,4,5,6,7],[3,6,7],[],[45],fun f=>f 45=sB (aM (f 45)) (aD ((i.epoch+1:Nat):Int) ((i.next:Nat):Int) bs) (aN (f 45))⟩,⟨(List.range 9),[0,2,8],[],[46],fun f=>f 46= .tuple #[.agg #[sB pH5 ((cJ K1 (i.epoch+1) 0 (aD ((i.epoch+1:Nat):Int) ((i.next:Nat):Int) bs)).head) cH8,sB (aM (aE 1 (aE 0 (f 46)))) ((cJ K1 (i.epoch+1) 0 (aD ((i.epoch+1:Nat):Int) ((i.next:Nat):Int) bs)).a) (aN (aE 1 (aE 0 (f 46)))),sB (aM (aE 2 (aE 0 (f 46)))) ((cJ K1 (i.epoch+1) 0 (aD ((i.epoch+1:Nat):Int) ((i.next:Nat):Int) bs)).b) (aN (aE 2 (aE 0 (f 46)))),Ix ((cJ K1 (i.epoch+1) 0 (aD ((i.epoch+1:Nat):Int) ((i.next:Nat):Int) bs)).power)],.bool (decide (¬eI K1.power (aD ((i.epoch+1:Nat):Int) ((i.next:Nat):Int) bs)))]⟩,⟨(List.range 10),[9],[],[36,46],fun f=>f 36= .tuple #[.agg #[sB pH5 ((cJ K1 (i.epoch+1) 0 (aD ((i.epoch+1:Nat):Int) ((i.next:Nat):Int) bs)).head) cH8,sB (aM (aE 1 (aE 0 (f 46)))) ((cJ K1 (i.epoch+1) 0 (aD ((i.epoch+1:Nat):Int) ((i.next:Nat):Int) bs)).a) (aN (aE 1 (aE 0 (f 46)))),sB (aM (aE 2 (aE 0 (f 46)))) ((cJ K1 (i.epoch+1) 0 (aD ((i.epoch+1:Nat):Int) ((i.next:Nat):Int) bs)).b) (aN (aE 2 (aE 0 (f 46)))),Ix ((cJ K1 (i.epoch+1) 0 (aD ((i.epoch+1:Nat):Int) ((i.next:Nat):Int) bs)).power)],.bool (decide (¬eI K1.power (aD ((i.epoch+1:Nat):Int) ((i.next:Nat):Int) bs)))]⟩,⟨(List.range 11),[10],[],[46,47],fun f=>f 47= .agg #[sB pH5 ((cJ K1 (i.epoch+1) 0 (aD ((i.epoch+1:Nat):Int) ((i.next:Nat):Int) bs)).head) cH8,sB (aM (aE 1 (aE 0 (f 46)))) ((cJ K1 (i.epoch+1) 0 (aD ((i.epoch+1:Nat):Int) ((i.next:Nat):Int) bs)).a) (aN (aE 1 (aE 0 (f 46)))),sB (aM (aE 2 (aE 0 (f 46)))) ((cJ K1 (i.epoch+1) 0 (aD ((i.epoch+1:Nat):Int) ((i.next:Nat):Int) bs)).b) (aN (aE 2 (aE 0 (f 46)))),Ix ((cJ K1 (i.epoch+1) 0 (aD ((i.epoch+1:Nat):Int) ((i.next:Nat):Int) bs)).power)]⟩,sv 48 (.bool (decide (¬eI K1.power (aD ((i.epoch+1:Nat):Int) ((i.next:Nat):Int) bs)))) (List.range 11) [10] [],⟨(List.range 12),[11],[0],[],fun _=>True⟩,sv 8 (.bool (decide (¬eI K1.power (aD ((i.epoch+1:Nat):Int) ((i.next:Nat):Int) bs)))) (List.range 14) [12] []] [(some 13,[0,13]),(some 9,[9]),(some 9,[9]),(some 9,[9]),u0,u1 [6]] [⟨(some 8),none,[9],[45],fun f=>rB (aM (f 45)) (aD ((i.epoch+1:Nat):Int) ((i.next:Nat):Int) bs) (aN (f 45))⟩,⟨(some 9),none,[],[],fun _=>rB pH5 ((cJ K1 (i.epoch+1) 0 (aD ((i.epoch+1:Nat):Int) ((i.next:Nat):Int) bs)).head) cH8⟩,⟨(some 9),none,[],[46],fun f=>rB (aM (aE 1 (aE 0 (f 46)))) ((cJ K1 (i.epoch+1) 0 (aD ((i.epoch+1:Nat):Int) ((i.next:Nat):Int) bs)).a) (aN (aE 1 (aE 0 (f 46))))⟩,⟨(some 9),none,[],[46],fun f=>rB (aM (aE 2 (aE 0 (f 46)))) ((cJ K1 (i.epoch+1) 0 (aD ((i.epoch+1:Nat):Int) ((i.next:Nat):Int) bs)).b) (aN (aE 2 (aE 0 (f 46))))⟩,⟨(some 13),none,[],[46],fun f=>pt b11 (.cells #[sB pH5 ((cJ K1 (i.epoch+1) 0 (aD ((i.epoch+1:Nat):Int) ((i.next:Nat):Int) bs)).head) cH8,sB (aM (aE 1 (aE 0 (f 46)))) ((cJ K1 (i.epoch+1) 0 (aD ((i.epoch+1:Nat):Int) ((i.next:Nat):Int) bs)).a) (aN (aE 1 (aE 0 (f 46)))),sB (aM (aE 2 (aE 0 (f 46)))) ((cJ K1 (i.epoch+1) 0 (aD ((i.epoch+1:Nat):Int) ((i.next:Nat):Int) bs)).b) (aN (aE 2 (aE 0 (f 46)))),Ix ((cJ K1 (i.epoch+1) 0 (aD ((i.epoch+1:Nat):Int) ((i.next:Nat):Int) bs)).power)] 32)⟩] [(7,pp b11 0),(6,Nx (i.epoch+1)),(2,pp b1 0),(1,sB va bs (vc)),(4,pp b2 0)] [3,2,4,1,0] ⟨rfl,rfl,rfl,rfl,rfl,trivial⟩ ⟨?_,?_,?_,?_,?_,?_,?_,?_,?_,?_,?_,?_,?_,?_,?_,trivial⟩ ?_
  ·rintro f M-⟨i0,-⟩
   exact bK (dO 0)
  ·rintro f M-⟨i0,-⟩
   exact bK bG
  ·rintro f M ⟨k0,-⟩-
   exact nA (aA (d:=38) rfl k0) rfl (gJ (a:=((i.epoch+1:Nat):Int)) (b:=(2:Int)) rfl rfl (by decide) (eC _ 2)) (.refl _)
  ·rintro f M-⟨i0,-⟩
   exact bK bG
  ·rintro f M-⟨i0,-⟩
   exact bK bM
  ·rintro f M ⟨k0,-⟩-
   exact bK bM
  ·rintro f M ⟨k0,-⟩-
   exact bK (eU 0)
  ·rintro f M-⟨i0,-⟩
   exact bK cX
  ·rintro f M ⟨k0,k1,k2,-⟩-
   refine fF (aA (d:=44) (aA (d:=43) (aA (d:=40) rfl k0) k1) k2) ?_
   refine jH (cY (vs:=[Nx (i.epoch+1),Nx (i.next),sB va bs (vc)]) oE.ok rfl rfl) rfl fun w β1 sb kn hw1 back=>(gZ β1 w hw1 ((i.epoch+1:Nat):Int) ((i.next:Nat):Int) bs _ (by omega) (Sl.mono _ _ _ _ _ sb (⟨⟨_,_,rfl,vl,vm,ve⟩⟩:Sl bE _ _ bs))).mono ?_
   rintro e w' ⟨p15,c16,rfl,hw'⟩
   refine⟨_,rfl,_,back _ _ hw',?_⟩
   refine aG ?_
   exact aI (aA (d:=44) (aA (d:=43) (aA (d:=40) rfl k0) k1) k2) rfl (aB 0 rfl)
  ·rintro f M ⟨k0,k1,k2,-⟩-
   have hs45:f 45=sB (aM (f 45)) (aD ((i.epoch+1:Nat):Int) ((i.next:Nat):Int) bs) (aN (f 45)):=k2
   refine fF (aA (aA (d:=39) (aA (d:=37) rfl k0) k1) hs45) ?_
   refine bP rfl rfl rfl (cY (vs:=[.agg #[sB pH5 K1.head cH8,sB pA6 K1.a cA9,sB pB7 K1.b cB10,Ix (K1.power)],Nx ((i.epoch+1)%2),.int .i64 (0),sB (aM (f 45)) (aD ((i.epoch+1:Nat):Int) ((i.next:Nat):Int) bs) (aN (f 45))]) aGd.ok rfl rfl) ?_
   intro w hw
   obtain⟨β1,sb,kn,hw1,back⟩:=St.frame (L:=[_,_,_]) (M:=_::M) hw
   refine(uO β1 w pH5 pA6 pB7 cH8 cA9 cB10 K1 (aEf hf1 (by omega)) (i.epoch+1) 0 (by omega) (aD ((i.epoch+1:Nat):Int) ((i.next:Nat):Int) bs) _ (by first|omega|(simp only[List.length_append,aL];omega)) (kU kn 0 rfl) hw1).mono ?_
   rintro e w' ⟨pA21,pB22,cA23,cB24,rfl,hw'⟩
   refine⟨_,rfl,_,back _ _ hw',?_⟩
   refine aG ?_
   exact aI (aA (aA (d:=39) (aA (d:=37) rfl k0) k1) hs45) rfl ((((aB 2 rfl).trans (aB 2 rfl)).trans (aB 2 rfl)).trans (aB 3 rfl))
  ·rintro f M ⟨k0,-⟩-
   have hs46:f 46= .tuple #[.agg #[sB pH5 ((cJ K1 (i.epoch+1) 0 (aD ((i.epoch+1:Nat):Int) ((i.next:Nat):Int) bs)).head) cH8,sB (aM (aE 1 (aE 0 (f 46)))) ((cJ K1 (i.epoch+1) 0 (aD ((i.epoch+1:Nat):Int) ((i.next:Nat):Int) bs)).a) (aN (aE 1 (aE 0 (f 46)))),sB (aM (aE 2 (aE 0 (f 46)))) ((cJ K1 (i.epoch+1) 0 (aD ((i.epoch+1:Nat):Int) ((i.next:Nat):Int) bs)).b) (aN (aE 2 (aE 0 (f 46)))),Ix ((cJ K1 (i.epoch+1) 0 (aD ((i.epoch+1:Nat):Int) ((i.next:Nat):Int) bs)).power)],.bool (decide (¬eI K1.power (aD ((i.epoch+1:Nat):Int) ((i.next:Nat):Int) bs)))]:=k0
   exact bK iK
  ·rintro f M ⟨k0,-⟩-
   have hs36:f 36= .tuple #[.agg #[sB pH5 ((cJ K1 (i.epoch+1) 0 (aD ((i.epoch+1:Nat):Int) ((i.next:Nat):Int) bs)).head) cH8,sB (aM (aE 1 (aE 0 (f 46)))) ((cJ K1 (i.epoch+1) 0 (aD ((i.epoch+1:Nat):Int) ((i.next:Nat):Int) bs)).a) (aN (aE 1 (aE 0 (f 46)))),sB (aM (aE 2 (aE 0 (f 46)))) ((cJ K1 (i.epoch+1) 0 (aD ((i.epoch+1:Nat):Int) ((i.next:Nat):Int) bs)).b) (aN (aE 2 (aE 0 (f 46)))),Ix ((cJ K1 (i.epoch+1) 0 (aD ((i.epoch+1:Nat):Int) ((i.next:Nat):Int) bs)).power)],.bool (decide (¬eI K1.power (aD ((i.epoch+1:Nat):Int) ((i.next:Nat):Int) bs)))]:=k0
   exact bK mV
  ·rintro f M ⟨k0,-⟩-
   have hs36:f 36= .tuple #[.agg #[sB pH5 ((cJ K1 (i.epoch+1) 0 (aD ((i.epoch+1:Nat):Int) ((i.next:Nat):Int) bs)).head) cH8,sB (aM (aE 1 (aE 0 (f 46)))) ((cJ K1 (i.epoch+1) 0 (aD ((i.epoch+1:Nat):Int) ((i.next:Nat):Int) bs)).a) (aN (aE 1 (aE 0 (f 46)))),sB (aM (aE 2 (aE 0 (f 46)))) ((cJ K1 (i.epoch+1) 0 (aD ((i.epoch+1:Nat):Int) ((i.next:Nat):Int) bs)).b) (aN (aE 2 (aE 0 (f 46)))),Ix ((cJ K1 (i.epoch+1) 0 (aD ((i.epoch+1:Nat):Int) ((i.next:Nat):Int) bs)).power)],.bool (decide (¬eI K1.power (aD ((i.epoch+1:Nat):Int) ((i.next:Nat):Int) bs)))]:=k0
   exact bK xT
  ·rintro f M ⟨k0,-⟩ ⟨i0,-⟩
   have hs47:f 47= .agg #[sB pH5 ((cJ K1 (i.epoch+1) 0 (aD ((i.epoch+1:Nat):Int) ((i.next:Nat):Int) bs)).head) cH8,sB (aM (aE 1 (aE 0 (f 46)))) ((cJ K1 (i.epoch+1) 0 (aD ((i.epoch+1:Nat):Int) ((i.next:Nat):Int) bs)).a) (aN (aE 1 (aE 0 (f 46)))),sB (aM (aE 2 (aE 0 (f 46)))) ((cJ K1 (i.epoch+1) 0 (aD ((i.epoch+1:Nat):Int) ((i.next:Nat):Int) bs)).b) (aN (aE 2 (aE 0 (f 46)))),Ix ((cJ K1 (i.epoch+1) 0 (aD ((i.epoch+1:Nat):Int) ((i.next:Nat):Int) bs)).power)]:=k0
   refine fF (aA (aA (d:=7) rfl i0) hs47) ?_
   refine lu (mS 0 (#[sB pH5 ((cJ K1 (i.epoch+1) 0 (aD ((i.epoch+1:Nat):Int) ((i.next:Nat):Int) bs)).head) cH8,sB (aM (aE 1 (aE 0 (f 46)))) ((cJ K1 (i.epoch+1) 0 (aD ((i.epoch+1:Nat):Int) ((i.next:Nat):Int) bs)).a) (aN (aE 1 (aE 0 (f 46)))),sB (aM (aE 2 (aE 0 (f 46)))) ((cJ K1 (i.epoch+1) 0 (aD ((i.epoch+1:Nat):Int) ((i.next:Nat):Int) bs)).b) (aN (aE 2 (aE 0 (f 46)))),Ix ((cJ K1 (i.epoch+1) 0 (aD ((i.epoch+1:Nat):Int) ((i.next:Nat):Int) bs)).power)])) ?_
   refine aG ?_
   exact cT (aA (aA (d:=7) rfl i0) hs47) trivial (aB 0 rfl)
  ·rintro f M ⟨k0,-⟩-
   exact bK eE
  rintro fa25 ⟨-,-,-,-,-,-,-,-,-,-,-,-,-,-,k14,-⟩ ⟨j0,j1,j2,j3,j4,-⟩
  refine rL ?_
  refine aJ (d:=1) j0 ?_
  refine aJ (d:=2) j1 ?_
  refine aJ (d:=4) j2 ?_
  refine aJ (d:=6) j3 ?_
  refine aJ (d:=7) j4 ?_
  refine aJ (d:=8) k14 ?_
  refine zT ?_
  refine aO ?_
  obtain⟨K2,hK2⟩:∃z,z=(cJ K1 (i.epoch+1) 0 (aD ((i.epoch+1:Nat):Int) ((i.next:Nat):Int) bs)):=⟨_,rfl⟩
  refine lR (L':=[pt b2 (.cells #[.slice none 0 0,.slice none 0 0,.slice none 0 0,.int .i64 (0),.int .i64 (0),.int .i64 (0),.slice none 0 0,.slice none 0 0,.int .i64 (0),.bool false] 56),pt b1 (.cells #[sB vha k.head (vhc),sB vaa k.a (vac),sB vba k.b (vbc),Ix (k.power),Nx (i.epoch),Nx (i.next),sB ps i.state cs,sB pr i.recs (cr),Nx (i.size),.bool false] 56),rB (aM (fa25 45)) (aD ((i.epoch+1:Nat):Int) ((i.next:Nat):Int) bs) (aN (fa25 45)),rB pH5 K2.head cH8,rB (aM (aE 1 (aE 0 (fa25 46)))) K2.a (aN (aE 1 (aE 0 (fa25 46)))),rB (aM (aE 2 (aE 0 (fa25 46)))) K2.b (aN (aE 2 (aE 0 (fa25 46)))),pt b11 (.cells #[sB pH5 K2.head cH8,sB (aM (aE 1 (aE 0 (fa25 46)))) K2.a (aN (aE 1 (aE 0 (fa25 46)))),sB (aM (aE 2 (aE 0 (fa25 46)))) K2.b (aN (aE 2 (aE 0 (fa25 46)))),Ix (K2.power)] 32)]) (by show [pt b2 (.cells #[.slice none 0 0,.slice none 0 0,.slice none 0 0,.int .i64 (0),.int .i64 (0),.int .i64 (0),.slice none 0 0,.slice none 0 0,.int .i64 (0),.bool false] 56),pt b1 (.cells #[sB vha k.head (vhc),sB vaa k.a (vac),sB vba k.b (vbc),Ix (k.power),Nx (i.epoch),Nx (i.next),sB ps i.state cs,sB pr i.recs (cr),Nx (i.size),.bool false] 56),rB (aM (fa25 45)) (aD ((i.epoch+1:Nat):Int) ((i.next:Nat):Int) bs) (aN (fa25 45)),rB pH5 ((cJ K1 (i.epoch+1) 0 (aD ((i.epoch+1:Nat):Int) ((i.next:Nat):Int) bs)).head) cH8,rB (aM (aE 1 (aE 0 (fa25 46)))) ((cJ K1 (i.epoch+1) 0 (aD ((i.epoch+1:Nat):Int) ((i.next:Nat):Int) bs)).a) (aN (aE 1 (aE 0 (fa25 46)))),rB (aM (aE 2 (aE 0 (fa25 46)))) ((cJ K1 (i.epoch+1) 0 (aD ((i.epoch+1:Nat):Int) ((i.next:Nat):Int) bs)).b) (aN (aE 2 (aE 0 (fa25 46)))),pt b11 (.cells #[sB pH5 ((cJ K1 (i.epoch+1) 0 (aD ((i.epoch+1:Nat):Int) ((i.next:Nat):Int) bs)).head) cH8,sB (aM (aE 1 (aE 0 (fa25 46)))) ((cJ K1 (i.epoch+1) 0 (aD ((i.epoch+1:Nat):Int) ((i.next:Nat):Int) bs)).a) (aN (aE 1 (aE 0 (fa25 46)))),sB (aM (aE 2 (aE 0 (fa25 46)))) ((cJ K1 (i.epoch+1) 0 (aD ((i.epoch+1:Nat):Int) ((i.next:Nat):Int) bs)).b) (aN (aE 2 (aE 0 (fa25 46)))),Ix ((cJ K1 (i.epoch+1) 0 (aD ((i.epoch+1:Nat):Int) ((i.next:Nat):Int) bs)).power)] 32)]=_;rw[hK2]) ?_
  have hf2:K2.fits (524288+(aD ((i.epoch+1:Nat):Int) i.next bs).length):=by rw[hK2];exact hf1.wr
  have e2:nE k (i.epoch+1) i.next bs=K2:=by rw[hK2,hK1];rfl
  refine aC ?_
  refine lE dQ ?_
  refine lE ond ?_
  refine aW ?_
  refine cK _ rfl (fun hc26=> ?_) (fun hc26=> ?_)
  ·obtain⟨K3,hK3⟩:∃z,z=lY k (i.epoch+1) i.next bs:=⟨_,rfl⟩
   refine hO (fun(f:Fm) (L:List cE)=>∃pH3 cH3,(f 1=sB va bs (vc)∧f 2=pp b1 0∧f 4=pp b2 0∧f 6=Nx (i.epoch+1)∧f 7=pp b11 0)∧L=[pt b2 (.cells #[.slice none 0 0,.slice none 0 0,.slice none 0 0,.int .i64 (0),.int .i64 (0),.int .i64 (0),.slice none 0 0,.slice none 0 0,.int .i64 (0),.bool false] 56),pt b1 (.cells #[sB vha k.head (vhc),sB vaa k.a (vac),sB vba k.b (vbc),Ix (k.power),Nx (i.epoch),Nx (i.next),sB ps i.state cs,sB pr i.recs (cr),Nx (i.size),.bool false] 56),rB (aM (fa25 45)) (aD ((i.epoch+1:Nat):Int) ((i.next:Nat):Int) bs) (aN (fa25 45)),rB pH3 K3.head cH3,rB (aM (aE 1 (aE 0 (fa25 46)))) K3.a (aN (aE 1 (aE 0 (fa25 46)))),rB (aM (aE 2 (aE 0 (fa25 46)))) K3.b (aN (aE 2 (aE 0 (fa25 46)))),pt b11 (.cells #[sB pH3 K3.head cH3,sB (aM (aE 1 (aE 0 (fa25 46)))) K3.a (aN (aE 1 (aE 0 (fa25 46)))),sB (aM (aE 2 (aE 0 (fa25 46)))) K3.b (aN (aE 2 (aE 0 (fa25 46)))),Ix (K3.power)] 32)]) ?_ ?_
   ·refine cC ?_
    refine lE bM ?_
    refine lE (fA 6) ?_
    refine lE fC ?_
    refine lE dR ?_
    refine aW ?_
    refine cK _ rfl (fun hc27=> ?_) (fun hc27=> ?_)
    ·refine aC ?_
     refine cF rfl rfl rfl (oM (c:=32) bQ fV iG.ok rfl rfl (by omega) (by omega)) ?_
     rintro _ _ ⟨b28,rfl,rfl⟩
     refine lE bM ?_
     refine lu (mS 7 (#[sB (some ⟨b28,0,none⟩) (List.replicate 32 (0:UInt8)) 32,sB (aM (aE 1 (aE 0 (fa25 46)))) K2.a (aN (aE 1 (aE 0 (fa25 46)))),sB (aM (aE 2 (aE 0 (fa25 46)))) K2.b (aN (aE 2 (aE 0 (fa25 46)))),Ix (K2.power)])) ?_
     refine aG ?_
     refine qC [1,2,3,0,5,6,7,4] 8 rfl (by kernel_rfl) ?_
     refine dL [true,true,true,true,true,true,true,false] rfl ?_
     have e3:({K2 with head:=List.replicate 32 (0:UInt8)}:KS)=K3:=by rw[hK3];unfold lY;simp only;rw[e2,if_pos (show K2.head.length=0 by omega)]
     refine qD (L':=[pt b2 (.cells #[.slice none 0 0,.slice none 0 0,.slice none 0 0,.int .i64 (0),.int .i64 (0),.int .i64 (0),.slice none 0 0,.slice none 0 0,.int .i64 (0),.bool false] 56),pt b1 (.cells #[sB vha k.head (vhc),sB vaa k.a (vac),sB vba k.b (vbc),Ix (k.power),Nx (i.epoch),Nx (i.next),sB ps i.state cs,sB pr i.recs (cr),Nx (i.size),.bool false] 56),rB (aM (fa25 45)) (aD ((i.epoch+1:Nat):Int) ((i.next:Nat):Int) bs) (aN (fa25 45)),rB (some ⟨b28,0,none⟩) K3.head 32,rB (aM (aE 1 (aE 0 (fa25 46)))) K3.a (aN (aE 1 (aE 0 (fa25 46)))),rB (aM (aE 2 (aE 0 (fa25 46)))) K3.b (aN (aE 2 (aE 0 (fa25 46)))),pt b11 (.cells #[sB (some ⟨b28,0,none⟩) K3.head 32,sB (aM (aE 1 (aE 0 (fa25 46)))) K3.a (aN (aE 1 (aE 0 (fa25 46)))),sB (aM (aE 2 (aE 0 (fa25 46)))) K3.b (aN (aE 2 (aE 0 (fa25 46)))),Ix (K3.power)] 32)]) (by show [pt b2 (.cells #[.slice none 0 0,.slice none 0 0,.slice none 0 0,.int .i64 (0),.int .i64 (0),.int .i64 (0),.slice none 0 0,.slice none 0 0,.int .i64 (0),.bool false] 56),pt b1 (.cells #[sB vha k.head (vhc),sB vaa k.a (vac),sB vba k.b (vbc),Ix (k.power),Nx (i.epoch),Nx (i.next),sB ps i.state cs,sB pr i.recs (cr),Nx (i.size),.bool false] 56),rB (aM (fa25 45)) (aD ((i.epoch+1:Nat):Int) ((i.next:Nat):Int) bs) (aN (fa25 45)),rB (some ⟨b28,0,none⟩) (List.replicate 32 (0:UInt8)) 32,rB (aM (aE 1 (aE 0 (fa25 46)))) K2.a (aN (aE 1 (aE 0 (fa25 46)))),rB (aM (aE 2 (aE 0 (fa25 46)))) K2.b (aN (aE 2 (aE 0 (fa25 46)))),pt b11 (.cells #[sB (some ⟨b28,0,none⟩) (List.replicate 32 (0:UInt8)) 32,sB (aM (aE 1 (aE 0 (fa25 46)))) K2.a (aN (aE 1 (aE 0 (fa25 46)))),sB (aM (aE 2 (aE 0 (fa25 46)))) K2.b (aN (aE 2 (aE 0 (fa25 46)))),Ix (K2.power)] 32)]=_;rw[←e3]) ?_
     exact bT ⟨_,_,⟨rfl,rfl,rfl,rfl,rfl⟩,rfl⟩
    refine cM ?_
    have e3:K2=K3:=by rw[hK3];unfold lY;simp only;rw[e2,if_neg (show ¬K2.head.length=0 by omega)]
    refine qD (L':=[pt b2 (.cells #[.slice none 0 0,.slice none 0 0,.slice none 0 0,.int .i64 (0),.int .i64 (0),.int .i64 (0),.slice none 0 0,.slice none 0 0,.int .i64 (0),.bool false] 56),pt b1 (.cells #[sB vha k.head (vhc),sB vaa k.a (vac),sB vba k.b (vbc),Ix (k.power),Nx (i.epoch),Nx (i.next),sB ps i.state cs,sB pr i.recs (cr),Nx (i.size),.bool false] 56),rB (aM (fa25 45)) (aD ((i.epoch+1:Nat):Int) ((i.next:Nat):Int) bs) (aN (fa25 45)),rB pH5 K3.head cH8,rB (aM (aE 1 (aE 0 (fa25 46)))) K3.a (aN (aE 1 (aE 0 (fa25 46)))),rB (aM (aE 2 (aE 0 (fa25 46)))) K3.b (aN (aE 2 (aE 0 (fa25 46)))),pt b11 (.cells #[sB pH5 K3.head cH8,sB (aM (aE 1 (aE 0 (fa25 46)))) K3.a (aN (aE 1 (aE 0 (fa25 46)))),sB (aM (aE 2 (aE 0 (fa25 46)))) K3.b (aN (aE 2 (aE 0 (fa25 46)))),Ix (K3.power)] 32)]) (by show [pt b2 (.cells #[.slice none 0 0,.slice none 0 0,.slice none 0 0,.int .i64 (0),.int .i64 (0),.int .i64 (0),.slice none 0 0,.slice none 0 0,.int .i64 (0),.bool false] 56),pt b1 (.cells #[sB vha k.head (vhc),sB vaa k.a (vac),sB vba k.b (vbc),Ix (k.power),Nx (i.epoch),Nx (i.next),sB ps i.state cs,sB pr i.recs (cr),Nx (i.size),.bool false] 56),rB (aM (fa25 45)) (aD ((i.epoch+1:Nat):Int) ((i.next:Nat):Int) bs) (aN (fa25 45)),rB pH5 K2.head cH8,rB (aM (aE 1 (aE 0 (fa25 46)))) K2.a (aN (aE 1 (aE 0 (fa25 46)))),rB (aM (aE 2 (aE 0 (fa25 46)))) K2.b (aN (aE 2 (aE 0 (fa25 46)))),pt b11 (.cells #[sB pH5 K2.head cH8,sB (aM (aE 1 (aE 0 (fa25 46)))) K2.a (aN (aE 1 (aE 0 (fa25 46)))),sB (aM (aE 2 (aE 0 (fa25 46)))) K2.b (aN (aE 2 (aE 0 (fa25 46)))),Ix (K2.power)] 32)]=_;rw[←e3]) ?_
    exact bT ⟨_,_,⟨rfl,rfl,rfl,rfl,rfl⟩,rfl⟩
   rintro f0 L0 ⟨pH3,cH3,⟨hs1,hs2,hs4,hs6,hs7⟩,hL⟩
   subst L0
   refine dG 1 hs1 ?_
   refine dG 2 hs2 ?_
   refine dG 4 hs4 ?_
   refine dG 6 hs6 ?_
   refine dG 7 hs7 ?_
   have hf3:K3.fits (524288+(aD ((i.epoch+1:Nat):Int) i.next bs).length):=by rw[hK3];unfold lY;simp only;rw[e2];split;exact rK hf2 (by simp);exact hf2
   refine rF [sv 58 (.agg #[sB pH3 K3.head cH3,sB (aM (aE 1 (aE 0 (fa25 46)))) K3.a (aN (aE 1 (aE 0 (fa25 46)))),sB (aM (aE 2 (aE 0 (fa25 46)))) K3.b (aN (aE 2 (aE 0 (fa25 46)))),Ix (K3.power)]) [] [] [0],sv 59 (Nx (i.epoch+1)) [] [] [1],sv 60 (Nx ((i.epoch+1)%2)) [1] [1] [],sv 61 (Nx (((i.epoch+1)%2)*16)) [1,2] [2] [],sv 62 (Nx (i.epoch+1)) [] [] [1],⟨[4],[4],[],[63],fun f=>f 63=sB (aM (f 63)) (be 8 (U ((i.epoch+1:Nat):Int))++be 8 (bF ((i.epoch+1:Nat):Int))) (aN (f 63))⟩,⟨(List.range 6),[0,3,5],[],[64],fun f=>f 64= .tuple #[.agg #[sB (aM (aE 0 (aE 0 (f 64)))) ((iV K3 (((i.epoch+1)%2)*16) (be 8 (U ((i.epoch+1:Nat):Int))++be 8 (bF ((i.epoch+1:Nat):Int)))).head) (aN (aE 0 (aE 0 (f 64)))),sB (aM (aE 1 (aE 0 (fa25 46)))) ((iV K3 (((i.epoch+1)%2)*16) (be 8 (U ((i.epoch+1:Nat):Int))++be 8 (bF ((i.epoch+1:Nat):Int)))).a) (aN (aE 1 (aE 0 (fa25 46)))),sB (aM (aE 2 (aE 0 (fa25 46)))) ((iV K3 (((i.epoch+1)%2)*16) (be 8 (U ((i.epoch+1:Nat):Int))++be 8 (bF ((i.epoch+1:Nat):Int)))).b) (aN (aE 2 (aE 0 (fa25 46)))),Ix ((iV K3 (((i.epoch+1)%2)*16) (be 8 (U ((i.epoch+1:Nat):Int))++be 8 (bF ((i.epoch+1:Nat):Int)))).power)],.bool (decide (¬eI K3.power (be 8 (U ((i.epoch+1:Nat):Int))++be 8 (bF ((i.epoch+1:Nat):Int)))))]⟩,⟨(List.range 7),[6],[],[57,64],fun f=>f 57= .tuple #[.agg #[sB (aM (aE 0 (aE 0 (f 64)))) ((iV K3 (((i.epoch+1)%2)*16) (be 8 (U ((i.epoch+1:Nat):Int))++be 8 (bF ((i.epoch+1:Nat):Int)))).head) (aN (aE 0 (aE 0 (f 64)))),sB (aM (aE 1 (aE 0 (fa25 46)))) ((iV K3 (((i.epoch+1)%2)*16) (be 8 (U ((i.epoch+1:Nat):Int))++be 8 (bF ((i.epoch+1:Nat):Int)))).a) (aN (aE 1 (aE 0 (fa25 46)))),sB (aM (aE 2 (aE 0 (fa25 46)))) ((iV K3 (((i.epoch+1)%2)*16) (be 8 (U ((i.epoch+1:Nat):Int))++be 8 (bF ((i.epoch+1:Nat):Int)))).b) (aN (aE 2 (aE 0 (fa25 46)))),Ix ((iV K3 (((i.epoch+1)%2)*16) (be 8 (U ((i.epoch+1:Nat):Int))++be 8 (bF ((i.epoch+1:Nat):Int)))).power)],.bool (decide (¬eI K3.power (be 8 (U ((i.epoch+1:Nat):Int))++be 8 (bF ((i.epoch+1:Nat):Int)))))]⟩,⟨(List.range 8),[7],[],[64,65],fun f=>f 65= .agg #[sB (aM (aE 0 (aE 0 (f 64)))) ((iV K3 (((i.epoch+1)%2)*16) (be 8 (U ((i.epoch+1:Nat):Int))++be 8 (bF ((i.epoch+1:Nat):Int)))).head) (aN (aE 0 (aE 0 (f 64)))),sB (aM (aE 1 (aE 0 (fa25 46)))) ((iV K3 (((i.epoch+1)%2)*16) (be 8 (U ((i.epoch+1:Nat):Int))++be 8 (bF ((i.epoch+1:Nat):Int)))).a) (aN (aE 1 (aE 0 (fa25 46)))),sB (aM (aE 2 (aE 0 (fa25 46)))) ((iV K3 (((i.epoch+1)%2)*16) (be 8 (U ((i.epoch+1:Nat):Int))++be 8 (bF ((i.epoch+1:Nat):Int)))).b) (aN (aE 2 (aE 0 (fa25 46)))),Ix ((iV K3 (((i.epoch+1)%2)*16) (be 8 (U ((i.epoch+1:Nat):Int))++be 8 (bF ((i.epoch+1:Nat):Int)))).power)]⟩,sv 66 (.bool (decide (¬eI K3.power (be 8 (U ((i.epoch+1:Nat):Int))++be 8 (bF ((i.epoch+1:Nat):Int)))))) (List.range 8) [7] [],⟨(List.range 9),[8],[0],[],fun _=>True⟩,sv 8 (.bool (decide (¬eI K3.power (be 8 (U ((i.epoch+1:Nat):Int))++be 8 (bF ((i.epoch+1:Nat):Int)))))) (List.range 11) [9] []] [u0,u0,u0,(some 6,[6]),(some 6,[6]),(some 6,[6]),(some 10,[0,10])] [⟨(some 5),none,[6],[63],fun f=>rB (aM (f 63)) (be 8 (U ((i.epoch+1:Nat):Int))++be 8 (bF ((i.epoch+1:Nat):Int))) (aN (f 63))⟩,⟨(some 6),none,[],[64],fun f=>rB (aM (aE 0 (aE 0 (f 64)))) ((iV K3 (((i.epoch+1)%2)*16) (be 8 (U ((i.epoch+1:Nat):Int))++be 8 (bF ((i.epoch+1:Nat):Int)))).head) (aN (aE 0 (aE 0 (f 64))))⟩,⟨(some 6),none,[],[],fun _=>rB (aM (aE 1 (aE 0 (fa25 46)))) ((iV K3 (((i.epoch+1)%2)*16) (be 8 (U ((i.epoch+1:Nat):Int))++be 8 (bF ((i.epoch+1:Nat):Int)))).a) (aN (aE 1 (aE 0 (fa25 46))))⟩,⟨(some 6),none,[],[],fun _=>rB (aM (aE 2 (aE 0 (fa25 46)))) ((iV K3 (((i.epoch+1)%2)*16) (be 8 (U ((i.epoch+1:Nat):Int))++be 8 (bF ((i.epoch+1:Nat):Int)))).b) (aN (aE 2 (aE 0 (fa25 46))))⟩,⟨(some 10),none,[],[64],fun f=>pt b11 (.cells #[sB (aM (aE 0 (aE 0 (f 64)))) ((iV K3 (((i.epoch+1)%2)*16) (be 8 (U ((i.epoch+1:Nat):Int))++be 8 (bF ((i.epoch+1:Nat):Int)))).head) (aN (aE 0 (aE 0 (f 64)))),sB (aM (aE 1 (aE 0 (fa25 46)))) ((iV K3 (((i.epoch+1)%2)*16) (be 8 (U ((i.epoch+1:Nat):Int))++be 8 (bF ((i.epoch+1:Nat):Int)))).a) (aN (aE 1 (aE 0 (fa25 46)))),sB (aM (aE 2 (aE 0 (fa25 46)))) ((iV K3 (((i.epoch+1)%2)*16) (be 8 (U ((i.epoch+1:Nat):Int))++be 8 (bF ((i.epoch+1:Nat):Int)))).b) (aN (aE 2 (aE 0 (fa25 46)))),Ix ((iV K3 (((i.epoch+1)%2)*16) (be 8 (U ((i.epoch+1:Nat):Int))++be 8 (bF ((i.epoch+1:Nat):Int)))).power)] 32)⟩] [(7,pp b11 0),(6,Nx (i.epoch+1)),(1,sB va bs (vc)),(2,pp b1 0),(4,pp b2 0)] [2,3,4,1,0] ⟨rfl,rfl,rfl,rfl,rfl,trivial⟩ ⟨?_,?_,?_,?_,?_,?_,?_,?_,?_,?_,?_,?_,trivial⟩ ?_
   ·rintro f M-⟨i0,-⟩
    exact bK (dO 0)
   ·rintro f M-⟨i0,-⟩
    exact bK bG
   ·rintro f M ⟨k0,-⟩-
    exact nA (aA (d:=59) rfl k0) rfl (gJ (a:=((i.epoch+1:Nat):Int)) (b:=(2:Int)) rfl rfl (by decide) (eC _ 2)) (.refl _)
   ·rintro f M ⟨k0,-⟩-
    exact nA (aA (d:=60) rfl k0) rfl (iC (a:=(((i.epoch+1)%2:Nat):Int)) (b:=(16:Int)) rfl rfl (bU (by omega) (by omega))) (.refl _)
   ·rintro f M-⟨i0,-⟩
    exact bK bG
   ·rintro f M ⟨k0,-⟩-
    refine fF (aA (d:=62) rfl k0) ?_
    refine jH (cY (vs:=[Nx (i.epoch+1)]) sO.ok rfl rfl) rfl fun w β1 sb kn hw1 back=>(qL β1 w hw1 ((i.epoch+1:Nat):Int)).mono ?_
    rintro e w' ⟨p31,c32,rfl,hw'⟩
    refine⟨_,rfl,_,back _ _ hw',?_⟩
    refine aG ?_
    exact aI (aA (d:=62) rfl k0) rfl (aB 0 rfl)
   ·rintro f M ⟨k0,k1,k2,-⟩-
    have hs63:f 63=sB (aM (f 63)) (be 8 (U ((i.epoch+1:Nat):Int))++be 8 (bF ((i.epoch+1:Nat):Int))) (aN (f 63)):=k2
    refine fF (aA (aA (d:=61) (aA (d:=58) rfl k0) k1) hs63) ?_
    refine bP rfl rfl rfl (cY (vs:=[.agg #[sB pH3 K3.head cH3,sB (aM (aE 1 (aE 0 (fa25 46)))) K3.a (aN (aE 1 (aE 0 (fa25 46)))),sB (aM (aE 2 (aE 0 (fa25 46)))) K3.b (aN (aE 2 (aE 0 (fa25 46)))),Ix (K3.power)],.int .i64 (2),Nx (((i.epoch+1)%2)*16),sB (aM (f 63)) (be 8 (U ((i.epoch+1:Nat):Int))++be 8 (bF ((i.epoch+1:Nat):Int))) (aN (f 63))]) aGd.ok rfl rfl) ?_
    intro w hw
    obtain⟨β1,sb,kn,hw1,back⟩:=St.frame (L:=[_,_,_]) (M:=_::M) hw
    refine(aAn β1 w pH3 (aM (aE 1 (aE 0 (fa25 46)))) (aM (aE 2 (aE 0 (fa25 46)))) cH3 (aN (aE 1 (aE 0 (fa25 46)))) (aN (aE 2 (aE 0 (fa25 46)))) K3 (aEf hf3 (by omega)) (((i.epoch+1)%2)*16) (by omega) (be 8 (U ((i.epoch+1:Nat):Int))++be 8 (bF ((i.epoch+1:Nat):Int))) _ (by first|omega|(simp only[List.length_append,aL];omega)) (kU kn 0 rfl) hw1).mono ?_
    rintro e w' ⟨p35,c36,rfl,hw'⟩
    refine⟨_,rfl,_,back _ _ hw',?_⟩
    refine aG ?_
    exact aI (aA (aA (d:=61) (aA (d:=58) rfl k0) k1) hs63) rfl ((((aB 2 rfl).trans (aB 2 rfl)).trans (aB 2 rfl)).trans (aB 3 rfl))
   ·rintro f M ⟨k0,-⟩-
    have hs64:f 64= .tuple #[.agg #[sB (aM (aE 0 (aE 0 (f 64)))) ((iV K3 (((i.epoch+1)%2)*16) (be 8 (U ((i.epoch+1:Nat):Int))++be 8 (bF ((i.epoch+1:Nat):Int)))).head) (aN (aE 0 (aE 0 (f 64)))),sB (aM (aE 1 (aE 0 (fa25 46)))) ((iV K3 (((i.epoch+1)%2)*16) (be 8 (U ((i.epoch+1:Nat):Int))++be 8 (bF ((i.epoch+1:Nat):Int)))).a) (aN (aE 1 (aE 0 (fa25 46)))),sB (aM (aE 2 (aE 0 (fa25 46)))) ((iV K3 (((i.epoch+1)%2)*16) (be 8 (U ((i.epoch+1:Nat):Int))++be 8 (bF ((i.epoch+1:Nat):Int)))).b) (aN (aE 2 (aE 0 (fa25 46)))),Ix ((iV K3 (((i.epoch+1)%2)*16) (be 8 (U ((i.epoch+1:Nat):Int))++be 8 (bF ((i.epoch+1:Nat):Int)))).power)],.bool (decide (¬eI K3.power (be 8 (U ((i.epoch+1:Nat):Int))++be 8 (bF ((i.epoch+1:Nat):Int)))))]:=k0
    exact bK iK
   ·rintro f M ⟨k0,-⟩-
    have hs57:f 57= .tuple #[.agg #[sB (aM (aE 0 (aE 0 (f 64)))) ((iV K3 (((i.epoch+1)%2)*16) (be 8 (U ((i.epoch+1:Nat):Int))++be 8 (bF ((i.epoch+1:Nat):Int)))).head) (aN (aE 0 (aE 0 (f 64)))),sB (aM (aE 1 (aE 0 (fa25 46)))) ((iV K3 (((i.epoch+1)%2)*16) (be 8 (U ((i.epoch+1:Nat):Int))++be 8 (bF ((i.epoch+1:Nat):Int)))).a) (aN (aE 1 (aE 0 (fa25 46)))),sB (aM (aE 2 (aE 0 (fa25 46)))) ((iV K3 (((i.epoch+1)%2)*16) (be 8 (U ((i.epoch+1:Nat):Int))++be 8 (bF ((i.epoch+1:Nat):Int)))).b) (aN (aE 2 (aE 0 (fa25 46)))),Ix ((iV K3 (((i.epoch+1)%2)*16) (be 8 (U ((i.epoch+1:Nat):Int))++be 8 (bF ((i.epoch+1:Nat):Int)))).power)],.bool (decide (¬eI K3.power (be 8 (U ((i.epoch+1:Nat):Int))++be 8 (bF ((i.epoch+1:Nat):Int)))))]:=k0
    exact bK mV
   ·rintro f M ⟨k0,-⟩-
    have hs57:f 57= .tuple #[.agg #[sB (aM (aE 0 (aE 0 (f 64)))) ((iV K3 (((i.epoch+1)%2)*16) (be 8 (U ((i.epoch+1:Nat):Int))++be 8 (bF ((i.epoch+1:Nat):Int)))).head) (aN (aE 0 (aE 0 (f 64)))),sB (aM (aE 1 (aE 0 (fa25 46)))) ((iV K3 (((i.epoch+1)%2)*16) (be 8 (U ((i.epoch+1:Nat):Int))++be 8 (bF ((i.epoch+1:Nat):Int)))).a) (aN (aE 1 (aE 0 (fa25 46)))),sB (aM (aE 2 (aE 0 (fa25 46)))) ((iV K3 (((i.epoch+1)%2)*16) (be 8 (U ((i.epoch+1:Nat):Int))++be 8 (bF ((i.epoch+1:Nat):Int)))).b) (aN (aE 2 (aE 0 (fa25 46)))),Ix ((iV K3 (((i.epoch+1)%2)*16) (be 8 (U ((i.epoch+1:Nat):Int))++be 8 (bF ((i.epoch+1:Nat):Int)))).power)],.bool (decide (¬eI K3.power (be 8 (U ((i.epoch+1:Nat):Int))++be 8 (bF ((i.epoch+1:Nat):Int)))))]:=k0
    exact bK xT
   ·rintro f M ⟨k0,-⟩ ⟨i0,-⟩
    have hs65:f 65= .agg #[sB (aM (aE 0 (aE 0 (f 64)))) ((iV K3 (((i.epoch+1)%2)*16) (be 8 (U ((i.epoch+1:Nat):Int))++be 8 (bF ((i.epoch+1:Nat):Int)))).head) (aN (aE 0 (aE 0 (f 64)))),sB (aM (aE 1 (aE 0 (fa25 46)))) ((iV K3 (((i.epoch+1)%2)*16) (be 8 (U ((i.epoch+1:Nat):Int))++be 8 (bF ((i.epoch+1:Nat):Int)))).a) (aN (aE 1 (aE 0 (fa25 46)))),sB (aM (aE 2 (aE 0 (fa25 46)))) ((iV K3 (((i.epoch+1)%2)*16) (be 8 (U ((i.epoch+1:Nat):Int))++be 8 (bF ((i.epoch+1:Nat):Int)))).b) (aN (aE 2 (aE 0 (fa25 46)))),Ix ((iV K3 (((i.epoch+1)%2)*16) (be 8 (U ((i.epoch+1:Nat):Int))++be 8 (bF ((i.epoch+1:Nat):Int)))).power)]:=k0
    refine fF (aA (aA (d:=7) rfl i0) hs65) ?_
    refine lu (mS 0 (#[sB (aM (aE 0 (aE 0 (f 64)))) ((iV K3 (((i.epoch+1)%2)*16) (be 8 (U ((i.epoch+1:Nat):Int))++be 8 (bF ((i.epoch+1:Nat):Int)))).head) (aN (aE 0 (aE 0 (f 64)))),sB (aM (aE 1 (aE 0 (fa25 46)))) ((iV K3 (((i.epoch+1)%2)*16) (be 8 (U ((i.epoch+1:Nat):Int))++be 8 (bF ((i.epoch+1:Nat):Int)))).a) (aN (aE 1 (aE 0 (fa25 46)))),sB (aM (aE 2 (aE 0 (fa25 46)))) ((iV K3 (((i.epoch+1)%2)*16) (be 8 (U ((i.epoch+1:Nat):Int))++be 8 (bF ((i.epoch+1:Nat):Int)))).b) (aN (aE 2 (aE 0 (fa25 46)))),Ix ((iV K3 (((i.epoch+1)%2)*16) (be 8 (U ((i.epoch+1:Nat):Int))++be 8 (bF ((i.epoch+1:Nat):Int)))).power)])) ?_
    refine aG ?_
    exact cT (aA (aA (d:=7) rfl i0) hs65) trivial (aB 0 rfl)
   ·rintro f M ⟨k0,-⟩-
    exact bK eE
   rintro fa37 ⟨-,-,-,-,-,-,-,-,-,-,-,k11,-⟩ ⟨j0,j1,j2,j3,j4,-⟩
   refine rL ?_
   refine aJ (d:=1) j0 ?_
   refine aJ (d:=2) j1 ?_
   refine aJ (d:=4) j2 ?_
   refine aJ (d:=6) j3 ?_
   refine aJ (d:=7) j4 ?_
   refine aJ (d:=8) k11 ?_
   refine zT ?_
   obtain⟨K4,hK4⟩:∃z,z=(iV K3 (((i.epoch+1)%2)*16) (be 8 (U ((i.epoch+1:Nat):Int))++be 8 (bF ((i.epoch+1:Nat):Int)))):=⟨_,rfl⟩
   refine lR (L':=[pt b2 (.cells #[.slice none 0 0,.slice none 0 0,.slice none 0 0,.int .i64 (0),.int .i64 (0),.int .i64 (0),.slice none 0 0,.slice none 0 0,.int .i64 (0),.bool false] 56),pt b1 (.cells #[sB vha k.head (vhc),sB vaa k.a (vac),sB vba k.b (vbc),Ix (k.power),Nx (i.epoch),Nx (i.next),sB ps i.state cs,sB pr i.recs (cr),Nx (i.size),.bool false] 56),rB (aM (fa25 45)) (aD ((i.epoch+1:Nat):Int) ((i.next:Nat):Int) bs) (aN (fa25 45)),rB (aM (fa37 63)) (be 8 (U ((i.epoch+1:Nat):Int))++be 8 (bF ((i.epoch+1:Nat):Int))) (aN (fa37 63)),rB (aM (aE 0 (aE 0 (fa37 64)))) K4.head (aN (aE 0 (aE 0 (fa37 64)))),rB (aM (aE 1 (aE 0 (fa25 46)))) K4.a (aN (aE 1 (aE 0 (fa25 46)))),rB (aM (aE 2 (aE 0 (fa25 46)))) K4.b (aN (aE 2 (aE 0 (fa25 46)))),pt b11 (.cells #[sB (aM (aE 0 (aE 0 (fa37 64)))) K4.head (aN (aE 0 (aE 0 (fa37 64)))),sB (aM (aE 1 (aE 0 (fa25 46)))) K4.a (aN (aE 1 (aE 0 (fa25 46)))),sB (aM (aE 2 (aE 0 (fa25 46)))) K4.b (aN (aE 2 (aE 0 (fa25 46)))),Ix (K4.power)] 32)]) (by show [pt b2 (.cells #[.slice none 0 0,.slice none 0 0,.slice none 0 0,.int .i64 (0),.int .i64 (0),.int .i64 (0),.slice none 0 0,.slice none 0 0,.int .i64 (0),.bool false] 56),pt b1 (.cells #[sB vha k.head (vhc),sB vaa k.a (vac),sB vba k.b (vbc),Ix (k.power),Nx (i.epoch),Nx (i.next),sB ps i.state cs,sB pr i.recs (cr),Nx (i.size),.bool false] 56),rB (aM (fa25 45)) (aD ((i.epoch+1:Nat):Int) ((i.next:Nat):Int) bs) (aN (fa25 45)),rB (aM (fa37 63)) (be 8 (U ((i.epoch+1:Nat):Int))++be 8 (bF ((i.epoch+1:Nat):Int))) (aN (fa37 63)),rB (aM (aE 0 (aE 0 (fa37 64)))) ((iV K3 (((i.epoch+1)%2)*16) (be 8 (U ((i.epoch+1:Nat):Int))++be 8 (bF ((i.epoch+1:Nat):Int)))).head) (aN (aE 0 (aE 0 (fa37 64)))),rB (aM (aE 1 (aE 0 (fa25 46)))) ((iV K3 (((i.epoch+1)%2)*16) (be 8 (U ((i.epoch+1:Nat):Int))++be 8 (bF ((i.epoch+1:Nat):Int)))).a) (aN (aE 1 (aE 0 (fa25 46)))),rB (aM (aE 2 (aE 0 (fa25 46)))) ((iV K3 (((i.epoch+1)%2)*16) (be 8 (U ((i.epoch+1:Nat):Int))++be 8 (bF ((i.epoch+1:Nat):Int)))).b) (aN (aE 2 (aE 0 (fa25 46)))),pt b11 (.cells #[sB (aM (aE 0 (aE 0 (fa37 64)))) ((iV K3 (((i.epoch+1)%2)*16) (be 8 (U ((i.epoch+1:Nat):Int))++be 8 (bF ((i.epoch+1:Nat):Int)))).head) (aN (aE 0 (aE 0 (fa37 64)))),sB (aM (aE 1 (aE 0 (fa25 46)))) ((iV K3 (((i.epoch+1)%2)*16) (be 8 (U ((i.epoch+1:Nat):Int))++be 8 (bF ((i.epoch+1:Nat):Int)))).a) (aN (aE 1 (aE 0 (fa25 46)))),sB (aM (aE 2 (aE 0 (fa25 46)))) ((iV K3 (((i.epoch+1)%2)*16) (be 8 (U ((i.epoch+1:Nat):Int))++be 8 (bF ((i.epoch+1:Nat):Int)))).b) (aN (aE 2 (aE 0 (fa25 46)))),Ix ((iV K3 (((i.epoch+1)%2)*16) (be 8 (U ((i.epoch+1:Nat):Int))++be 8 (bF ((i.epoch+1:Nat):Int)))).power)] 32)]=_;rw[hK4]) ?_
   have h1:lZ k (i.epoch+1):=Decidable.not_not.1 hc12
   have h2:pG k (i.epoch+1) i.next bs:=by have q:=Decidable.not_not.1 hc26;rw[hK1]at q;exact q
   have eK:iE k (i.epoch+1) i.next bs=K4:=by rw[iE,if_pos h1,if_pos h2,ck4,←hK3,hK4];rfl
   refine aC ?_
   refine lE (dO 7) ?_
   refine lE bM ?_
   refine lu (mS 1 (#[sB (aM (aE 0 (aE 0 (fa37 64)))) K4.head (aN (aE 0 (aE 0 (fa37 64)))),sB (aM (aE 1 (aE 0 (fa25 46)))) K4.a (aN (aE 1 (aE 0 (fa25 46)))),sB (aM (aE 2 (aE 0 (fa25 46)))) K4.b (aN (aE 2 (aE 0 (fa25 46)))),Ix (K4.power),Nx (i.epoch),Nx (i.next),sB ps i.state cs,sB pr i.recs (cr),Nx (i.size),.bool false])) ?_
   refine aW ?_
   refine dX ?_
   refine aC ?_
   refine lE dQ ?_
   refine aW ?_
   refine cK _ rfl (fun hc38=> ?_) (fun hc38=> ?_)
   ·refine cC ?_
    refine lE bM ?_
    refine lu (mS 1 (#[sB (aM (aE 0 (aE 0 (fa37 64)))) K4.head (aN (aE 0 (aE 0 (fa37 64)))),sB (aM (aE 1 (aE 0 (fa25 46)))) K4.a (aN (aE 1 (aE 0 (fa25 46)))),sB (aM (aE 2 (aE 0 (fa25 46)))) K4.b (aN (aE 2 (aE 0 (fa25 46)))),Ix (K4.power),Nx (i.epoch),Nx (i.next),sB ps i.state cs,sB pr i.recs (cr),Nx (i.size),.bool true])) ?_
    refine eJ ?_
    refine lE (dO 1) ?_
    refine lu (mS 0 (#[sB (aM (aE 0 (aE 0 (fa37 64)))) K4.head (aN (aE 0 (aE 0 (fa37 64)))),sB (aM (aE 1 (aE 0 (fa25 46)))) K4.a (aN (aE 1 (aE 0 (fa25 46)))),sB (aM (aE 2 (aE 0 (fa25 46)))) K4.b (aN (aE 2 (aE 0 (fa25 46)))),Ix (K4.power),Nx (i.epoch),Nx (i.next),sB ps i.state cs,sB pr i.recs (cr),Nx (i.size),.bool true])) ?_
    refine lE bV ?_
    refine aW ?_
    refine bB ?_
    refine aK ?_
    refine fH (m:=[.agg #[sB (aM (aE 0 (aE 0 (fa37 64)))) K4.head (aN (aE 0 (aE 0 (fa37 64)))),sB (aM (aE 1 (aE 0 (fa25 46)))) K4.a (aN (aE 1 (aE 0 (fa25 46)))),sB (aM (aE 2 (aE 0 (fa25 46)))) K4.b (aN (aE 2 (aE 0 (fa25 46)))),Ix (K4.power),Nx (i.epoch),Nx (i.next),sB ps i.state cs,sB pr i.recs (cr),Nx (i.size),.bool true],.int .i64 (310)]) Try.results25 ⟨bY jK.ok rfl (dM 0 rfl rfl) rfl,cN (v:= .int .i64 (310)) rfl,trivial⟩ rfl ?_
    intro w hw
    have h3:¬tS k (i.epoch+1) i.next bs:=by unfold tS;rw[←hK3];exact hc38
    have hw2:=aF [true,true,true,false,false,false,false,false] rfl (hw.perm (L':=[rB (aM (aE 0 (aE 0 (fa37 64)))) K4.head (aN (aE 0 (aE 0 (fa37 64)))),rB (aM (aE 1 (aE 0 (fa25 46)))) K4.a (aN (aE 1 (aE 0 (fa25 46)))),rB (aM (aE 2 (aE 0 (fa25 46)))) K4.b (aN (aE 2 (aE 0 (fa25 46)))),pt b2 (.cells #[sB (aM (aE 0 (aE 0 (fa37 64)))) K4.head (aN (aE 0 (aE 0 (fa37 64)))),sB (aM (aE 1 (aE 0 (fa25 46)))) K4.a (aN (aE 1 (aE 0 (fa25 46)))),sB (aM (aE 2 (aE 0 (fa25 46)))) K4.b (aN (aE 2 (aE 0 (fa25 46)))),Ix (K4.power),Nx (i.epoch),Nx (i.next),sB ps i.state cs,sB pr i.recs (cr),Nx (i.size),.bool true] 56),pt b1 (.cells #[sB (aM (aE 0 (aE 0 (fa37 64)))) K4.head (aN (aE 0 (aE 0 (fa37 64)))),sB (aM (aE 1 (aE 0 (fa25 46)))) K4.a (aN (aE 1 (aE 0 (fa25 46)))),sB (aM (aE 2 (aE 0 (fa25 46)))) K4.b (aN (aE 2 (aE 0 (fa25 46)))),Ix (K4.power),Nx (i.epoch),Nx (i.next),sB ps i.state cs,sB pr i.recs (cr),Nx (i.size),.bool true] 56),rB (aM (fa25 45)) (aD ((i.epoch+1:Nat):Int) ((i.next:Nat):Int) bs) (aN (fa25 45)),rB (aM (fa37 63)) (be 8 (U ((i.epoch+1:Nat):Int))++be 8 (bF ((i.epoch+1:Nat):Int))) (aN (fa37 63)),pt b11 (.cells #[sB (aM (aE 0 (aE 0 (fa37 64)))) K4.head (aN (aE 0 (aE 0 (fa37 64)))),sB (aM (aE 1 (aE 0 (fa25 46)))) K4.a (aN (aE 1 (aE 0 (fa25 46)))),sB (aM (aE 2 (aE 0 (fa25 46)))) K4.b (aN (aE 2 (aE 0 (fa25 46)))),Ix (K4.power)] 32)]) (by exact(bN [4,5,6,0,1,2,3,7] 8 rfl (by kernel_rfl) (by kernel_rfl))))
    rw[eK]
    exact .inl ⟨fun q=>h3 q.2.2,_,_,_,_,_,_,rfl,hw2⟩
   refine eT ?_
   refine aO ?_
   refine rF [sv 72 (Nx (i.epoch+1)) [] [] [0],sv 73 (pp b1 4) [] [] [1],sv 74 (pp b1 5) [1] [1] [],sv 75 (Nx (i.next)) [1,2] [2] [],⟨[],[],[],[76],fun f=>f 76= .slice (some ⟨(bI (f 76)),0,none⟩) 0 0⟩,sv 77 (sB va bs (vc)) [] [] [2],⟨[4,5],[4,5],[],[78],fun f=>f 78=sB (aM (f 78)) ([]++bs) (aN (f 78))⟩,sv 79 (sB va bs (vc)) [] [] [2],sv 80 (Nx (bs.length)) [7] [7] [],sv 81 (Nx (24+bs.length)) [7,8] [8] [],⟨(List.range 10),[0,3,6,9],[],[78,82],fun f=>f 82= .agg #[Nx (i.epoch+1),Nx (i.next),sB (aM (f 78)) ([]++bs) (aN (f 78)),.slice none 0 0,Nx (24+bs.length)]⟩,sv 83 (pp b1 4) (List.range 11) [] [1],⟨(List.range 12),[11,10],[],[],fun _=>True⟩] [u0,(some 12,[3,12])] [⟨(some 4),(some 6),[6],[76],fun f=>pt (bI (f 76)) (.cells #[] 5)⟩,⟨(some 6),none,[],[78],fun f=>rB (aM (f 78)) ([]++bs) (aN (f 78))⟩,⟨(some 12),none,[],[78],fun f=>pt b1 (.cells #[sB (aM (aE 0 (aE 0 (fa37 64)))) K4.head (aN (aE 0 (aE 0 (fa37 64)))),sB (aM (aE 1 (aE 0 (fa25 46)))) K4.a (aN (aE 1 (aE 0 (fa25 46)))),sB (aM (aE 2 (aE 0 (fa25 46)))) K4.b (aN (aE 2 (aE 0 (fa25 46)))),Ix (K4.power),Nx (i.epoch+1),Nx (i.next),sB (aM (f 78)) ([]++bs) (aN (f 78)),.slice none 0 0,Nx (24+bs.length),.bool false] 56)⟩] [(6,Nx (i.epoch+1)),(2,pp b1 0),(1,sB va bs (vc)),(4,pp b2 0)] [1,3] ⟨rfl,rfl,rfl,rfl,trivial⟩ ⟨?_,?_,?_,?_,?_,?_,?_,?_,?_,?_,?_,?_,?_,trivial⟩ ?_
   ·rintro f M-⟨i0,-⟩
    exact bK bG
   ·rintro f M-⟨i0,-⟩
    exact bK bM
   ·rintro f M ⟨k0,-⟩-
    exact bK bM
   ·rintro f M ⟨k0,-⟩-
    exact bK (eU 0)
   ·rintro f M- -
    refine fF rfl ?_
    refine cF rfl rfl rfl (iZ bQ) ?_
    rintro _ _ ⟨b40,rfl,rfl⟩
    refine aG ?_
    exact aI rfl rfl (aB 0 rfl)
   ·rintro f M-⟨i0,-⟩
    exact bK cX
   ·rintro f M ⟨k0,k1,-⟩-
    have hs76:f 76= .slice (some ⟨(bI (f 76)),0,none⟩) 0 0:=k0
    refine fF (aA (d:=77) (aA rfl hs76) k1) ?_
    refine iY 0 (r':=row (.slice (some ⟨(bI (f 76)),0,none⟩) 0 0) 5 1 0 (BX [])) rfl (fun a h=>jA (m:=0) (by decide) rfl a h) ?_
    refine cF rfl rfl rfl (cG (enc:=fun c:UInt8=>Bx c) 0 dJ bQ fV (v:= .slice (some ⟨(bI (f 76)),0,none⟩) 0 0) (xs:=[]) (ys:=bs) (ao:=va) (c:=vc) rfl rfl (by first|rfl|simp) rfl (by first|rfl|simp) (aX.of_base (bO.mono _ _ _) ve) (by first|omega|(simp only[List.length_append,List.length_nil,List.length_cons,aL]at*;omega)) (by first|omega|(simp only[List.length_append,List.length_nil,List.length_cons,aL]at*;omega))) ?_
    rintro _ _ ⟨rp43,rc44,rfl,rfl⟩
    refine aG ?_
    exact aI (aA (d:=77) (aA rfl hs76) k1) rfl (aB 0 rfl)
   ·rintro f M-⟨i0,-⟩
    exact bK cX
   ·rintro f M ⟨k0,-⟩-
    exact bK fC
   ·rintro f M ⟨k0,-⟩-
    exact nA (aA (d:=80) rfl k0) rfl (bJ (a:=(24:Int)) (b:=((bs.length:Nat):Int)) rfl rfl (bU (by omega) (by omega))) (.refl _)
   ·rintro f M ⟨k0,k1,k2,k3,-⟩-
    have hs78:f 78=sB (aM (f 78)) ([]++bs) (aN (f 78)):=k2
    exact nA (aA (d:=81) (aA (aA (d:=75) (aA (d:=72) rfl k0) k1) hs78) k3) rfl (dW aBl.ok aBm (vs:=[(0,Nx (i.epoch+1)),(1,Nx (i.next)),(2,sB (aM (f 78)) ([]++bs) (aN (f 78))),(4,Nx (24+bs.length))]) (cells:= #[Nx (i.epoch+1),Nx (i.next),sB (aM (f 78)) ([]++bs) (aN (f 78)),.slice none 0 0,Nx (24+bs.length)]) rfl rfl) (.refl _)
   ·rintro f M-⟨i0,-⟩
    exact bK bM
   ·rintro f M ⟨k0,k1,-⟩-
    have hs82:f 82= .agg #[Nx (i.epoch+1),Nx (i.next),sB (aM (f 78)) ([]++bs) (aN (f 78)),.slice none 0 0,Nx (24+bs.length)]:=k1
    refine fF (aA (aA (d:=83) rfl k0) hs82) ?_
    refine lu (mS 0 (#[sB (aM (aE 0 (aE 0 (fa37 64)))) K4.head (aN (aE 0 (aE 0 (fa37 64)))),sB (aM (aE 1 (aE 0 (fa25 46)))) K4.a (aN (aE 1 (aE 0 (fa25 46)))),sB (aM (aE 2 (aE 0 (fa25 46)))) K4.b (aN (aE 2 (aE 0 (fa25 46)))),Ix (K4.power),Nx (i.epoch+1),Nx (i.next),sB (aM (f 78)) ([]++bs) (aN (f 78)),.slice none 0 0,Nx (24+bs.length),.bool false])) ?_
    refine aG ?_
    exact cT (aA (aA (d:=83) rfl k0) hs82) trivial (aB 0 rfl)
   rintro fa45 ⟨-,-,-,-,-,-,-,-,-,-,-,-,-,-⟩ ⟨j0,j1,-⟩
   refine rL ?_
   refine aJ (d:=2) j0 ?_
   refine aJ (d:=4) j1 ?_
   refine qF ?_
   refine lE (dO 8) ?_
   refine lu (mS 0 (#[sB (aM (aE 0 (aE 0 (fa37 64)))) K4.head (aN (aE 0 (aE 0 (fa37 64)))),sB (aM (aE 1 (aE 0 (fa25 46)))) K4.a (aN (aE 1 (aE 0 (fa25 46)))),sB (aM (aE 2 (aE 0 (fa25 46)))) K4.b (aN (aE 2 (aE 0 (fa25 46)))),Ix (K4.power),Nx (i.epoch+1),Nx (i.next),sB (aM (fa45 78)) ([]++bs) (aN (fa45 78)),.slice none 0 0,Nx (24+bs.length),.bool false])) ?_
   refine lE bV ?_
   refine aW ?_
   refine bB ?_
   refine fH (m:=[.agg #[sB (aM (aE 0 (aE 0 (fa37 64)))) K4.head (aN (aE 0 (aE 0 (fa37 64)))),sB (aM (aE 1 (aE 0 (fa25 46)))) K4.a (aN (aE 1 (aE 0 (fa25 46)))),sB (aM (aE 2 (aE 0 (fa25 46)))) K4.b (aN (aE 2 (aE 0 (fa25 46)))),Ix (K4.power),Nx (i.epoch+1),Nx (i.next),sB (aM (fa45 78)) ([]++bs) (aN (fa45 78)),.slice none 0 0,Nx (24+bs.length),.bool false],.int .i64 (0)]) Try.results25 ⟨bY jK.ok rfl (dM 0 rfl rfl) rfl,cN (v:= .int .i64 (0)) rfl,trivial⟩ rfl ?_
   intro w hw
   have h3:tS k (i.epoch+1) i.next bs:=by unfold tS;rw[←hK3];exact Decidable.not_not.1 hc38
   have hw2:=aF [true,true,true,true,false,false,false,false,false] rfl (hw.perm (L':=[rB (aM (aE 0 (aE 0 (fa37 64)))) K4.head (aN (aE 0 (aE 0 (fa37 64)))),rB (aM (aE 1 (aE 0 (fa25 46)))) K4.a (aN (aE 1 (aE 0 (fa25 46)))),rB (aM (aE 2 (aE 0 (fa25 46)))) K4.b (aN (aE 2 (aE 0 (fa25 46)))),rB (aM (fa45 78)) ([]++bs) (aN (fa45 78)),pt b2 (.cells #[sB (aM (aE 0 (aE 0 (fa37 64)))) K4.head (aN (aE 0 (aE 0 (fa37 64)))),sB (aM (aE 1 (aE 0 (fa25 46)))) K4.a (aN (aE 1 (aE 0 (fa25 46)))),sB (aM (aE 2 (aE 0 (fa25 46)))) K4.b (aN (aE 2 (aE 0 (fa25 46)))),Ix (K4.power),Nx (i.epoch+1),Nx (i.next),sB (aM (fa45 78)) ([]++bs) (aN (fa45 78)),.slice none 0 0,Nx (24+bs.length),.bool false] 56),rB (aM (fa25 45)) (aD ((i.epoch+1:Nat):Int) ((i.next:Nat):Int) bs) (aN (fa25 45)),rB (aM (fa37 63)) (be 8 (U ((i.epoch+1:Nat):Int))++be 8 (bF ((i.epoch+1:Nat):Int))) (aN (fa37 63)),pt b11 (.cells #[sB (aM (aE 0 (aE 0 (fa37 64)))) K4.head (aN (aE 0 (aE 0 (fa37 64)))),sB (aM (aE 1 (aE 0 (fa25 46)))) K4.a (aN (aE 1 (aE 0 (fa25 46)))),sB (aM (aE 2 (aE 0 (fa25 46)))) K4.b (aN (aE 2 (aE 0 (fa25 46)))),Ix (K4.power)] 32),pt b1 (.cells #[sB (aM (aE 0 (aE 0 (fa37 64)))) K4.head (aN (aE 0 (aE 0 (fa37 64)))),sB (aM (aE 1 (aE 0 (fa25 46)))) K4.a (aN (aE 1 (aE 0 (fa25 46)))),sB (aM (aE 2 (aE 0 (fa25 46)))) K4.b (aN (aE 2 (aE 0 (fa25 46)))),Ix (K4.power),Nx (i.epoch+1),Nx (i.next),sB (aM (fa45 78)) ([]++bs) (aN (fa45 78)),.slice none 0 0,Nx (24+bs.length),.bool false] 56)]) (by exact(bN [3,4,5,7,0,1,2,6,8] 9 rfl (by kernel_rfl) (by kernel_rfl))))
   rw[eK]
   exact .inr ⟨⟨h1,h2,h3⟩,_,_,_,_,_,_,_,_,rfl,hw2⟩
  refine eT ?_
  refine aO ?_
  have h1:lZ k (i.epoch+1):=Decidable.not_not.1 hc12
  have h2:¬pG k (i.epoch+1) i.next bs:=by have q:=Decidable.not_not.1 hc26;rw[hK1]at q;exact q
  have eK:iE k (i.epoch+1) i.next bs=K2:=by rw[iE,if_pos h1,if_neg h2,e2]
  refine aC ?_
  refine lE (dO 6) ?_
  refine lE bM ?_
  refine lu (mS 1 (#[sB pH5 K2.head cH8,sB (aM (aE 1 (aE 0 (fa25 46)))) K2.a (aN (aE 1 (aE 0 (fa25 46)))),sB (aM (aE 2 (aE 0 (fa25 46)))) K2.b (aN (aE 2 (aE 0 (fa25 46)))),Ix (K2.power),Nx (i.epoch),Nx (i.next),sB ps i.state cs,sB pr i.recs (cr),Nx (i.size),.bool false])) ?_
  refine aW ?_
  refine dX ?_
  refine aC ?_
  refine lE dQ ?_
  refine aW ?_
  refine cK _ rfl (fun hc46=> ?_) (fun hc46=> ?_)
  ·refine cC ?_
   refine lE bM ?_
   refine lu (mS 1 (#[sB pH5 K2.head cH8,sB (aM (aE 1 (aE 0 (fa25 46)))) K2.a (aN (aE 1 (aE 0 (fa25 46)))),sB (aM (aE 2 (aE 0 (fa25 46)))) K2.b (aN (aE 2 (aE 0 (fa25 46)))),Ix (K2.power),Nx (i.epoch),Nx (i.next),sB ps i.state cs,sB pr i.recs (cr),Nx (i.size),.bool true])) ?_
   refine eJ ?_
   refine lE (dO 1) ?_
   refine lu (mS 0 (#[sB pH5 K2.head cH8,sB (aM (aE 1 (aE 0 (fa25 46)))) K2.a (aN (aE 1 (aE 0 (fa25 46)))),sB (aM (aE 2 (aE 0 (fa25 46)))) K2.b (aN (aE 2 (aE 0 (fa25 46)))),Ix (K2.power),Nx (i.epoch),Nx (i.next),sB ps i.state cs,sB pr i.recs (cr),Nx (i.size),.bool true])) ?_
   refine lE bV ?_
   refine aW ?_
   refine bB ?_
   refine aK ?_
   refine fH (m:=[.agg #[sB pH5 K2.head cH8,sB (aM (aE 1 (aE 0 (fa25 46)))) K2.a (aN (aE 1 (aE 0 (fa25 46)))),sB (aM (aE 2 (aE 0 (fa25 46)))) K2.b (aN (aE 2 (aE 0 (fa25 46)))),Ix (K2.power),Nx (i.epoch),Nx (i.next),sB ps i.state cs,sB pr i.recs (cr),Nx (i.size),.bool true],.int .i64 (310)]) Try.results25 ⟨bY jK.ok rfl (dM 0 rfl rfl) rfl,cN (v:= .int .i64 (310)) rfl,trivial⟩ rfl ?_
   intro w hw
   have hw2:=aF [true,true,true,false,false,false,false] rfl (hw.perm (L':=[rB pH5 K2.head cH8,rB (aM (aE 1 (aE 0 (fa25 46)))) K2.a (aN (aE 1 (aE 0 (fa25 46)))),rB (aM (aE 2 (aE 0 (fa25 46)))) K2.b (aN (aE 2 (aE 0 (fa25 46)))),pt b2 (.cells #[sB pH5 K2.head cH8,sB (aM (aE 1 (aE 0 (fa25 46)))) K2.a (aN (aE 1 (aE 0 (fa25 46)))),sB (aM (aE 2 (aE 0 (fa25 46)))) K2.b (aN (aE 2 (aE 0 (fa25 46)))),Ix (K2.power),Nx (i.epoch),Nx (i.next),sB ps i.state cs,sB pr i.recs (cr),Nx (i.size),.bool true] 56),pt b1 (.cells #[sB pH5 K2.head cH8,sB (aM (aE 1 (aE 0 (fa25 46)))) K2.a (aN (aE 1 (aE 0 (fa25 46)))),sB (aM (aE 2 (aE 0 (fa25 46)))) K2.b (aN (aE 2 (aE 0 (fa25 46)))),Ix (K2.power),Nx (i.epoch),Nx (i.next),sB ps i.state cs,sB pr i.recs (cr),Nx (i.size),.bool true] 56),rB (aM (fa25 45)) (aD ((i.epoch+1:Nat):Int) ((i.next:Nat):Int) bs) (aN (fa25 45)),pt b11 (.cells #[sB pH5 K2.head cH8,sB (aM (aE 1 (aE 0 (fa25 46)))) K2.a (aN (aE 1 (aE 0 (fa25 46)))),sB (aM (aE 2 (aE 0 (fa25 46)))) K2.b (aN (aE 2 (aE 0 (fa25 46)))),Ix (K2.power)] 32)]) (by exact(bN [3,4,5,0,1,2,6] 7 rfl (by kernel_rfl) (by kernel_rfl))))
   rw[eK]
   exact .inl ⟨fun q=>h2 q.2.1,_,_,_,_,_,_,rfl,hw2⟩
  exact absurd (Decidable.not_not.1 hc26) hc46
 refine eT ?_
 refine dX ?_
 refine aC ?_
 refine lE dQ ?_
 refine lE ond ?_
 refine aW ?_
 refine cK _ rfl (fun hc47=> ?_) (fun hc47=> ?_)
 ·exact absurd hc47 hc12
 refine eT ?_
 refine aO ?_
 have h1:¬lZ k (i.epoch+1):=Decidable.not_not.1 hc47
 have eK:iE k (i.epoch+1) i.next bs=K1:=by rw[iE,if_neg h1,hK1];exact(aDy h1).symm
 refine aC ?_
 refine lE (dO 0) ?_
 refine lE bM ?_
 refine lu (mS 5 (#[sB pH5 K1.head cH8,sB pA6 K1.a cA9,sB pB7 K1.b cB10,Ix (K1.power),Nx (i.epoch),Nx (i.next),sB ps i.state cs,sB pr i.recs (cr),Nx (i.size),.bool false])) ?_
 refine aW ?_
 refine dX ?_
 refine aC ?_
 refine lE dQ ?_
 refine aW ?_
 refine cK _ rfl (fun hc48=> ?_) (fun hc48=> ?_)
 ·refine cC ?_
  refine lE bM ?_
  refine lu (mS 5 (#[sB pH5 K1.head cH8,sB pA6 K1.a cA9,sB pB7 K1.b cB10,Ix (K1.power),Nx (i.epoch),Nx (i.next),sB ps i.state cs,sB pr i.recs (cr),Nx (i.size),.bool true])) ?_
  refine eJ ?_
  refine lE (dO 5) ?_
  refine lu (mS 4 (#[sB pH5 K1.head cH8,sB pA6 K1.a cA9,sB pB7 K1.b cB10,Ix (K1.power),Nx (i.epoch),Nx (i.next),sB ps i.state cs,sB pr i.recs (cr),Nx (i.size),.bool true])) ?_
  refine lE bV ?_
  refine aW ?_
  refine bB ?_
  refine aK ?_
  refine fH (m:=[.agg #[sB pH5 K1.head cH8,sB pA6 K1.a cA9,sB pB7 K1.b cB10,Ix (K1.power),Nx (i.epoch),Nx (i.next),sB ps i.state cs,sB pr i.recs (cr),Nx (i.size),.bool true],.int .i64 (310)]) Try.results25 ⟨bY jK.ok rfl (dM 4 rfl rfl) rfl,cN (v:= .int .i64 (310)) rfl,trivial⟩ rfl ?_
  intro w hw
  have hw2:=aF [true,true,true,false,false,false] rfl (hw.perm (L':=[rB pH5 K1.head cH8,rB pA6 K1.a cA9,rB pB7 K1.b cB10,pt b11 (.cells #[sB pH5 K1.head cH8,sB pA6 K1.a cA9,sB pB7 K1.b cB10,Ix (K1.power)] 32),pt b2 (.cells #[sB pH5 K1.head cH8,sB pA6 K1.a cA9,sB pB7 K1.b cB10,Ix (K1.power),Nx (i.epoch),Nx (i.next),sB ps i.state cs,sB pr i.recs (cr),Nx (i.size),.bool true] 56),pt b1 (.cells #[sB pH5 K1.head cH8,sB pA6 K1.a cA9,sB pB7 K1.b cB10,Ix (K1.power),Nx (i.epoch),Nx (i.next),sB ps i.state cs,sB pr i.recs (cr),Nx (i.size),.bool true] 56)]) (by exact(bN [1,2,3,0,4,5] 6 rfl (by kernel_rfl) (by kernel_rfl))))
  rw[eK]
  exact .inl ⟨fun q=>h1 q.1,_,_,_,_,_,_,rfl,hw2⟩
 exact absurd (Decidable.not_not.1 hc47) hc48
end Go.Proofs
