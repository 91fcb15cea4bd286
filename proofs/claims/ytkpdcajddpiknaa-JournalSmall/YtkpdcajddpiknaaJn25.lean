/-
 Own work; plain Lean (Jn23, Jn24, Jn25).
-/
import Derived.Test.YtkpdcajddpiknaaJnTl
set_option linter.all false
set_option maxHeartbeats 4000000
namespace Go.Proofs
open Go Go.Sl Go.Jn
theorem uQ{r:cE}{vH vA vB vS:Value}{pr:Option Addr}{cr:Nat}{us:List Value}{k:KS}{i:KI}{h:bR}(hs:kI [r,aAd vH vA vB vS pr cr us k i] h):kI [r,iT vH vA vB vS (sB pr i.recs cr) k i] h:=by
 obtain⟨a,b,hd,h1,h2,hr,c,d,hd2,h3,h4,hm,_⟩:=hs
 exact⟨a,b,hd,h1,h2,hr,c,d,hd2,h3,h4,aKa hm,trivial⟩
instance wD:CfC Try.prog 22:={}
instance aJg:CfC Try.prog 24:={}
instance aLc:CfC Try.prog 25:={}
theorem yY(β:Base)(w:World)(hw:St β [] w)(k:KS)(vh va vb:Value)(hH:Sl bE β.heap vh k.head)(hA:Sl bE β.heap va k.a)(hB:Sl bE β.heap vb k.b)(i:KI)(ps pr:Option Addr)(cs cr:Nat)(us:List Value)(hul:us.length=i.recs.length)(hus:Cs β.heap (ba pr) us)(hu1:us.all (·.oneCell')=true)(hpr:0<i.recs.length→pr=some (ba pr))(bs:Bs)(v:Value)(hs:Sl bE β.heap v bs)(hfit:k.fits 524288)(hB9:i.epoch≤4611686018427387904∧i.next≤4611686018427387904∧i.size≤1048576∧i.recs.length≤1048576)(hbl:bs.length≤65536)(hroom:(k.area i.epoch).length+24+bs.length≤262144)(hnx:i.next≠4611686018427387904)(hok:aBy k i bs):Calls Try.prog 24 #[.agg #[vh,va,vb,Ix k.power,Nx i.epoch,Nx i.next,sB ps i.state cs,sB pr i.recs cr,Nx i.size,.bool false],v] w fun r w'=>∃pH pA pB cH cA cB p c,r= .returned (.tuple #[.agg (rjC pH pA pB ps p cH cA cB cs c (gK k i bs) (hG i bs) false),Nx i.next,.int .i64 0])∧St β ([rB pH ((gK k i bs).head) cH,rB pA ((gK k i bs).a) cA,rB pB ((gK k i bs).b) cB]++[apR p c us i.recs.length bs]) w':=by
 refine(aHz β w hw k vh va vb hH hA hB i ps pr cs cr us hul hus hu1 hpr bs v hs hfit hB9 hbl hroom hnx hok).mono ?_
 rintro r w' ⟨pH,pA,pB,cH,cA,cB,p,c,q,cq,h1,h2⟩
 refine⟨pH,pA,pB,cH,cA,cB,p,c,?_,?_⟩
 ·rw[h1]
  have e:(hG i bs).recs.length=i.recs.length+1:=by simp[hG]
  show _=Ending.returned (.tuple #[.agg #[.slice pH (gK k i bs).head.length cH,.slice pA (gK k i bs).a.length cA,.slice pB (gK k i bs).b.length cB,Ix (gK k i bs).power,Nx i.epoch,Nx (i.next+1),.slice ps i.state.length cs,.slice p (hG i bs).recs.length c,Nx (i.size+(aD i.epoch i.next bs).length),.bool false],_,_])
  rw[e];rfl
 have h3:=h2.perm (L':=[row (.slice p (i.recs.length+1) c) 30 1 (i.recs.length+1) (us++[sB q bs cq]),rB q bs cq]++[rB pH ((gK k i bs).head) cH,rB pA ((gK k i bs).a) cA,rB pB ((gK k i bs).b) cB]) (bN [3,4,0,1,2] 5 rfl (by kernel_rfl) (by kernel_rfl))
 have h4:St β (apR p c us i.recs.length bs::[rB pH ((gK k i bs).head) cH,rB pA ((gK k i bs).a) cA,rB pB ((gK k i bs).b) cB]) w':=h3.merge fun a h=>⟨q,cq,h⟩
 exact h4.perm (bN [1,2,3,0] 4 rfl (by kernel_rfl) (by kernel_rfl))
theorem aFh(β:Base)(w:World)(hw:St β [] w)(k:KS)(vh va vb:Value)(hH:Sl bE β.heap vh k.head)(hA:Sl bE β.heap va k.a)(hB:Sl bE β.heap vb k.b)(i:KI)(ps pr:Option Addr)(cs cr:Nat)(bs:Bs)(v:Value)(hs:Sl bE β.heap v bs)(hfit:k.fits 524288)(hB9:i.epoch≤4611686018427387904∧i.next≤4611686018427387904∧i.size≤1048576∧i.recs.length≤1048576)(hbl:bs.length≤65536)(hne:i.epoch≠4611686018427387903)(hok:sU k (i.epoch+1) i.next bs):Calls Try.prog 25 #[.agg #[vh,va,vb,Ix k.power,Nx i.epoch,Nx i.next,sB ps i.state cs,sB pr i.recs cr,Nx i.size,.bool false],v] w fun r w'=>∃pH pA pB cH cA cB q cq,r= .returned (.tuple #[.agg (rjC pH pA pB q none cH cA cB cq 0 (iE k (i.epoch+1) i.next bs) (nF i bs) false),.int .i64 0])∧St β ([rB pH ((iE k (i.epoch+1) i.next bs).head) cH,rB pA ((iE k (i.epoch+1) i.next bs).a) cA,rB pB ((iE k (i.epoch+1) i.next bs).b) cB]++[rB q bs cq]) w':=by
 exact(aFg β w hw k vh va vb hH hA hB i ps pr cs cr bs v hs hfit hB9 hbl hne).mono fun r w' h=>h.elim (fun h=>absurd hok h.1) (fun h=>h.2)
open Go Go.Sl Go.Jn
theorem gY(β:Base)(w:World)(hw:St β [] w)(xh xa xb:Bs)(pw:Int)(vh va vb:Value)(hH:Sl bE β.heap vh xh)(hA:Sl bE β.heap va xa)(hB:Sl bE β.heap vb xb)(h1:xh.length≤1048576)(h2:xa.length≤1048576)(h3:xb.length≤1048576)(hpw:pw≤9223372036854775807):kH Try.prog 33 #[.agg #[vh,va,vb,Ix pw]] β w (.bool true):=by
 obtain⟨vha,vhc,rfl,vhl,vhm,vhe⟩:=hH.get
 obtain⟨vaa,vac,rfl,val,vam,vae⟩:=hA.get
 obtain⟨vba,vbc,rfl,vbl,vbm,vbe⟩:=hB.get
 refine enter (n:=45) Try.func33 rfl Try.ntmps33 rfl ?_ hw
 refine cC ?_
 refine pD fun b1=> ?_
 refine lE eE ?_
 refine aW ?_
 refine hO (fun(f:Fm) (L:List cE)=>∃ya:Bs,(f 1=pp b1 0∧f 2= .bool false)∧(bO bE β.heap vaa ya∧ya.length≤vac∧ya.length≤1048576)∧L=[pt b1 (.cells #[sB vha xh (vhc),sB vaa ya (vac),sB vba xb (vbc),Ix (pw)] 32)]) ?_ ?_
 ·refine cC ?_
  refine lE bM ?_
  refine lE (fA 0) ?_
  refine lE fC ?_
  refine lE qZ ?_
  refine aEo (decide ((400:Int)<((xa.length:Nat):Int))) (decide (((xa.length:Nat):Int)≤(262144:Int))) rfl (fun hb2 hk2=> ?_) (fun z3 z4 z5 z6=> ?_)
  ·have hb2p:=of_decide_eq_true hb2
   refine gE bM ?_
   refine gE (fA 0) ?_
   refine gE fC ?_
   refine gE ole ?_
   refine lE dY ?_
   exact hk2 _ _ _ _
  refine aW ?_
  refine yD (((decide ((400:Int)<((xa.length:Nat):Int)))&&(decide (((xa.length:Nat):Int)≤(262144:Int))))) rfl (fun hc7=> ?_) (fun hc7=> ?_)
  ·simp only[Bool.and_eq_true,decide_eq_true_eq]at hc7
   refine aC ?_
   refine lE bM ?_
   refine lE (fA 0) ?_
   obtain⟨zs8,hz9⟩:∃zs,zs=(xa.take 400):=⟨_,rfl⟩
   have zl10:zs8.length=min 400 (xa).length-0:=by rw[hz9];simp;try omega
   have ze11:=(bO.take 400 vae)
   rw[←hz9]at ze11
   refine lv (v:= .slice vaa (zs8.length) (vac)) (fE (by rw[show zs8.length=400 by omega]) (dF (a:=vaa) (len:=xa.length) (cap:=vac) (h:=400) bQ rfl rfl (by omega))) ?_
   refine lE bM ?_
   refine lu (mS 0 (#[sB vha xh (vhc),sB vaa zs8 (vac),sB vba xb (vbc),Ix (pw)])) ?_
   refine aG ?_
   exact bT ⟨zs8,⟨rfl,rfl⟩,⟨ze11,by omega,by omega⟩,rfl⟩
  refine cM ?_
  exact bT ⟨xa,⟨rfl,rfl⟩,⟨vae,by omega,by omega⟩,rfl⟩
 rintro f0 L0 ⟨ya,⟨hs1,hs2⟩,⟨heya,hlya,hmya⟩,hL⟩
 subst L0
 refine dG 1 hs1 ?_
 refine dG 2 hs2 ?_
 refine hO (fun(f:Fm) (L:List cE)=>∃yb:Bs,(f 1=pp b1 0∧f 2= .bool false)∧(bO bE β.heap vba yb∧yb.length≤vbc∧yb.length≤1048576)∧L=[pt b1 (.cells #[sB vha xh (vhc),sB vaa ya (vac),sB vba yb (vbc),Ix (pw)] 32)]) ?_ ?_
 ·refine cC ?_
  refine lE bM ?_
  refine lE (fA 0) ?_
  refine lE fC ?_
  refine lE qZ ?_
  refine aEo (decide ((400:Int)<((xb.length:Nat):Int))) (decide (((xb.length:Nat):Int)≤(262144:Int))) rfl (fun hb12 hk12=> ?_) (fun z13 z14 z15 z16=> ?_)
  ·have hb12p:=of_decide_eq_true hb12
   refine gE bM ?_
   refine gE (fA 0) ?_
   refine gE fC ?_
   refine gE ole ?_
   refine lE dY ?_
   exact hk12 _ _ _ _
  refine aW ?_
  refine yD (((decide ((400:Int)<((xb.length:Nat):Int)))&&(decide (((xb.length:Nat):Int)≤(262144:Int))))) rfl (fun hc17=> ?_) (fun hc17=> ?_)
  ·simp only[Bool.and_eq_true,decide_eq_true_eq]at hc17
   refine aC ?_
   refine lE bM ?_
   refine lE (fA 0) ?_
   obtain⟨zs18,hz19⟩:∃zs,zs=(xb.take 400):=⟨_,rfl⟩
   have zl20:zs18.length=min 400 (xb).length-0:=by rw[hz19];simp;try omega
   have ze21:=(bO.take 400 vbe)
   rw[←hz19]at ze21
   refine lv (v:= .slice vba (zs18.length) (vbc)) (fE (by rw[show zs18.length=400 by omega]) (dF (a:=vba) (len:=xb.length) (cap:=vbc) (h:=400) bQ rfl rfl (by omega))) ?_
   refine lE bM ?_
   refine lu (mS 0 (#[sB vha xh (vhc),sB vaa ya (vac),sB vba zs18 (vbc),Ix (pw)])) ?_
   refine aG ?_
   exact bT ⟨zs18,⟨rfl,rfl⟩,⟨ze21,by omega,by omega⟩,rfl⟩
  refine cM ?_
  exact bT ⟨xb,⟨rfl,rfl⟩,⟨vbe,by omega,by omega⟩,rfl⟩
 rintro f0 L0 ⟨yb,⟨hs1,hs2⟩,⟨heyb,hlyb,hmyb⟩,hL⟩
 subst L0
 refine dG 1 hs1 ?_
 refine dG 2 hs2 ?_
 refine aO ?_
 obtain⟨K,e1,e2,e3,e4⟩:∃K:KS,xh=K.head∧ya=K.a∧yb=K.b∧pw=K.power:=⟨⟨xh,ya,yb,pw⟩,rfl,rfl,rfl,rfl⟩
 subst e1;subst e2;subst e3;subst e4
 refine aC ?_
 refine lE (dO 0) ?_
 refine jH (cY (vs:=[.agg #[sB vha K.head (vhc),sB vaa K.a (vac),sB vba K.b (vbc),Ix (K.power)]]) qW.ok rfl rfl) rfl fun w β1 sb kn hw1 back=>(lB β1 w hw1 K _ _ _ (Sl.mono _ _ _ _ _ sb (⟨⟨_,_,rfl,vhl,vhm,vhe⟩⟩:Sl bE _ _ K.head)) (Sl.mono _ _ _ _ _ sb (⟨⟨_,_,rfl,hlya,vam,heya⟩⟩:Sl bE _ _ K.a)) (Sl.mono _ _ _ _ _ sb (⟨⟨_,_,rfl,hlyb,vbm,heyb⟩⟩:Sl bE _ _ K.b)) (by omega) (by omega) (by omega)).mono ?_
 rintro e w' ⟨pH22,pA23,pB24,cH25,cA26,cB27,rfl,hw'⟩
 refine⟨_,rfl,_,back _ _ hw',?_⟩
 refine lu (mS 3 (#[sB pH22 K.head cH25,sB pA23 K.a cA26,sB pB24 K.b cB27,Ix (K.power)])) ?_
 refine aW ?_
 refine aO ?_
 refine eG [3,0,1,2] 4 rfl (by kernel_rfl) ?_
 refine bW (S:=b1) (k:=K) (pH:=pH22) (pA:=pA23) (pB:=pB24) (cH:=cH25) (cA:=cA26) (cB:=cB27) (M:=([])) rfl ?_
 by_cases hok:K.okP
 ·cases hri:eW K with
  |none=>
   refine aC ?_
   refine bP rfl rfl rfl (cY (vs:=[pp b1 0]) wD.ok rfl rfl) ?_
   intro w hw
   obtain⟨β1,sb,kn,hw1,back⟩:=St.frame (L:=[_]) (M:=[]) hw
   refine(yV β1 w b1 K (by omega) (by omega) (by omega) hok hri hw1).mono ?_
   rintro e w' ⟨pH28,pA29,pB30,cH31,cA32,cB33,rfl,hw'⟩
   refine⟨_,rfl,_,back _ _ hw',?_⟩
   refine lE iK ?_
   refine lE zU ?_
   refine lE mV ?_
   refine lE xT ?_
   refine fZ fun b34=> ?_
   refine lE nV ?_
   refine lu (mS 0 (#[sB pH28 K.head cH31,sB pA29 K.a cA32,sB pB30 K.b cB33,Ix (K.power),Nx (zI.epoch),Nx (zI.next),sB none zI.state 0,sB none zI.recs 0,Nx (zI.size),.bool false])) ?_
   refine lE eE ?_
   refine eJ ?_
   iterate 2 refine lE dQ ?_
   refine eQ rfl rfl rfl rfl rfl (cY (vs:=[]) zL.ok rfl rfl) ?_
   intro w hw
   obtain⟨β1,sb,kn,hw1,back⟩:=St.frame_all hw
   refine(nL β1 w hw1).mono ?_
   rintro e w' ⟨rfl,hw'⟩
   refine⟨_,rfl,_,back _ _ hw',?_⟩
   refine lE dY ?_
   refine lE eE ?_
   refine aW ?_
   refine bB ?_
   refine dS Try.results33 rfl ?_
   intro w hw
   exact⟨rfl,aF [false,false,false] rfl hw⟩
  |some i=>
   by_cases hcut:cutOk (K.area i.epoch) K.power i.size
   ·
    refine aC ?_
    refine bP rfl rfl rfl (cY (vs:=[pp b1 0]) wD.ok rfl rfl) ?_
    intro w hw
    obtain⟨β1,sb,kn,hw1,back⟩:=St.frame (L:=[_]) (M:=[]) hw
    refine(rO β1 w b1 K (by omega) (by omega) (by omega) hok hpw i hri hcut hw1).mono ?_
    rintro e w' ⟨J41,pH35,pA36,pB37,cH38,cA39,cB40,ps42,cs43,pr44,cr45,rfl,hw'⟩
    refine⟨_,rfl,_,back _ _ hw',?_⟩
    refine lE iK ?_
    refine lE zU ?_
    refine lE mV ?_
    refine lE xT ?_
    refine fZ fun b46=> ?_
    refine lE nV ?_
    refine lu (mS 0 (#[sB pH35 ((aV K i.epoch i.size).head) cH38,sB pA36 ((aV K i.epoch i.size).a) cA39,sB pB37 ((aV K i.epoch i.size).b) cB40,Ix ((aV K i.epoch i.size).power),Nx (i.epoch),Nx (i.next),sB ps42 i.state cs43,sB pr44 i.recs cr45,Nx (i.size),.bool false])) ?_
    refine lE eE ?_
    refine eJ ?_
    iterate 2 refine lE dQ ?_
    refine eQ rfl rfl rfl rfl rfl (cY (vs:=[]) zL.ok rfl rfl) ?_
    intro w hw
    obtain⟨β1,sb,kn,hw1,back⟩:=St.frame_all hw
    refine(nL β1 w hw1).mono ?_
    rintro e w' ⟨rfl,hw'⟩
    refine⟨_,rfl,_,back _ _ hw',?_⟩
    refine lE dY ?_
    refine lE eE ?_
    refine aW ?_
    refine bB ?_
    refine dS Try.results33 rfl ?_
    intro w hw
    exact⟨rfl,aF [false,false,false,false] rfl hw⟩
   ·
    refine aC ?_
    refine bP rfl rfl rfl (cY (vs:=[pp b1 0]) wD.ok rfl rfl) ?_
    intro w hw
    obtain⟨β1,sb,kn,hw1,back⟩:=St.frame (L:=[_]) (M:=[]) hw
    refine(aAf β1 w b1 K (by omega) (by omega) (by omega) hok hpw i hri hcut hw1).mono ?_
    rintro e w' ⟨pH47,pA48,pB49,cH50,cA51,cB52,rfl,hw'⟩
    refine⟨_,rfl,_,back _ _ hw',?_⟩
    refine lE iK ?_
    refine lE zU ?_
    refine lE mV ?_
    refine lE xT ?_
    refine fZ fun b53=> ?_
    refine lE nV ?_
    refine lu (mS 0 (#[sB pH47 K.head cH50,sB pA48 K.a cA51,sB pB49 K.b cB52,Ix (K.power),Nx (zI.epoch),Nx (zI.next),sB none zI.state 0,sB none zI.recs 0,Nx (zI.size),.bool false])) ?_
    refine lE eE ?_
    refine eJ ?_
    iterate 2 refine lE dQ ?_
    refine eQ rfl rfl rfl rfl rfl (cY (vs:=[]) zL.ok rfl rfl) ?_
    intro w hw
    obtain⟨β1,sb,kn,hw1,back⟩:=St.frame_all hw
    refine(nL β1 w hw1).mono ?_
    rintro e w' ⟨rfl,hw'⟩
    refine⟨_,rfl,_,back _ _ hw',?_⟩
    refine lE dY ?_
    refine lE eE ?_
    refine aW ?_
    refine bB ?_
    refine dS Try.results33 rfl ?_
    intro w hw
    exact⟨rfl,aF [false,false,false] rfl hw⟩
 refine aC ?_
 refine bP rfl rfl rfl (cY (vs:=[pp b1 0]) wD.ok rfl rfl) ?_
 intro w hw
 obtain⟨β1,sb,kn,hw1,back⟩:=St.frame (L:=[_]) (M:=[]) hw
 refine(aAe β1 w b1 K (by omega) (by omega) (by omega) hok hw1).mono ?_
 rintro e w' ⟨pH54,pA55,pB56,cH57,cA58,cB59,rfl,hw'⟩
 refine⟨_,rfl,_,back _ _ hw',?_⟩
 refine lE iK ?_
 refine lE zU ?_
 refine lE mV ?_
 refine lE xT ?_
 refine fZ fun b60=> ?_
 refine lE nV ?_
 refine lu (mS 0 (#[sB pH54 K.head cH57,sB pA55 K.a cA58,sB pB56 K.b cB59,Ix (K.power),Nx (zI.epoch),Nx (zI.next),sB none zI.state 0,sB none zI.recs 0,Nx (zI.size),.bool false])) ?_
 refine lE eE ?_
 refine eJ ?_
 iterate 2 refine lE dQ ?_
 refine eQ rfl rfl rfl rfl rfl (cY (vs:=[]) zL.ok rfl rfl) ?_
 intro w hw
 obtain⟨β1,sb,kn,hw1,back⟩:=St.frame_all hw
 refine(nL β1 w hw1).mono ?_
 rintro e w' ⟨rfl,hw'⟩
 refine⟨_,rfl,_,back _ _ hw',?_⟩
 refine lE dY ?_
 refine lE eE ?_
 refine aW ?_
 refine bB ?_
 refine dS Try.results33 rfl ?_
 intro w hw
 exact⟨rfl,aF [false,false,false] rfl hw⟩
open Go Go.Sl Go.Jn
theorem aEq(β:Base)(w:World)(pH pA pB:Option Addr)(cH cA cB:Nat)(k:KS)(hok:k.okP)(hpw:k.power= -1)(i:KI)(hri:eW k=some i)(hL:Lst (aV k i.epoch i.size) i 75)(hw:St β [rB pH k.head cH,rB pA k.a cA,rB pB k.b cB] w):kH Try.prog 34 #[.agg #[sB pH k.head cH,sB pA k.a cA,sB pB k.b cB,Ix k.power]] β w (.bool true):=by
 refine enter (n:=109) Try.func34 rfl Try.ntmps34 rfl ?_ hw
 refine cC ?_
 refine pD fun b1=> ?_
 refine lE eE ?_
 refine aW ?_
 refine aO ?_
 refine eG [0,1,2,3] 4 rfl (by kernel_rfl) ?_
 refine bW (S:=b1) (k:=k) (pH:=pH) (pA:=pA) (pB:=pB) (cH:=cH) (cA:=cA) (cB:=cB) (M:=([])) rfl ?_
 have hl1:k.head.length≤1048576:=by unfold KS.okP at hok;omega
 have hl2:k.a.length≤1048576:=by unfold KS.okP at hok;omega
 have hl3:k.b.length≤1048576:=by unfold KS.okP at hok;omega
 refine aC ?_
 refine bP rfl rfl rfl (cY (vs:=[pp b1 0]) wD.ok rfl rfl) ?_
 intro w hw
 obtain⟨β1,sb,kn,hw1,back⟩:=St.frame (L:=[_]) (M:=[]) hw
 refine(rO β1 w b1 k hl1 hl2 hl3 hok (by rw[hpw];decide) i hri (.inr (by rw[hpw];decide)) hw1).mono ?_
 rintro e w' ⟨J8,pH2,pA3,pB4,cH5,cA6,cB7,ps9,cs10,pr11,cr12,rfl,hw'⟩
 refine⟨_,rfl,_,back _ _ hw',?_⟩
 refine lE iK ?_
 refine lE zU ?_
 refine lE mV ?_
 refine lE xT ?_
 refine fZ fun b13=> ?_
 refine lE nV ?_
 refine lu (mS 0 (#[sB pH2 ((aV k i.epoch i.size).head) cH5,sB pA3 ((aV k i.epoch i.size).a) cA6,sB pB4 ((aV k i.epoch i.size).b) cB7,Ix ((aV k i.epoch i.size).power),Nx (i.epoch),Nx (i.next),sB ps9 i.state cs10,sB pr11 i.recs cr12,Nx (i.size),.bool false])) ?_
 refine lE eE ?_
 refine aW ?_
 refine dX ?_
 refine aC ?_
 refine lE dQ ?_
 refine lE lI ?_
 refine lE dQ ?_
 refine gE eP ?_
 refine fN (v:= .bool false) rfl rfl rfl rfl rfl (eL (p:=some (⟨J8,0,none⟩)) rfl rfl rX) ?_
 refine lE cR ?_
 refine aW ?_
 refine dI rfl ?_
 refine eT ?_
 refine dX ?_
 refine aC ?_
 refine lE bG ?_
 refine aW ?_
 refine aY ?_
 refine eG [0,3,1,2] 4 rfl (by kernel_rfl) ?_
 refine kJ (K:=[pt b13 (.cells #[sB pH2 ((aV k i.epoch i.size).head) cH5,sB pA3 ((aV k i.epoch i.size).a) cA6,sB pB4 ((aV k i.epoch i.size).b) cB7,Ix ((aV k i.epoch i.size).power),Nx (i.epoch),Nx (i.next),sB ps9 i.state cs10,sB pr11 i.recs cr12,Nx (i.size),.bool false] 56),iT (sB pH2 (aV k i.epoch i.size).head cH5) (sB pA3 (aV k i.epoch i.size).a cA6) (sB pB4 (aV k i.epoch i.size).b cB7) (sB ps9 i.state cs10) (sB pr11 i.recs cr12) (aV k i.epoch i.size) i]) (F:=uI b13 (aV k i.epoch i.size) i false) rfl (fun _ h=>⟨_,_,_,_,_,_,_,_,_,_,h⟩) ?_
 refine eG [1,2,0] 3 rfl (by kernel_rfl) ?_
 refine kY [true,true,true] rfl ?_
 refine dV (fun(x_:Nat×KS×KI) f L=>match x_ with|(q,K,I)=>(f 1=pp b1 0∧f 3=pp J8 0∧f 4=pp b13 0∧f 28=Nx (q))∧L=[dC J8 b1 I false,aS b1 K,uI b13 K I false]∧(q≤8∧Lst K I (75+25*q))) (fun(q,K,I)=>8-q) (0,(aV k i.epoch i.size),i) ?_ ?_
 ·exact⟨⟨rfl,rfl,rfl,rfl⟩,rfl,⟨by omega,hL⟩⟩
 rintro⟨q,K,I⟩ f0 L0 ⟨⟨hs1,hs3,hs4,hs28⟩,hL,⟨hq,hL⟩⟩
 subst L0
 refine dG 1 hs1 ?_
 refine dG 3 hs3 ?_
 refine dG 4 hs4 ?_
 refine dG 28 hs28 ?_
 have hfit:=hL.fits (by omega)
 have hsz:=hL.sz
 have hrl:=hL.recsLen
 have he62:=hL.e62
 have hbig:=hL.wf.big
 have hsze:=hL.size
 refine cC ?_
 refine lE jI ?_
 refine aW ?_
 refine aO ?_
 refine cK _ rfl (fun hc14=> ?_) (fun hc14=> ?_)
 ·refine eT ?_
  refine aO ?_
  refine aY ?_
  refine aO ?_
  refine eG [2,0,1] 3 rfl (by kernel_rfl) ?_
  refine tO (B:=b13) (k:=K) (i:=I) (dn:=false) (M:=(dC J8 b1 I false::aS b1 K::[])) rfl (fun pH15 pA16 pB17 ps21 pr23 cH18 cA19 cB20 cs22 cr24 us hul hu1 hpr=> ?_)
  refine aC ?_
  refine lE bG ?_
  refine lE bV ?_
  refine eJ ?_
  refine lE bV ?_
  refine eJ ?_
  iterate 3 refine lE bV ?_
  refine aW ?_
  refine hO (fun(f:Fm) (L:List cE)=>∃(K2:KS) (I2:KI) (er nn:Int),(f 1=pp b1 0∧f 3=pp J8 0∧f 4=pp b13 0∧f 28=Nx (q))∧(f 7=Ix er∧f 8=Ix er∧f 9=Ix nn∧f 10=Ix nn)∧L=[dC J8 b1 I2 false,aS b1 K2,uI b13 K2 I2 false]∧Lst K2 I2 (75+25*(q+1))) ?_ ?_
  ·refine cC ?_
   refine lE bG ?_
   refine lv (v:=Bx (UInt8.ofNat q)) (cZ (a:=((q:Nat):Int)) rfl ⟨_,oD⟩ tM (aDp _)) ?_
   refine cF rfl rfl rfl (cO bQ iG.ok (cells:= #[Bx (UInt8.ofNat q)]) rfl rfl rfl rfl) ?_
   rintro _ _ ⟨b25,rfl,rfl⟩
   refine lE fR ?_
   refine eJ ?_
   refine lE bG ?_
   refine lv (v:=Nx (q%3)) (gJ (a:=((q:Nat):Int)) (b:=(3:Int)) rfl rfl (by decide) (eC _ 3)) ?_
   refine lE dR ?_
   refine aW ?_
   refine cK _ rfl (fun hc26=> ?_) (fun hc26=> ?_)
   ·refine aO ?_
    by_cases hx:I.epoch=4611686018427387903
    ·have hL2:=hL.mono (show 75+25*q≤75+25*(q+1) by omega)
     refine aC ?_
     refine lE eP ?_
     refine lE cX ?_
     refine bP rfl rfl rfl (cY (vs:=[pp J8 0,.slice (some ⟨b25,0,none⟩) 1 1]) zK.ok rfl rfl) ?_
     intro w hw
     replace hw:=hw.perm (L':=_::_::_::_::_::[]) (by exact(((((aB 4 rfl).trans (aB 3 rfl)).trans (aB 3 rfl)).trans (aB 3 rfl)).trans (aB 4 rfl)))
     obtain⟨β1,sb,kn,hw1,back⟩:=St.frame (L:=[_]) (M:=_::_::_::_::[]) hw
     refine(yG β1 w J8 b1 K I [(UInt8.ofNat q)] (by show 1≤65536;decide) hx _ (⟨⟨_,_,rfl,by simp,by simp,kn _ (fO 0 (xs:=[(UInt8.ofNat q)]) rfl)⟩⟩:Sl bE _ _ _) hw1).mono ?_
     rintro e w' ⟨rfl,hw'⟩
     refine⟨_,rfl,_,back _ _ hw',?_⟩
     refine lE bV ?_
     refine lnr ?_
     refine lE (dO 2) ?_
     refine lE cX ?_
     refine gW gU (fun w β1 sb kn hw1=>aCr β1 w hw1 K _ _ _ (kn _ (aX.of_res 3 rfl (Sl.mono bE _ _) fun _ h=>h.1)) (kn _ (aX.of_res 3 rfl (Sl.mono bE _ _) fun _ h=>h.2.1)) (kn _ (aX.of_res 3 rfl (Sl.mono bE _ _) fun _ h=>h.2.2.1)) I ps21 pr23 cs22 cr24 [(UInt8.ofNat q)] _ (⟨⟨_,_,rfl,by simp,by simp,kn _ (fO 1 (xs:=[(UInt8.ofNat q)]) rfl)⟩⟩:Sl bE _ _ _) (by show 1≤65536;decide) hx) ?_
     refine lE iK ?_
     refine lE mV ?_
     refine lE kK ?_
     refine lu (mS 2 (#[sB pH15 K.head cH18,sB pA16 K.a cA19,sB pB17 K.b cB20,Ix (K.power),Nx (I.epoch),Nx (I.next),sB ps21 I.state cs22,sB pr23 I.recs cr24,Nx (I.size),.bool false])) ?_
     refine lE bV ?_
     refine aG ?_
     refine qC [2,3,0,1,4] 5 rfl (by kernel_rfl) ?_
     refine rI (K:=[pt b13 (.cells #[sB pH15 K.head cH18,sB pA16 K.a cA19,sB pB17 K.b cB20,Ix (K.power),Nx (I.epoch),Nx (I.next),sB ps21 I.state cs22,sB pr23 I.recs cr24,Nx (I.size),.bool false] 56),sW pH15 pA16 pB17 ps21 pr23 cH18 cA19 cB20 cs22 cr24 us K I]) (F:=uI b13 K I false) rfl (fun _ h=>⟨_,_,_,_,_,_,_,_,_,_,uQ h⟩) ?_
     refine qC [1,3,0,2] 4 rfl (by kernel_rfl) ?_
     refine dL [true,true,true,false] rfl ?_
     exact bT ⟨K,I,(4:Int),(0:Int),⟨rfl,rfl,rfl,rfl⟩,⟨rfl,rfl,rfl,rfl⟩,rfl,hL2⟩
    have hL2:=hL.ck (bs:=[UInt8.ofNat q]) (by omega) (by show 1≤65536;decide) (show 75+25*q≤75+25*(q+1) by omega) (by show 24+1≤_;omega)
    refine aC ?_
    refine lE eP ?_
    refine lE cX ?_
    refine bP rfl rfl rfl (cY (vs:=[pp J8 0,.slice (some ⟨b25,0,none⟩) 1 1]) zK.ok rfl rfl) ?_
    intro w hw
    replace hw:=hw.perm (L':=_::_::_::_::_::[]) (by exact(((((aB 2 rfl).trans (aB 2 rfl)).trans (aB 2 rfl)).trans (aB 4 rfl)).trans (aB 4 rfl)))
    obtain⟨β1,sb,kn,hw1,back⟩:=St.frame (L:=[_,_]) (M:=_::_::_::[]) hw
    refine(rD β1 w J8 b1 K I [(UInt8.ofNat q)] (by show 1≤65536;decide) hfit (by omega) (tT hL.pw) _ (⟨⟨_,_,rfl,by simp,by simp,kn _ (fO 0 (xs:=[(UInt8.ofNat q)]) rfl)⟩⟩:Sl bE _ _ _) hw1).mono ?_
    rintro e w' ⟨rfl,hw'⟩
    refine⟨_,rfl,_,back _ _ hw',?_⟩
    refine lE bV ?_
    refine lnr ?_
    refine lE (dO 3) ?_
    refine lE cX ?_
    refine jH (cY (vs:=[.agg #[sB pH15 K.head cH18,sB pA16 K.a cA19,sB pB17 K.b cB20,Ix (K.power),Nx (I.epoch),Nx (I.next),sB ps21 I.state cs22,sB pr23 I.recs cr24,Nx (I.size),.bool false],.slice (some ⟨b25,0,none⟩) 1 1]) aLc.ok rfl rfl) rfl fun w β1 sb kn hw1 back=>(aFh β1 w hw1 K _ _ _ (kn _ (aX.of_res 4 rfl (Sl.mono bE _ _) fun _ h=>h.1)) (kn _ (aX.of_res 4 rfl (Sl.mono bE _ _) fun _ h=>h.2.1)) (kn _ (aX.of_res 4 rfl (Sl.mono bE _ _) fun _ h=>h.2.2.1)) I ps21 pr23 cs22 cr24 [(UInt8.ofNat q)] _ (⟨⟨_,_,rfl,by simp,by simp,kn _ (fO 2 (xs:=[(UInt8.ofNat q)]) rfl)⟩⟩:Sl bE _ _ _) hfit ⟨by omega,by omega,by omega,by omega⟩ (by show 1≤65536;decide) hx (tT hL.pw)).mono ?_
    rintro e w' ⟨pH27,pA28,pB29,cH30,cA31,cB32,q33,c34,rfl,hw'⟩
    refine⟨_,rfl,_,back _ _ hw',?_⟩
    refine lE iK ?_
    refine lE mV ?_
    refine lE kK ?_
    refine lu (mS 7 (#[sB pH27 ((iE K (I.epoch+1) I.next [(UInt8.ofNat q)]).head) cH30,sB pA28 ((iE K (I.epoch+1) I.next [(UInt8.ofNat q)]).a) cA31,sB pB29 ((iE K (I.epoch+1) I.next [(UInt8.ofNat q)]).b) cB32,Ix ((iE K (I.epoch+1) I.next [(UInt8.ofNat q)]).power),Nx ((nF I [(UInt8.ofNat q)]).epoch),Nx ((nF I [(UInt8.ofNat q)]).next),sB q33 ([(UInt8.ofNat q)]) c34,sB none (nF I [(UInt8.ofNat q)]).recs 0,Nx ((nF I [(UInt8.ofNat q)]).size),.bool false])) ?_
    refine lE bV ?_
    refine aG ?_
    refine rI (K:=[rB pH27 ((iE K (I.epoch+1) I.next [(UInt8.ofNat q)]).head) cH30,rB pA28 ((iE K (I.epoch+1) I.next [(UInt8.ofNat q)]).a) cA31,rB pB29 ((iE K (I.epoch+1) I.next [(UInt8.ofNat q)]).b) cB32,rB q33 ([(UInt8.ofNat q)]) c34]) (F:=iT (sB pH27 (iE K (I.epoch+1) I.next [(UInt8.ofNat q)]).head cH30) (sB pA28 (iE K (I.epoch+1) I.next [(UInt8.ofNat q)]).a cA31) (sB pB29 (iE K (I.epoch+1) I.next [(UInt8.ofNat q)]).b cB32) (sB q33 (nF I [(UInt8.ofNat q)]).state c34) (sB none (nF I [(UInt8.ofNat q)]).recs 0) (iE K (I.epoch+1) I.next [(UInt8.ofNat q)]) (nF I [(UInt8.ofNat q)])) rfl (fun _ h=>aKb h) ?_
    refine qC [4,0,1,2,3,5] 6 rfl (by kernel_rfl) ?_
    refine rI (K:=[pt b13 (.cells #[sB pH27 ((iE K (I.epoch+1) I.next [(UInt8.ofNat q)]).head) cH30,sB pA28 ((iE K (I.epoch+1) I.next [(UInt8.ofNat q)]).a) cA31,sB pB29 ((iE K (I.epoch+1) I.next [(UInt8.ofNat q)]).b) cB32,Ix ((iE K (I.epoch+1) I.next [(UInt8.ofNat q)]).power),Nx ((nF I [(UInt8.ofNat q)]).epoch),Nx ((nF I [(UInt8.ofNat q)]).next),sB q33 ([(UInt8.ofNat q)]) c34,sB none (nF I [(UInt8.ofNat q)]).recs 0,Nx ((nF I [(UInt8.ofNat q)]).size),.bool false] 56),iT (sB pH27 (iE K (I.epoch+1) I.next [(UInt8.ofNat q)]).head cH30) (sB pA28 (iE K (I.epoch+1) I.next [(UInt8.ofNat q)]).a cA31) (sB pB29 (iE K (I.epoch+1) I.next [(UInt8.ofNat q)]).b cB32) (sB q33 (nF I [(UInt8.ofNat q)]).state c34) (sB none (nF I [(UInt8.ofNat q)]).recs 0) (iE K (I.epoch+1) I.next [(UInt8.ofNat q)]) (nF I [(UInt8.ofNat q)])]) (F:=uI b13 (iE K (I.epoch+1) I.next [(UInt8.ofNat q)]) (nF I [(UInt8.ofNat q)]) false) rfl (fun _ h=>⟨_,_,_,_,_,_,_,_,_,_,h⟩) ?_
    refine qC [1,2,0,3,4] 5 rfl (by kernel_rfl) ?_
    refine dL [true,true,true,false,false] rfl ?_
    exact bT ⟨(iE K (I.epoch+1) I.next [(UInt8.ofNat q)]),(nF I [(UInt8.ofNat q)]),(0:Int),(0:Int),⟨rfl,rfl,rfl,rfl⟩,⟨rfl,rfl,rfl,rfl⟩,rfl,hL2⟩
   refine aO ?_
   by_cases hx:I.next=4611686018427387904
   ·have hL2:=hL.mono (show 75+25*q≤75+25*(q+1) by omega)
    refine aC ?_
    refine lE eP ?_
    refine lE cX ?_
    refine bP rfl rfl rfl (cY (vs:=[pp J8 0,.slice (some ⟨b25,0,none⟩) 1 1]) sN.ok rfl rfl) ?_
    intro w hw
    replace hw:=hw.perm (L':=_::_::_::_::_::[]) (by exact(((((aB 4 rfl).trans (aB 3 rfl)).trans (aB 3 rfl)).trans (aB 3 rfl)).trans (aB 4 rfl)))
    obtain⟨β1,sb,kn,hw1,back⟩:=St.frame (L:=[_]) (M:=_::_::_::_::[]) hw
    refine(nJ β1 w J8 b1 K I [(UInt8.ofNat q)] (by show 1≤65536;decide) hbig (by omega) (.inr hx) _ (⟨⟨_,_,rfl,by simp,by simp,kn _ (fO 0 (xs:=[(UInt8.ofNat q)]) rfl)⟩⟩:Sl bE _ _ _) hw1).mono ?_
    rintro e w' ⟨rfl,hw'⟩
    refine⟨_,rfl,_,back _ _ hw',?_⟩
    refine lE iK ?_
    iterate 2 refine lE kK ?_
    iterate 2 refine lE bV ?_
    refine lnr ?_
    refine lE (dO 2) ?_
    refine lE cX ?_
    refine gW gU (fun w β1 sb kn hw1=>rQ β1 w hw1 K _ _ _ (kn _ (aX.of_res 3 rfl (Sl.mono bE _ _) fun _ h=>h.1)) (kn _ (aX.of_res 3 rfl (Sl.mono bE _ _) fun _ h=>h.2.1)) (kn _ (aX.of_res 3 rfl (Sl.mono bE _ _) fun _ h=>h.2.2.1)) I ps21 pr23 cs22 cr24 us hul (kn (fun h=>Cs h (ba pr23) us) (aX.of_res 3 rfl (Cs.mono _ _) fun _ h=>h.2.2.2.2.1)) hu1 hpr [(UInt8.ofNat q)] _ (⟨⟨_,_,rfl,by simp,by simp,kn _ (fO 1 (xs:=[(UInt8.ofNat q)]) rfl)⟩⟩:Sl bE _ _ _) hfit ⟨by omega,by omega,by omega,by omega⟩ (by show 1≤65536;decide) (.inr hx)) ?_
    refine lE iK ?_
    refine lE mV ?_
    iterate 2 refine lE kK ?_
    refine lu (mS 2 (#[sB pH15 K.head cH18,sB pA16 K.a cA19,sB pB17 K.b cB20,Ix (K.power),Nx (I.epoch),Nx (I.next),sB ps21 I.state cs22,sB pr23 I.recs cr24,Nx (I.size),.bool false])) ?_
    iterate 2 refine lE bV ?_
    refine aG ?_
    refine qC [2,3,0,1,4] 5 rfl (by kernel_rfl) ?_
    refine rI (K:=[pt b13 (.cells #[sB pH15 K.head cH18,sB pA16 K.a cA19,sB pB17 K.b cB20,Ix (K.power),Nx (I.epoch),Nx (I.next),sB ps21 I.state cs22,sB pr23 I.recs cr24,Nx (I.size),.bool false] 56),sW pH15 pA16 pB17 ps21 pr23 cH18 cA19 cB20 cs22 cr24 us K I]) (F:=uI b13 K I false) rfl (fun _ h=>⟨_,_,_,_,_,_,_,_,_,_,uQ h⟩) ?_
    refine qC [1,3,0,2] 4 rfl (by kernel_rfl) ?_
    refine dL [true,true,true,false] rfl ?_
    exact bT ⟨K,I,(4:Int),(0:Int),⟨rfl,rfl,rfl,rfl⟩,⟨rfl,rfl,rfl,rfl⟩,rfl,hL2⟩
   have hL2:=hL.ap (bs:=[UInt8.ofNat q]) (by omega) (by show 1≤65536;decide) (show 75+25*q≤75+25*(q+1) by omega) (by show I.size+24+1≤_;omega)
   refine aC ?_
   refine lE eP ?_
   refine lE cX ?_
   refine bP rfl rfl rfl (cY (vs:=[pp J8 0,.slice (some ⟨b25,0,none⟩) 1 1]) sN.ok rfl rfl) ?_
   intro w hw
   replace hw:=hw.perm (L':=_::_::_::_::_::[]) (by exact(((((aB 2 rfl).trans (aB 2 rfl)).trans (aB 2 rfl)).trans (aB 4 rfl)).trans (aB 4 rfl)))
   obtain⟨β1,sb,kn,hw1,back⟩:=St.frame (L:=[_,_]) (M:=_::_::_::[]) hw
   refine(rC β1 w J8 b1 K I [(UInt8.ofNat q)] (by show 1≤65536;decide) hfit (by omega) (by omega) (by omega) (by show I.size+24+1≤_;omega) hx (wH hL.pw) _ (⟨⟨_,_,rfl,by simp,by simp,kn _ (fO 0 (xs:=[(UInt8.ofNat q)]) rfl)⟩⟩:Sl bE _ _ _) hw1).mono ?_
   rintro e w' ⟨rfl,hw'⟩
   refine⟨_,rfl,_,back _ _ hw',?_⟩
   refine lE iK ?_
   iterate 2 refine lE kK ?_
   iterate 2 refine lE bV ?_
   refine lnr ?_
   refine lE (dO 3) ?_
   refine lE cX ?_
   refine jH (cY (vs:=[.agg #[sB pH15 K.head cH18,sB pA16 K.a cA19,sB pB17 K.b cB20,Ix (K.power),Nx (I.epoch),Nx (I.next),sB ps21 I.state cs22,sB pr23 I.recs cr24,Nx (I.size),.bool false],.slice (some ⟨b25,0,none⟩) 1 1]) aJg.ok rfl rfl) rfl fun w β1 sb kn hw1 back=>(yY β1 w hw1 K _ _ _ (kn _ (aX.of_res 4 rfl (Sl.mono bE _ _) fun _ h=>h.1)) (kn _ (aX.of_res 4 rfl (Sl.mono bE _ _) fun _ h=>h.2.1)) (kn _ (aX.of_res 4 rfl (Sl.mono bE _ _) fun _ h=>h.2.2.1)) I ps21 pr23 cs22 cr24 us hul (kn (fun h=>Cs h (ba pr23) us) (aX.of_res 4 rfl (Cs.mono _ _) fun _ h=>h.2.2.2.2.1)) hu1 hpr [(UInt8.ofNat q)] _ (⟨⟨_,_,rfl,by simp,by simp,kn _ (fO 2 (xs:=[(UInt8.ofNat q)]) rfl)⟩⟩:Sl bE _ _ _) hfit ⟨by omega,by omega,by omega,by omega⟩ (by show 1≤65536;decide) (by rw[hsze];show I.size+24+1≤_;omega) hx (wH hL.pw)).mono ?_
   rintro e w' ⟨pH35,pA36,pB37,cH38,cA39,cB40,p41,c42,rfl,hw'⟩
   refine⟨_,rfl,_,back _ _ hw',?_⟩
   refine lE iK ?_
   refine lE mV ?_
   iterate 2 refine lE kK ?_
   refine lu (mS 7 (#[sB pH35 ((gK K I [(UInt8.ofNat q)]).head) cH38,sB pA36 ((gK K I [(UInt8.ofNat q)]).a) cA39,sB pB37 ((gK K I [(UInt8.ofNat q)]).b) cB40,Ix ((gK K I [(UInt8.ofNat q)]).power),Nx ((hG I [(UInt8.ofNat q)]).epoch),Nx ((hG I [(UInt8.ofNat q)]).next),sB ps21 (hG I [(UInt8.ofNat q)]).state cs22,sB p41 (hG I [(UInt8.ofNat q)]).recs c42,Nx ((hG I [(UInt8.ofNat q)]).size),.bool false])) ?_
   iterate 2 refine lE bV ?_
   refine aG ?_
   refine qC [0,1,2,3,8,4,5,6,7] 9 rfl (by kernel_rfl) ?_
   refine rI (K:=[rB pH35 ((gK K I [(UInt8.ofNat q)]).head) cH38,rB pA36 ((gK K I [(UInt8.ofNat q)]).a) cA39,rB pB37 ((gK K I [(UInt8.ofNat q)]).b) cB40,apR p41 c42 us I.recs.length [(UInt8.ofNat q)],sW pH15 pA16 pB17 ps21 pr23 cH18 cA19 cB20 cs22 cr24 us K I]) (F:=iT (sB pH35 (gK K I [(UInt8.ofNat q)]).head cH38) (sB pA36 (gK K I [(UInt8.ofNat q)]).a cA39) (sB pB37 (gK K I [(UInt8.ofNat q)]).b cB40) (sB ps21 (hG I [(UInt8.ofNat q)]).state cs22) (sB p41 (hG I [(UInt8.ofNat q)]).recs c42) (gK K I [(UInt8.ofNat q)]) (hG I [(UInt8.ofNat q)])) rfl (fun _ h=>aEx h) ?_
   refine qC [4,0,1,2,3] 5 rfl (by kernel_rfl) ?_
   refine rI (K:=[pt b13 (.cells #[sB pH35 ((gK K I [(UInt8.ofNat q)]).head) cH38,sB pA36 ((gK K I [(UInt8.ofNat q)]).a) cA39,sB pB37 ((gK K I [(UInt8.ofNat q)]).b) cB40,Ix ((gK K I [(UInt8.ofNat q)]).power),Nx ((hG I [(UInt8.ofNat q)]).epoch),Nx ((hG I [(UInt8.ofNat q)]).next),sB ps21 (hG I [(UInt8.ofNat q)]).state cs22,sB p41 (hG I [(UInt8.ofNat q)]).recs c42,Nx ((hG I [(UInt8.ofNat q)]).size),.bool false] 56),iT (sB pH35 (gK K I [(UInt8.ofNat q)]).head cH38) (sB pA36 (gK K I [(UInt8.ofNat q)]).a cA39) (sB pB37 (gK K I [(UInt8.ofNat q)]).b cB40) (sB ps21 (hG I [(UInt8.ofNat q)]).state cs22) (sB p41 (hG I [(UInt8.ofNat q)]).recs c42) (gK K I [(UInt8.ofNat q)]) (hG I [(UInt8.ofNat q)])]) (F:=uI b13 (gK K I [(UInt8.ofNat q)]) (hG I [(UInt8.ofNat q)]) false) rfl (fun _ h=>⟨_,_,_,_,_,_,_,_,_,_,h⟩) ?_
   refine qC [1,2,0,3] 4 rfl (by kernel_rfl) ?_
   refine dL [true,true,true,false] rfl ?_
   exact bT ⟨(gK K I [(UInt8.ofNat q)]),(hG I [(UInt8.ofNat q)]),(0:Int),((I.next:Nat):Int),⟨rfl,rfl,rfl,rfl⟩,⟨rfl,rfl,rfl,rfl⟩,rfl,hL2⟩
  rintro f0 L0 ⟨K2,I2,er,nn,⟨hs1,hs3,hs4,hs28⟩,⟨hs7,hs8,hs9,hs10⟩,hL0,hL2⟩
  subst L0
  refine dG 1 hs1 ?_
  refine dG 3 hs3 ?_
  refine dG 4 hs4 ?_
  refine dG 28 hs28 ?_
  refine dG 7 hs7 ?_
  refine dG 8 hs8 ?_
  refine dG 9 hs9 ?_
  refine dG 10 hs10 ?_
  have hb2:I2.state.length≤1048576:=by have:=hL2.wf.state;omega
  have hn2:I2.recs.length≤1048576:=by have:=hL2.recsLen;omega
  have hbs2:∀b∈I2.recs,b.length≤1048576:=fun b hb=>by have:=hL2.wf.recs b hb;omega
  have hok2:=hL2.okP (by omega)
  have hk1:K2.head.length≤1048576:=by unfold KS.okP at hok2;omega
  have hk2:K2.a.length≤1048576:=by unfold KS.okP at hok2;omega
  have hk3:K2.b.length≤1048576:=by unfold KS.okP at hok2;omega
  refine eG [2,0,1] 3 rfl (by kernel_rfl) ?_
  refine tO (B:=b13) (k:=K2) (i:=I2) (dn:=false) (M:=(dC J8 b1 I2 false::aS b1 K2::[])) rfl (fun pH43 pA44 pB45 ps49 pr51 cH46 cA47 cB48 cs50 cr52 us hul hu1 hpr=> ?_)
  refine eG [3,0,1,2] 4 rfl (by kernel_rfl) ?_
  refine cI rfl (fun pH53 pA54 pB55 cH56 cA57 cB58=> ?_)
  refine bA 1 rfl (fun hcl59 hcm60=> ?_)
  refine bA 2 rfl (fun hcl61 hcm62=> ?_)
  refine bA 3 rfl (fun hcl63 hcm64=> ?_)
  refine dX ?_
  refine aC ?_
  iterate 2 refine lE bG ?_
  refine lE gO ?_
  refine lE dQ ?_
  refine cD (s:=62) rfl (fun h=> ?_) (fun h=> ?_)
  exact absurd h (fun h=>h rfl)
  iterate 2 refine gE bG ?_
  refine gE gO ?_
  refine lE cR ?_
  refine lE dQ ?_
  refine cD (s:=67) rfl (fun h=> ?_) (fun h=> ?_)
  exact absurd h (fun h=>h rfl)
  refine gE (dO 0) ?_
  refine gE bM ?_
  refine gE (dO 4) ?_
  refine eQ rfl rfl rfl rfl rfl (cY (vs:=[.agg #[sB pH53 K2.head cH56,sB pA54 K2.a cA57,sB pB55 K2.b cB58,Ix (K2.power)],.agg #[sB pH43 K2.head cH46,sB pA44 K2.a cA47,sB pB45 K2.b cB48,Ix (K2.power)]]) qX.ok rfl rfl) ?_
  intro w hw
  obtain⟨β1,sb,kn,hw1,back⟩:=St.frame_all hw
  refine(jE β1 w hw1 K2 _ _ _ (kU kn 1 rfl) (kU kn 2 rfl) (kU kn 3 rfl) _ _ _ (kn _ (aX.of_res 5 rfl (Sl.mono bE _ _) fun _ h=>h.1)) (kn _ (aX.of_res 5 rfl (Sl.mono bE _ _) fun _ h=>h.2.1)) (kn _ (aX.of_res 5 rfl (Sl.mono bE _ _) fun _ h=>h.2.2.1))).mono ?_
  rintro e w' ⟨rfl,hw'⟩
  refine⟨_,rfl,_,back _ _ hw',?_⟩
  refine gE lI ?_
  refine lE cR ?_
  refine lE dQ ?_
  refine gE eP ?_
  refine gE bM ?_
  refine gE (dO 4) ?_
  refine eQ rfl rfl rfl rfl rfl (cY (vs:=[pp J8 0,.agg #[Nx (I2.epoch),Nx (I2.next),sB ps49 I2.state cs50,sB pr51 I2.recs cr52,Nx (I2.size)]]) aBq.ok rfl rfl) ?_
  intro w hw
  obtain⟨β1,sb,kn,hw1,back⟩:=St.frame_all hw
  refine(qU β1 w hw1 J8 b1 I2 false (kn _ (aX.of_res 6 rfl (JF.mono _ _ _ _) fun _ h=>iX h)) _ _ hb2 hn2 hbs2 (kn _ (aX.of_res 5 rfl (Sl.mono bE _ _) fun _ h=>h.2.2.2.1)) (kn _ (aX.of_res 5 rfl (Sl.mono rA _ _) fun _ h=>h.2.2.2.2.2.2))).mono ?_
  rintro e w' ⟨rfl,hw'⟩
  refine⟨_,rfl,_,back _ _ hw',?_⟩
  refine gE lI ?_
  refine lE cR ?_
  refine aW ?_
  refine dI rfl ?_
  refine eT ?_
  refine cC ?_
  refine lE (dO 0) ?_
  refine jH (cY (vs:=[.agg #[sB pH53 K2.head cH56,sB pA54 K2.a cA57,sB pB55 K2.b cB58,Ix (K2.power)]]) qW.ok rfl rfl) rfl fun w β1 sb kn hw1 back=>(lB β1 w hw1 K2 _ _ _ (kU kn 1 rfl) (kU kn 2 rfl) (kU kn 3 rfl) (by omega) (by omega) (by omega)).mono ?_
  rintro e w' ⟨pH65,pA66,pB67,cH68,cA69,cB70,rfl,hw'⟩
  refine⟨_,rfl,_,back _ _ hw',?_⟩
  refine fZ fun b71=> ?_
  refine lu (mS 0 (#[sB pH65 K2.head cH68,sB pA66 K2.a cA69,sB pB67 K2.b cB70,Ix (K2.power)])) ?_
  refine aW ?_
  refine aO ?_
  refine eG [4,5,6,7,0,1,2,3,8,9,10] 11 rfl (by kernel_rfl) ?_
  refine bW (S:=b1) (k:=K2) (pH:=pH53) (pA:=pA54) (pB:=pB55) (cH:=cH56) (cA:=cA57) (cB:=cB58) (M:=(pt b71 (.cells #[sB pH65 K2.head cH68,sB pA66 K2.a cA69,sB pB67 K2.b cB70,Ix (K2.power)] 32)::rB pH65 K2.head cH68::rB pA66 K2.a cA69::rB pB67 K2.b cB70::pt b13 (.cells #[sB pH43 K2.head cH46,sB pA44 K2.a cA47,sB pB45 K2.b cB48,Ix (K2.power),Nx (I2.epoch),Nx (I2.next),sB ps49 I2.state cs50,sB pr51 I2.recs cr52,Nx (I2.size),.bool false] 56)::sW pH43 pA44 pB45 ps49 pr51 cH46 cA47 cB48 cs50 cr52 us K2 I2::dC J8 b1 I2 false::[])) rfl ?_
  refine eG [1,2,3,4,0,5,6,7] 8 rfl (by kernel_rfl) ?_
  refine bW (S:=b71) (k:=K2) (pH:=pH65) (pA:=pA66) (pB:=pB67) (cH:=cH68) (cA:=cA69) (cB:=cB70) (M:=(aS b1 K2::pt b13 (.cells #[sB pH43 K2.head cH46,sB pA44 K2.a cA47,sB pB45 K2.b cB48,Ix (K2.power),Nx (I2.epoch),Nx (I2.next),sB ps49 I2.state cs50,sB pr51 I2.recs cr52,Nx (I2.size),.bool false] 56)::sW pH43 pA44 pB45 ps49 pr51 cH46 cA47 cB48 cs50 cr52 us K2 I2::dC J8 b1 I2 false::[])) rfl ?_
  refine aC ?_
  refine bP rfl rfl rfl (cY (vs:=[pp b71 0]) wD.ok rfl rfl) ?_
  intro w hw
  obtain⟨β1,sb,kn,hw1,back⟩:=St.frame (L:=[_]) (M:=_::_::_::_::[]) hw
  refine(rO β1 w b71 K2 hk1 hk2 hk3 hok2 (by rw[hL2.pw];decide) I2 hL2.read hL2.cutOk hw1).mono ?_
  rintro e w' ⟨J78,pH72,pA73,pB74,cH75,cA76,cB77,ps79,cs80,pr81,cr82,rfl,hw'⟩
  refine⟨_,rfl,_,back _ _ hw',?_⟩
  refine lE iK ?_
  refine lE zU ?_
  refine lE mV ?_
  refine lE xT ?_
  refine fZ fun b83=> ?_
  refine lE nV ?_
  refine lu (mS 0 (#[sB pH72 ((aV K2 I2.epoch I2.size).head) cH75,sB pA73 ((aV K2 I2.epoch I2.size).a) cA76,sB pB74 ((aV K2 I2.epoch I2.size).b) cB77,Ix ((aV K2 I2.epoch I2.size).power),Nx (I2.epoch),Nx (I2.next),sB ps79 I2.state cs80,sB pr81 I2.recs cr82,Nx (I2.size),.bool false])) ?_
  refine lE eE ?_
  refine eJ ?_
  refine lE dQ ?_
  refine lE lI ?_
  refine lE dQ ?_
  refine gE eP ?_
  refine fN (v:= .bool false) rfl rfl rfl rfl rfl (eL (p:=some (⟨J78,0,none⟩)) rfl rfl rX) ?_
  refine lE cR ?_
  refine lE dQ ?_
  refine gE eP ?_
  refine gE bM ?_
  refine gE (dO 5) ?_
  refine eQ rfl rfl rfl rfl rfl (cY (vs:=[pp J78 0,.agg #[Nx (I2.epoch),Nx (I2.next),sB ps49 I2.state cs50,sB pr51 I2.recs cr52,Nx (I2.size)]]) aBq.ok rfl rfl) ?_
  intro w hw
  obtain⟨β1,sb,kn,hw1,back⟩:=St.frame_all hw
  refine(qU β1 w hw1 J78 b71 I2 false (kn _ (aX.of_res 1 rfl (JF.mono _ _ _ _) fun _ h=>iX h)) _ _ hb2 hn2 hbs2 (kn _ (aX.of_res 6 rfl (Sl.mono bE _ _) fun _ h=>h.2.2.2.1)) (kn _ (aX.of_res 6 rfl (Sl.mono rA _ _) fun _ h=>h.2.2.2.2.2.2))).mono ?_
  rintro e w' ⟨rfl,hw'⟩
  refine⟨_,rfl,_,back _ _ hw',?_⟩
  refine gE lI ?_
  refine lE cR ?_
  refine lE dQ ?_
  refine gE eP ?_
  refine gE bM ?_
  refine gE (dO 0) ?_
  refine eQ rfl rfl rfl rfl rfl (cY (vs:=[pp J8 0,.agg #[Nx (I2.epoch),Nx (I2.next),sB ps79 I2.state cs80,sB pr81 I2.recs cr82,Nx (I2.size)]]) aBq.ok rfl rfl) ?_
  intro w hw
  obtain⟨β1,sb,kn,hw1,back⟩:=St.frame_all hw
  refine(qU β1 w hw1 J8 b1 I2 false (kn _ (aX.of_res 7 rfl (JF.mono _ _ _ _) fun _ h=>iX h)) _ _ hb2 hn2 hbs2 (kn _ (aX.of_res 3 rfl (Sl.mono bE _ _) fun _ h=>h.2.2.2.1)) (kn _ (aX.of_res 3 rfl (Sl.mono rA _ _) fun _ h=>h.2.2.2.2))).mono ?_
  rintro e w' ⟨rfl,hw'⟩
  refine⟨_,rfl,_,back _ _ hw',?_⟩
  refine gE lI ?_
  refine lE cR ?_
  refine aW ?_
  refine dI rfl ?_
  refine cM ?_
  refine bD ?_
  refine aQ ?_
  refine eG [5,6,0,1,2,3,4,7] 8 rfl (by kernel_rfl) ?_
  refine kJ (K:=[pt b13 (.cells #[sB pH43 K2.head cH46,sB pA44 K2.a cA47,sB pB45 K2.b cB48,Ix (K2.power),Nx (I2.epoch),Nx (I2.next),sB ps49 I2.state cs50,sB pr51 I2.recs cr52,Nx (I2.size),.bool false] 56),sW pH43 pA44 pB45 ps49 pr51 cH46 cA47 cB48 cs50 cr52 us K2 I2]) (F:=uI b13 K2 I2 false) rfl (fun _ h=>⟨_,_,_,_,_,_,_,_,_,_,uQ h⟩) ?_
  refine aC ?_
  refine lv (v:=Nx (q+1)) (bJ rfl rfl (bU (by omega) (by omega))) ?_
  refine lE bG ?_
  refine aG ?_
  refine fpn [6,5,0,1,2,3,4] 7 ?_
  refine dL [true,true,true,false,false,false,false] rfl ?_
  exact bT ⟨(q+1,K2,I2),⟨⟨rfl,rfl,rfl,rfl⟩,rfl,⟨by omega,hL2⟩⟩,(show 8-(q+1)<8-q from by omega)⟩
 refine dZ ?_
 refine aU ?_
 refine aU ?_
 refine eA ?_
 refine qF ?_
 refine lE eE ?_
 refine aW ?_
 refine bB ?_
 refine dS Try.results34 rfl ?_
 intro w hw
 exact⟨rfl,aF [false,false,false] rfl hw⟩
end Go.Proofs
