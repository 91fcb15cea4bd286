/-
  Own work; plain Lean (Td7, Td9).
-/
import Derived.Test.YtjejfkajcbdgjaaGreatJn6
import Derived.Test.YtjejfkajcbdgjaaGreatTd8
set_option linter.all false
set_option maxHeartbeats 4000000
namespace Go.Proofs
open Go Go.Sl Go.Td Go.Jn
def agA:Value→Option Addr| .agg a=>dG (a.toList[3]?.getD .nilFunc)|_=>none
def agC:Value→Nat| .agg a=>dH (a.toList[3]?.getD .nilFunc)|_=>0
def kF(k:Nat):Value→Nat| .tuple ⟨[.agg a,_]⟩=>kE (a.toList[k]?.getD .nilFunc)|_=>0
def zR:Value→Option Addr| .tuple ⟨[_,.agg a]⟩=>dG (a.toList[3]?.getD .nilFunc)|_=>none
def zP:Value→Nat| .tuple ⟨[_,.agg a]⟩=>dH (a.toList[3]?.getD .nilFunc)|_=>0
theorem aAs(β:Base)(w:World)(mp mh mm:Nat)(s:KSt)(ms:List (Int×KMh))(hw:St β [aZ bW mp s.ps,aZ bK mh s.hs,aZ dS mm ms] w)(au nu:Int)(v:Value)(xs:List KAct)(hs:Sl dI.R β.heap v xs)(hfo:∀x∈xs,x.formed=true)(hn:xs.length≤16)(M:Int)(hM:M≤1152921504606846976)(hg:GoodS s M):
  Calls Tryz.prog 39 #[.agg (uX mp mh mm s.last s.su),.agg #[Ix au,Ix nu,v]] w fun r w'=>∃mq hq mn p c,r= .returned (.tuple #[.agg (uX mq hq mn (aE s xs).1.last (aE s xs).1.su),.agg #[.bool (aE s xs).2.done,Ix (aE s xs).2.at_,Ix (aE s xs).2.e,sB p (aE s xs).2.holds c]])∧St β [aZ bW mq (aE s xs).1.ps,aZ bK hq (aE s xs).1.hs,aZ dS mn (dS.put ms au ⟨au,nu,dG v,xs.length,dH v,(aE s xs).2.done,(aE s xs).2.at_,(aE s xs).2.e,p,(aE s xs).2.holds.length,c⟩),aM bA 3 p c (aE s xs).2.holds] w':=by
 refine(aPi β w mp mh mm s ms hw au nu v xs hs hfo hn M hM hg).mono ?_
 rintro r w' ⟨mq,hq,mn,p,c,z,ro,h1,h2,h3⟩
 rw[h1]
 exact⟨mq,hq,mn,p,c,h2,h3⟩
instance tt96:CfC Tryz.prog 32:={}
instance bIr:CfC Tryz.prog 33:={}
theorem bGh:xP Tryz.prog 80 [(0,1),(1,1),(2,1)]=true:=by kernel_rfl
instance bGi:ZerC Tryz.prog 80 (.agg #[.int .i64 (0),.int .i64 (0),.slice none 0 0]):={}
instance tt100:FldC Tryz.prog 91 1 1 8 true:={}
instance tt101:TyC Tryz.prog 82 true 7:={}
instance aZn:CfC Tryz.prog 34:={}
instance tt103:FldC Tryz.prog 82 0 0 3 true:={}
instance bEv:CfC Tryz.prog 35:={}
instance tt105:FldC Tryz.prog 82 1 3 4 true:={}
instance aTs:CfC Tryz.prog 36:={}
instance bEw:CfC Tryz.prog 37:={}
instance aZo:CfC Tryz.prog 38:={}
instance aZp:CfC Tryz.prog 39:={}
theorem bAs(β:Base)(w:World)(H S N e z:Nat)(pw:Int)(X:KHs)(hw:St β [qW H S X N pw e z] w)(au nu:Int)(v:Value)(al:List KAct)(hs:Sl dI.R β.heap v al)(hal:al.length≤1048576)(hh63:vQ al)(hN:N≤1000000)(hz:cE au nu al=true→z+24+(fF au nu al [] 0).length≤262144):Calls Tryz.prog 12 #[pp H 0,Ix au,Ix nu,v] w fun r w'=>∃X1 R e1,rS X au nu al=(X1,R,e1)∧((∃p c q,(pw= -1→q= -1)∧r= .returned (.tuple #[.agg #[.bool R.done,Ix R.at_,Ix R.e,sB p R.holds c],Ix e1])∧St β [aM bA 3 p c R.holds,cO H S X1 (N+1) (e*218000+z+494) q] w')∨(pw≠-1∧e1=0∧r= .returned (.tuple #[.agg #[.bool false,.int .i64 0,.int .i64 0,.slice none 0 0],.int .i64 310])∧∃q,St β [lP S X (N+1) (e*218000+z+494) q] w')):=by
 obtain⟨va,vc,rfl,vl,vm,ve⟩:=hs.get
 obtain⟨J,mp,mh,mm,s,ms,zs,i,k,hk,hpw,hie,hiz,hw⟩:=St.openE hw
 obtain⟨hd,mal,mhl,hlk,hlo,hnl,hml⟩:=hk.mm.lk au
 have hmb:mhl.length≤1048576:=hlo.few hk.so.ok
 refine enter (n:=132) Tryz.func12 rfl Tryz.ntmps12 rfl ?_ hw
 refine bE (gB fun b1=>lE bN (aN (eS (aC (lE dN ?_)))))
 refine iF iE (fun w β1 sb kn hw1=>aBc β1 w hw1 _ _ _ _ _ s (kn _ (bY 1 rfl rfl))) (lE bN (eY (lE aX (lE lC (aN (cY rfl (eF ?_)))))))
 refine bE (lE aX (lE aX (lE fN ?_)))
 refine pN (cK (vs:=[sB va al (vc)]) bIr.ok rfl rfl) rfl fun w β1 sb kn hw1 back=>(aLy β1 w hw1 _ al (Sl.mono _ _ _ _ _ sb (⟨⟨_,_,rfl,vl,vm,ve⟩⟩:Sl dI.R _ _ al)) (by omega)).mono ?_
 rintro e w' ⟨p2,c3,rfl,hw'⟩
 refine⟨_,rfl,_,back _ _ hw',?_⟩
 refine lv (v:= .agg #[Ix (au),Ix (nu),sB p2 al c3]) (cR bGi.ok bGh (vs:=[(0,Ix (au)),(1,Ix (nu)),(2,sB p2 al c3)]) (cells:= #[Ix (au),Ix (nu),sB p2 al c3]) rfl rfl) ?_
 refine gB fun b4=>lu (mS 0 (#[Ix (au),Ix (nu),sB p2 al c3])) (eY (lE dN (lE eM (lE aY (lE aY ?_)))))
 refine lv (v:= .map (some mm)) (bH aEc.ok rfl (bY 3 rfl rfl)) (lE aX ?_)
 refine lv (v:= .tuple #[.agg #[Ix (hd.author),Ix (hd.number),.slice hd.p (hd.n) hd.c,.bool (hd.done),Ix (hd.at_),Ix (hd.e),.slice hd.q (hd.m) hd.k],.bool ((dS.look ms au).isSome)]) (fI (congrArg (fun z=>Value.tuple #[dS.encv z,.bool (dS.look ms au).isSome]) hlk) (xD (K:=dS) (b:=mm) (ks:=ms) (k:=au) rfl rfl rfl (bF.of_res 8 rfl (aZ.mono _ _ _) fun _ h=>h))) ?_
 refine lE oE (lE qS (lE xK (gB fun b5=> ?_)))
 refine lu (mS 0 (#[Ix (hd.author),Ix (hd.number),.slice hd.p (hd.n) hd.c,.bool (hd.done),Ix (hd.at_),Ix (hd.e),.slice hd.q (hd.m) hd.k])) (lE dW ?_)
 refine aN (aL (aK (aL ?_)))
 cases hfm:cE au nu al
 ·have hnf:(!cE au nu al)=true:=by rw[hfm];rfl
  refine aC (lE (dD 1) (iF iE (fun w β1 sb kn hw1=>pS β1 w hw1 au nu _ al (kn _ (kA 2 (F:=dI) (m:=al.length) rfl rfl))) ?_))
  refine lE lX (lE dW (aN (fE (!(cE au nu al)) rfl (fun hc6=> ?_) (fun hc6=> ?_))))
  ·refine bE ?_
   refine lv (v:= .agg #[.bool false,.int .i64 (0),.int .i64 (0),.slice none 0 0]) (cR aOe.ok aOf (vs:=[]) (cells:= #[.bool false,.int .i64 (0),.int .i64 (0),.slice none 0 0]) rfl rfl) ?_
   refine lu (mS 3 (#[.bool false,.int .i64 (0),.int .i64 (0),.slice none 0 0])) (lE bN (aN (aT (aQ (aI ?_)))))
   refine gA (m:=[.agg #[.bool false,.int .i64 (0),.int .i64 (0),.slice none 0 0],.int .i64 (2)]) Tryz.results12 ⟨bQ aEd.ok rfl (bY 3 rfl rfl) rfl,eL (v:= .int .i64 (2)) rfl,trivial⟩ rfl ?_
   intro w hw
   replace hw:=hw.perm (L':=[pt H (.cells #[pp J 0,.map (some mp),.map (some mh),Ix (s.last),Ix (s.su.a0),Ix (s.su.a1),Ix (s.su.a2),Ix (s.su.a3),.map (some mm),.bool false] 91),eV J S i false,aP S k,aZ bW mp s.ps,aZ bK mh s.hs,aZ dS mm ms,cV zs,pt b5 (.cells #[Ix (hd.author),Ix (hd.number),.slice hd.p (hd.n) hd.c,.bool (hd.done),Ix (hd.at_),Ix (hd.e),.slice hd.q (hd.m) hd.k] 82),pt b4 (.cells #[Ix (au),Ix (nu),sB p2 al c3] 80),aM dI 47 p2 c3 al,pt b1 (.cells #[.bool false,.int .i64 (0),.int .i64 (0),.slice none 0 0] 37)]) (by exact(aV [4,5,6,7,8,9,10,0,1,2,3] 11 rfl (by kernel_rfl) (by kernel_rfl)))
   replace hw:=aF (L':=[pt H (.cells #[pp J 0,.map (some mp),.map (some mh),Ix (s.last),Ix (s.su.a0),Ix (s.su.a1),Ix (s.su.a2),Ix (s.su.a3),.map (some mm),.bool false] 91),eV J S i false,aP S k,aZ bW mp s.ps,aZ bK mh s.hs,aZ dS mm ms,cV zs]) [true,true,true,true,true,true,true,false,false,false,false] rfl hw
   have hw2:=St.closeHouse (M:=[]) (hk.mono (Nat.le_add_right N 1) (Nat.le_add_right _ 494)) hpw hw
   exact⟨_,_,_,aVf hlo hfm,.inl ⟨none,0,_,id,rfl,hw2.emp (eG _ _ _)⟩⟩
  rw[hnf]at hc6;cases hc6
 have hnf:(!cE au nu al)=false:=by rw[hfm];rfl
 obtain⟨hfau,hfnu,hfl,hfa⟩:=fG.1 hfm
 have hlen:=rF hfm
 refine aC (lE (dD 1) (iF iE (fun w β1 sb kn hw1=>pS β1 w hw1 au nu _ al (kn _ (kA 2 (F:=dI) (m:=al.length) rfl rfl))) ?_))
 refine lE lX (lE dW (aN (fE (!(cE au nu al)) rfl (fun hc7=> ?_) (fun hc7=> ?_))))
 ·rw[hnf]at hc7;cases hc7
 refine bE (lE fJ (oD ((dS.look ms au).isSome) (decide ((hd.number)=(nu))) rfl (fun hb8 hk8=> ?_) (fun z9 z10 z11 z12 z13=> ?_)))
 ·refine gE aY (gE aY (gE (cQ 0) (gE aX (gE eZ (lE eC ?_)))))
  exact hk8 _ _ _ _ _
 refine oD (((dS.look ms au).isSome)&&(decide ((hd.number)=(nu)))) (decide (mal=al)) rfl (fun hb14 hk14=> ?_) (fun z15 z16 z17 z18 z19=> ?_)
 ·refine gE aY (gE aY (gE (fR 0) (gE fN (eK rfl rfl rfl rfl rfl (cK (vs:=[.slice hd.p (hd.n) hd.c,sB va al (vc)]) bEv.ok rfl rfl) ?_))))
  intro w hw
  obtain⟨β1,sb,kn,hw1,back⟩:=St.frame_all hw
  refine(aMm β1 w hw1 _ _ mal al (kn _ (aZh 10 rfl hlo)) (Sl.mono _ _ _ _ _ sb (⟨⟨_,_,rfl,vl,vm,ve⟩⟩:Sl dI.R _ _ al))).mono ?_
  rintro e w' ⟨rfl,hw'⟩
  refine⟨_,rfl,_,back _ _ hw',?_⟩
  refine lE eC ?_
  exact hk14 _ _ _ _ _
 refine lE dW (aN ?_)
 refine fE (((((dS.look ms au).isSome)&&(decide ((hd.number)=(nu))))&&(decide (mal=al)))) rfl (fun hc20=> ?_) (fun hc20=> ?_)
 ·refine bE (lE aY (lE (dD 0) ?_))
  refine pN (cK (vs:=[.agg #[.bool (hd.done),Ix (hd.at_),Ix (hd.e),.slice hd.q (hd.m) hd.k]]) aTs.ok rfl rfl) rfl fun w β1 sb kn hw1 back=>(aHz β1 w hw1 hd.done hd.at_ hd.e _ mhl (kn _ (aJz 10 rfl hlo)) (by omega)).mono ?_
  rintro e w' ⟨p21,c22,rfl,hw'⟩
  refine⟨_,rfl,_,back _ _ hw',?_⟩
  refine lu (mS 4 (#[.bool (hd.done),Ix (hd.at_),Ix (hd.e),sB p21 mhl c22])) (lE bN (aN (aT (aQ (aI ?_)))))
  refine gA (m:=[.agg #[.bool (hd.done),Ix (hd.at_),Ix (hd.e),sB p21 mhl c22],.int .i64 (0)]) Tryz.results12 ⟨bQ aEd.ok rfl (bY 4 rfl rfl) rfl,eL (v:= .int .i64 (0)) rfl,trivial⟩ rfl ?_
  intro w hw
  replace hw:=hw.perm (L':=[pt H (.cells #[pp J 0,.map (some mp),.map (some mh),Ix (s.last),Ix (s.su.a0),Ix (s.su.a1),Ix (s.su.a2),Ix (s.su.a3),.map (some mm),.bool false] 91),eV J S i false,aP S k,aZ bW mp s.ps,aZ bK mh s.hs,aZ dS mm ms,cV zs,aM bA 3 p21 c22 mhl,pt b5 (.cells #[Ix (hd.author),Ix (hd.number),.slice hd.p (hd.n) hd.c,.bool (hd.done),Ix (hd.at_),Ix (hd.e),.slice hd.q (hd.m) hd.k] 82),pt b4 (.cells #[Ix (au),Ix (nu),sB p2 al c3] 80),aM dI 47 p2 c3 al,pt b1 (.cells #[.bool (hd.done),Ix (hd.at_),Ix (hd.e),sB p21 mhl c22] 37)]) (by exact(aV [5,6,7,8,9,10,11,0,1,2,3,4] 12 rfl (by kernel_rfl) (by kernel_rfl)))
  replace hw:=aF (L':=[pt H (.cells #[pp J 0,.map (some mp),.map (some mh),Ix (s.last),Ix (s.su.a0),Ix (s.su.a1),Ix (s.su.a2),Ix (s.su.a3),.map (some mm),.bool false] 91),eV J S i false,aP S k,aZ bW mp s.ps,aZ bK mh s.hs,aZ dS mm ms,cV zs,aM bA 3 p21 c22 mhl]) [true,true,true,true,true,true,true,true,false,false,false,false] rfl hw
  have hw2:=St.closeHouse (M:=[aM bA 3 p21 c22 mhl]) (hk.mono (Nat.le_add_right N 1) (Nat.le_add_right _ 494)) hpw hw
  exact⟨_,_,_,aPv hlo hfm hc20,.inl ⟨p21,c22,_,id,rfl,hw2.perm (List.Perm.swap _ _ _)⟩⟩
 refine bE (lE fJ (oD ((dS.look ms au).isSome) (decide ((hd.number)=(nu))) rfl (fun hb23 hk23=> ?_) (fun z24 z25 z26 z27 z28=> ?_)))
 ·refine gE aY (gE aY (gE (cQ 0) (gE aX (gE eZ (lE eC ?_)))))
  exact hk23 _ _ _ _ _
 refine lE dW (aN (fE ((((dS.look ms au).isSome)&&(decide ((hd.number)=(nu))))) rfl (fun hc29=> ?_) (fun hc29=> ?_)))
 ·refine bE ?_
  refine lv (v:= .agg #[.bool false,.int .i64 (0),.int .i64 (0),.slice none 0 0]) (cR aOe.ok aOf (vs:=[]) (cells:= #[.bool false,.int .i64 (0),.int .i64 (0),.slice none 0 0]) rfl rfl) ?_
  refine lu (mS 3 (#[.bool false,.int .i64 (0),.int .i64 (0),.slice none 0 0])) (lE bN (aN (aT (aQ (aI ?_)))))
  refine gA (m:=[.agg #[.bool false,.int .i64 (0),.int .i64 (0),.slice none 0 0],.int .i64 (331)]) Tryz.results12 ⟨bQ aEd.ok rfl (bY 3 rfl rfl) rfl,eL (v:= .int .i64 (331)) rfl,trivial⟩ rfl ?_
  intro w hw
  replace hw:=hw.perm (L':=[pt H (.cells #[pp J 0,.map (some mp),.map (some mh),Ix (s.last),Ix (s.su.a0),Ix (s.su.a1),Ix (s.su.a2),Ix (s.su.a3),.map (some mm),.bool false] 91),eV J S i false,aP S k,aZ bW mp s.ps,aZ bK mh s.hs,aZ dS mm ms,cV zs,pt b5 (.cells #[Ix (hd.author),Ix (hd.number),.slice hd.p (hd.n) hd.c,.bool (hd.done),Ix (hd.at_),Ix (hd.e),.slice hd.q (hd.m) hd.k] 82),pt b4 (.cells #[Ix (au),Ix (nu),sB p2 al c3] 80),aM dI 47 p2 c3 al,pt b1 (.cells #[.bool false,.int .i64 (0),.int .i64 (0),.slice none 0 0] 37)]) (by exact(aV [4,5,6,7,8,9,10,0,1,2,3] 11 rfl (by kernel_rfl) (by kernel_rfl)))
  replace hw:=aF (L':=[pt H (.cells #[pp J 0,.map (some mp),.map (some mh),Ix (s.last),Ix (s.su.a0),Ix (s.su.a1),Ix (s.su.a2),Ix (s.su.a3),.map (some mm),.bool false] 91),eV J S i false,aP S k,aZ bW mp s.ps,aZ bK mh s.hs,aZ dS mm ms,cV zs]) [true,true,true,true,true,true,true,false,false,false,false] rfl hw
  have hw2:=St.closeHouse (M:=[]) (hk.mono (Nat.le_add_right N 1) (Nat.le_add_right _ 494)) hpw hw
  exact⟨_,_,_,aMg hlo hfm (by rw[hc20];decide) hc29,.inl ⟨none,0,_,id,rfl,hw2.emp (eG _ _ _)⟩⟩
 refine bE (lE fJ (oD ((dS.look ms au).isSome) (decide ((nu)<(hd.number))) rfl (fun hb30 hk30=> ?_) (fun z31 z32 z33 z34 z35=> ?_)))
 ·refine gE aY (gE aY (gE (cQ 0) (gE aX (gE oG (lE eC ?_)))))
  exact hk30 _ _ _ _ _
 refine lE dW (aN (fE ((((dS.look ms au).isSome)&&(decide ((nu)<(hd.number))))) rfl (fun hc36=> ?_) (fun hc36=> ?_)))
 ·refine bE ?_
  refine lv (v:= .agg #[.bool false,.int .i64 (0),.int .i64 (0),.slice none 0 0]) (cR aOe.ok aOf (vs:=[]) (cells:= #[.bool false,.int .i64 (0),.int .i64 (0),.slice none 0 0]) rfl rfl) ?_
  refine lu (mS 3 (#[.bool false,.int .i64 (0),.int .i64 (0),.slice none 0 0])) (lE bN (aN (aT (aQ (aI ?_)))))
  refine gA (m:=[.agg #[.bool false,.int .i64 (0),.int .i64 (0),.slice none 0 0],.int .i64 (332)]) Tryz.results12 ⟨bQ aEd.ok rfl (bY 3 rfl rfl) rfl,eL (v:= .int .i64 (332)) rfl,trivial⟩ rfl ?_
  intro w hw
  replace hw:=hw.perm (L':=[pt H (.cells #[pp J 0,.map (some mp),.map (some mh),Ix (s.last),Ix (s.su.a0),Ix (s.su.a1),Ix (s.su.a2),Ix (s.su.a3),.map (some mm),.bool false] 91),eV J S i false,aP S k,aZ bW mp s.ps,aZ bK mh s.hs,aZ dS mm ms,cV zs,pt b5 (.cells #[Ix (hd.author),Ix (hd.number),.slice hd.p (hd.n) hd.c,.bool (hd.done),Ix (hd.at_),Ix (hd.e),.slice hd.q (hd.m) hd.k] 82),pt b4 (.cells #[Ix (au),Ix (nu),sB p2 al c3] 80),aM dI 47 p2 c3 al,pt b1 (.cells #[.bool false,.int .i64 (0),.int .i64 (0),.slice none 0 0] 37)]) (by exact(aV [4,5,6,7,8,9,10,0,1,2,3] 11 rfl (by kernel_rfl) (by kernel_rfl)))
  replace hw:=aF (L':=[pt H (.cells #[pp J 0,.map (some mp),.map (some mh),Ix (s.last),Ix (s.su.a0),Ix (s.su.a1),Ix (s.su.a2),Ix (s.su.a3),.map (some mm),.bool false] 91),eV J S i false,aP S k,aZ bW mp s.ps,aZ bK mh s.hs,aZ dS mm ms,cV zs]) [true,true,true,true,true,true,true,false,false,false,false] rfl hw
  have hw2:=St.closeHouse (M:=[]) (hk.mono (Nat.le_add_right N 1) (Nat.le_add_right _ 494)) hpw hw
  exact⟨_,_,_,aVg hlo hfm (by rw[hc29];decide) hc36,.inl ⟨none,0,_,id,rfl,hw2.emp (eG _ _ _)⟩⟩
 refine cD (aR (kM (lE (dD 1) ?_)))
 refine pN (cK (vs:=[.agg #[Ix (au),Ix (nu),sB p2 al c3]]) bEw.ok rfl rfl) rfl fun w β1 sb kn hw1 back=>(aIs β1 w hw1 au nu _ al (kn _ (kA 2 (F:=dI) (m:=al.length) rfl rfl)) hfa (by omega) (by omega) (by omega)).mono ?_
 rintro e w' ⟨p37,c38,rfl,hw'⟩
 refine⟨_,rfl,_,back _ _ hw',?_⟩
 refine lE iT (aN (aL ?_))
 have hr0:i.size+24+(fF au nu al [] 0).length≤262144:=by rw[hiz];exact hz hfm
 have hroom:=hk.so.room hN hlen hr0
 by_cases ha:xS k i (fF au nu al [] 0)
 ·refine aC (lE dN (lE eM (lE aY (lE (iI 5) (lE fN ?_)))))
  refine aW rfl rfl rfl (cK (vs:=[pp J 0,sB p37 ((fF au nu al [] 0)) c38]) aZo.ok rfl rfl) ?_
  intro w hw
  replace hw:=hw.perm (L':=[eV J S i false,aP S k,rB p37 ((fF au nu al [] 0)) c38,pt b5 (.cells #[Ix (hd.author),Ix (hd.number),.slice hd.p (hd.n) hd.c,.bool (hd.done),Ix (hd.at_),Ix (hd.e),.slice hd.q (hd.m) hd.k] 82),pt b4 (.cells #[Ix (au),Ix (nu),sB p2 al c3] 80),aM dI 47 p2 c3 al,pt b1 (.cells #[.bool false,.int .i64 (0),.int .i64 (0),.slice none 0 0] 37),pt H (.cells #[pp J 0,.map (some mp),.map (some mh),Ix (s.last),Ix (s.su.a0),Ix (s.su.a1),Ix (s.su.a2),Ix (s.su.a3),.map (some mm),.bool false] 91),aZ bW mp s.ps,aZ bK mh s.hs,aZ dS mm ms,cV zs]) (by exact(aV [6,7,0,1,2,3,4,5,8,9,10,11] 12 rfl (by kernel_rfl) (by kernel_rfl)))
  obtain⟨β1,sb,kn,hw1,back⟩:=St.frame (L:=[_,_]) (M:=_::_::_::_::_::_::_::_::_::_::[]) hw
  refine(aLp β1 w J S k i (fF au nu al [] 0) hroom.1 hroom.2.1 hroom.2.2.1 hroom.2.2.2.1 hroom.2.2.2.2.1 hroom.2.2.2.2.2.1 hroom.2.2.2.2.2.2 ha _ (kU kn 0 rfl) hw1).mono ?_
  rintro e w' ⟨rfl,hw'⟩
  refine⟨_,rfl,_,back _ _ hw',?_⟩
  refine lE oE (lE pO (lE pO (lE bN (lE bN (aN (eS (aC (lE aX (lE eZ (aN (cY rfl (eF (eS (aC (lE aX (lE lC (aN ?_)))))))))))))))))
  refine cY rfl (eF (aL ?_))
  have hgs:=hk.goodS hN
  have hch:(aE s al).2.holds.length≤al.length:=aEu
  refine jH [sv 118 (pp H 0) [] [] [0],sv 119 (pp H 0) [0] [0] [],sv 120 (pp H 1) [0,1] [1] [],sv 121 (.agg #[.map (some mp),.map (some mh),Ix (s.last),Ix (s.su.a0),Ix (s.su.a1),Ix (s.su.a2),Ix (s.su.a3),.map (some mm)]) [0,1,2] [2] [],sv 122 (.agg #[Ix (au),Ix (nu),sB p2 al c3]) [] [] [1],⟨[0,1,2,3,4],[3,4],[],[123],fun f=>f 123= .tuple #[.agg #[.map (some (kF 0 (f 123))),.map (some (kF 1 (f 123))),Ix ((aE s al).1.last),Ix ((aE s al).1.su.a0),Ix ((aE s al).1.su.a1),Ix ((aE s al).1.su.a2),Ix ((aE s al).1.su.a3),.map (some (kF 7 (f 123)))],.agg #[.bool ((aE s al).2.done),Ix ((aE s al).2.at_),Ix ((aE s al).2.e),sB (zR (f 123)) (aE s al).2.holds (zP (f 123))]]⟩,⟨(List.range 6),[5],[],[117,123],fun f=>f 117= .tuple #[.agg #[.map (some (kF 0 (f 123))),.map (some (kF 1 (f 123))),Ix ((aE s al).1.last),Ix ((aE s al).1.su.a0),Ix ((aE s al).1.su.a1),Ix ((aE s al).1.su.a2),Ix ((aE s al).1.su.a3),.map (some (kF 7 (f 123)))],.agg #[.bool ((aE s al).2.done),Ix ((aE s al).2.at_),Ix ((aE s al).2.e),sB (zR (f 123)) (aE s al).2.holds (zP (f 123))]]⟩,⟨(List.range 7),[6],[],[123,124],fun f=>f 124= .agg #[.map (some (kF 0 (f 123))),.map (some (kF 1 (f 123))),Ix ((aE s al).1.last),Ix ((aE s al).1.su.a0),Ix ((aE s al).1.su.a1),Ix ((aE s al).1.su.a2),Ix ((aE s al).1.su.a3),.map (some (kF 7 (f 123)))]⟩,⟨(List.range 7),[6],[],[123,125],fun f=>f 125= .agg #[.bool ((aE s al).2.done),Ix ((aE s al).2.at_),Ix ((aE s al).2.e),sB (zR (f 123)) (aE s al).2.holds (zP (f 123))]⟩,⟨[],[],[],[17],fun f=>f 17= .pointer (some ⟨(cU (f 17)),0,none⟩)⟩,⟨[],[],[],[18],fun f=>f 18= .pointer (some ⟨(cU (f 18)),0,none⟩)⟩,⟨[0,1,2,3,4,5,6,7,9,10],[9,7],[],[],fun _=>True⟩,⟨(List.range 12),[10,8],[],[],fun _=>True⟩] [u0,u0,u0,u0,u1 [4],u1 [5],u0,u1 [3],(some 5,[5]),(some 5,[5]),(some 5,[5])] [⟨(some 5),none,[],[123],fun f=>aZ bW (kF 0 (f 123)) ((aE s al).1.ps)⟩,⟨(some 5),none,[],[123],fun f=>aZ bK (kF 1 (f 123)) ((aE s al).1.hs)⟩,⟨(some 5),none,[],[123],fun f=>aZ dS (kF 7 (f 123)) (dS.put ms au (⟨au,nu,p2,al.length,c3,(aE s al).2.done,(aE s al).2.at_,(aE s al).2.e,(zR (f 123)),(aE s al).2.holds.length,(zP (f 123))⟩:KMh))⟩,⟨(some 5),none,[],[123],fun f=>aM bA 3 (zR (f 123)) (zP (f 123)) ((aE s al).2.holds)⟩,⟨(some 9),(some 11),[11],[17],fun f=>pt (cU (f 17)) (.cells #[.map none,.map none,.int .i64 (0),.int .i64 (0),.int .i64 (0),.int .i64 (0),.int .i64 (0),.map none] 88)⟩,⟨(some 10),(some 12),[12],[18],fun f=>pt (cU (f 18)) (.cells #[.bool false,.int .i64 (0),.int .i64 (0),.slice none 0 0] 37)⟩,⟨(some 11),none,[],[17,123],fun f=>pt (cU (f 17)) (.cells #[.map (some (kF 0 (f 123))),.map (some (kF 1 (f 123))),Ix ((aE s al).1.last),Ix ((aE s al).1.su.a0),Ix ((aE s al).1.su.a1),Ix ((aE s al).1.su.a2),Ix ((aE s al).1.su.a3),.map (some (kF 7 (f 123)))] 88)⟩,⟨(some 12),none,[],[18,123],fun f=>pt (cU (f 18)) (.cells #[.bool ((aE s al).2.done),Ix ((aE s al).2.at_),Ix ((aE s al).2.e),sB (zR (f 123)) (aE s al).2.holds (zP (f 123))] 37)⟩] [(0,pp H 0),(11,pp b4 0),(8,pp b1 0)] [0,2] ⟨rfl,rfl,rfl,trivial⟩ ⟨?_,?_,?_,?_,?_,?_,?_,?_,?_,?_,?_,?_,?_,trivial⟩ ?_
  ·rintro f M-⟨i0,-⟩
   exact aU dN
  ·rintro f M ⟨k0,-⟩-
   exact aU eM
  ·rintro f M ⟨k0,-⟩-
   exact aU aY
  ·rintro f M ⟨k0,-⟩-
   exact aU (dD 0)
  ·rintro f M-⟨i0,-⟩
   exact aU (dD 0)
  ·rintro f M ⟨k0,k1,-⟩-
   refine dU (aB (d:=122) (aB (d:=121) rfl k0) k1) ?_
   refine aW rfl rfl rfl (cK (vs:=[.agg #[.map (some mp),.map (some mh),Ix (s.last),Ix (s.su.a0),Ix (s.su.a1),Ix (s.su.a2),Ix (s.su.a3),.map (some mm)],.agg #[Ix (au),Ix (nu),sB p2 al c3]]) aZp.ok rfl rfl) ?_
   intro w hw
   replace hw:=hw.perm (L':=_::_::_::_::M) (by exact((((aA 0 rfl).trans (aA 3 rfl)).trans (aA 3 rfl)).trans (aA 3 rfl)))
   obtain⟨β1,sb,kn,hw1,back⟩:=St.frame (L:=[_,_,_]) (M:=_::M) hw
   refine(aAs β1 w mp mh mm s ms hw1 au nu _ al (kn _ (kA 0 (F:=dI) (m:=al.length) rfl rfl)) hfa (by omega) _ (Int.le_refl _) hgs).mono ?_
   rintro e w' ⟨mq44,hq45,mn46,p47,c48,rfl,hw'⟩
   refine⟨_,rfl,_,back _ _ hw',?_⟩
   refine aH ?_
   exact aO (aB (d:=122) (aB (d:=121) rfl k0) k1) rfl (((((aA 3 rfl).trans (aA 3 rfl)).trans (aA 3 rfl)).trans (aA 3 rfl)).trans (aA 4 rfl))
  ·rintro f M ⟨k0,-⟩-
   have hs123:f 123= .tuple #[.agg #[.map (some (kF 0 (f 123))),.map (some (kF 1 (f 123))),Ix ((aE s al).1.last),Ix ((aE s al).1.su.a0),Ix ((aE s al).1.su.a1),Ix ((aE s al).1.su.a2),Ix ((aE s al).1.su.a3),.map (some (kF 7 (f 123)))],.agg #[.bool ((aE s al).2.done),Ix ((aE s al).2.at_),Ix ((aE s al).2.e),sB (zR (f 123)) (aE s al).2.holds (zP (f 123))]]:=k0
   exact aU oE
  ·rintro f M ⟨k0,-⟩-
   have hs117:f 117= .tuple #[.agg #[.map (some (kF 0 (f 123))),.map (some (kF 1 (f 123))),Ix ((aE s al).1.last),Ix ((aE s al).1.su.a0),Ix ((aE s al).1.su.a1),Ix ((aE s al).1.su.a2),Ix ((aE s al).1.su.a3),.map (some (kF 7 (f 123)))],.agg #[.bool ((aE s al).2.done),Ix ((aE s al).2.at_),Ix ((aE s al).2.e),sB (zR (f 123)) (aE s al).2.holds (zP (f 123))]]:=k0
   exact aU qS
  ·rintro f M ⟨k0,-⟩-
   have hs117:f 117= .tuple #[.agg #[.map (some (kF 0 (f 123))),.map (some (kF 1 (f 123))),Ix ((aE s al).1.last),Ix ((aE s al).1.su.a0),Ix ((aE s al).1.su.a1),Ix ((aE s al).1.su.a2),Ix ((aE s al).1.su.a3),.map (some (kF 7 (f 123)))],.agg #[.bool ((aE s al).2.done),Ix ((aE s al).2.at_),Ix ((aE s al).2.e),sB (zR (f 123)) (aE s al).2.holds (zP (f 123))]]:=k0
   exact aU qS
  ·rintro f M- -
   refine dU rfl ?_
   refine gB fun b50=>aH ?_
   exact aO rfl rfl (aA 0 rfl)
  ·rintro f M- -
   refine dU rfl ?_
   refine gB fun b52=>aH ?_
   exact aO rfl rfl (aA 0 rfl)
  ·rintro f M ⟨k0,k1,-⟩-
   have hs17:f 17= .pointer (some ⟨(cU (f 17)),0,none⟩):=k0
   have hs124:f 124= .agg #[.map (some (kF 0 (f 123))),.map (some (kF 1 (f 123))),Ix ((aE s al).1.last),Ix ((aE s al).1.su.a0),Ix ((aE s al).1.su.a1),Ix ((aE s al).1.su.a2),Ix ((aE s al).1.su.a3),.map (some (kF 7 (f 123)))]:=k1
   refine dU (aB (aB rfl hs17) hs124) ?_
   refine lu (mS 0 (#[.map (some (kF 0 (f 123))),.map (some (kF 1 (f 123))),Ix ((aE s al).1.last),Ix ((aE s al).1.su.a0),Ix ((aE s al).1.su.a1),Ix ((aE s al).1.su.a2),Ix ((aE s al).1.su.a3),.map (some (kF 7 (f 123)))])) ?_
   refine aH ?_
   exact bB (aB (aB rfl hs17) hs124) trivial (aA 0 rfl)
  ·rintro f M ⟨k0,k1,-⟩-
   have hs18:f 18= .pointer (some ⟨(cU (f 18)),0,none⟩):=k0
   have hs125:f 125= .agg #[.bool ((aE s al).2.done),Ix ((aE s al).2.at_),Ix ((aE s al).2.e),sB (zR (f 123)) (aE s al).2.holds (zP (f 123))]:=k1
   refine dU (aB (aB rfl hs18) hs125) ?_
   refine lu (mS 0 (#[.bool ((aE s al).2.done),Ix ((aE s al).2.at_),Ix ((aE s al).2.e),sB (zR (f 123)) (aE s al).2.holds (zP (f 123))])) ?_
   refine aH ?_
   exact bB (aB (aB rfl hs18) hs125) trivial (aA 0 rfl)
  rintro fa53 ⟨-,-,-,-,-,-,-,-,-,k9,k10,-,-,-⟩ ⟨j0,j1,-⟩
  refine jI ?_
  refine aD (d:=0) j0 (aD (d:=8) j1 (aD (d:=17) k9 (aD (d:=18) k10 (kM (lE dN (lE (dD 13) (lE eM (lE aY ?_))))))))
  refine lu (mS 7 (#[pp J 0,.map (some (kF 0 (fa53 123))),.map (some (kF 1 (fa53 123))),Ix ((aE s al).1.last),Ix ((aE s al).1.su.a0),Ix ((aE s al).1.su.a1),Ix ((aE s al).1.su.a2),Ix ((aE s al).1.su.a3),.map (some (kF 7 (fa53 123))),.bool false])) ?_
  refine eY (lE (dD 14) ?_)
  refine pN (cK (vs:=[.agg #[.bool ((aE s al).2.done),Ix ((aE s al).2.at_),Ix ((aE s al).2.e),sB (zR (fa53 123)) (aE s al).2.holds (zP (fa53 123))]]) aTs.ok rfl rfl) rfl fun w β1 sb kn hw1 back=>(aHz β1 w hw1 ((aE s al).2.done) ((aE s al).2.at_) ((aE s al).2.e) _ ((aE s al).2.holds) (kn _ (kA 12 (F:=bA) (m:=(aE s al).2.holds.length) rfl rfl)) (by omega)).mono ?_
  rintro e w' ⟨p54,c55,rfl,hw'⟩
  refine⟨_,rfl,_,back _ _ hw',?_⟩
  refine lu (mS 7 (#[.bool ((aE s al).2.done),Ix ((aE s al).2.at_),Ix ((aE s al).2.e),sB p54 ((aE s al).2.holds) c55])) (lE bN (aN ?_))
  refine aT ?_
  refine gA (m:=[.agg #[.bool ((aE s al).2.done),Ix ((aE s al).2.at_),Ix ((aE s al).2.e),sB p54 ((aE s al).2.holds) c55],.int .i64 (0)]) Tryz.results12 ⟨bQ aEd.ok rfl (bY 7 rfl rfl) rfl,eL (v:= .int .i64 (0)) rfl,trivial⟩ rfl ?_
  intro w hw
  replace hw:=hw.perm (L':=[aM dI 47 p2 c3 al,aM bA 3 (zR (fa53 123)) (zP (fa53 123)) ((aE s al).2.holds),cV zs,pt H (.cells #[pp J 0,.map (some (kF 0 (fa53 123))),.map (some (kF 1 (fa53 123))),Ix ((aE s al).1.last),Ix ((aE s al).1.su.a0),Ix ((aE s al).1.su.a1),Ix ((aE s al).1.su.a2),Ix ((aE s al).1.su.a3),.map (some (kF 7 (fa53 123))),.bool false] 91),eV J S (apI i (fF au nu al [] 0)) false,aP S (apS k i (fF au nu al [] 0)),aZ bW (kF 0 (fa53 123)) ((aE s al).1.ps),aZ bK (kF 1 (fa53 123)) ((aE s al).1.hs),aZ dS (kF 7 (fa53 123)) (dS.put ms au (⟨au,nu,p2,al.length,c3,(aE s al).2.done,(aE s al).2.at_,(aE s al).2.e,(zR (fa53 123)),(aE s al).2.holds.length,(zP (fa53 123))⟩:KMh)),aM bA 3 p54 c55 ((aE s al).2.holds),rB p37 ((fF au nu al [] 0)) c38,pt b5 (.cells #[Ix (hd.author),Ix (hd.number),.slice hd.p (hd.n) hd.c,.bool (hd.done),Ix (hd.at_),Ix (hd.e),.slice hd.q (hd.m) hd.k] 82),pt b4 (.cells #[Ix (au),Ix (nu),sB p2 al c3] 80),pt b1 (.cells #[.bool ((aE s al).2.done),Ix ((aE s al).2.at_),Ix ((aE s al).2.e),sB p54 ((aE s al).2.holds) c55] 37),pt (cU (fa53 17)) (.cells #[.map (some (kF 0 (fa53 123))),.map (some (kF 1 (fa53 123))),Ix ((aE s al).1.last),Ix ((aE s al).1.su.a0),Ix ((aE s al).1.su.a1),Ix ((aE s al).1.su.a2),Ix ((aE s al).1.su.a3),.map (some (kF 7 (fa53 123)))] 88),pt (cU (fa53 18)) (.cells #[.bool ((aE s al).2.done),Ix ((aE s al).2.at_),Ix ((aE s al).2.e),sB (zR (fa53 123)) (aE s al).2.holds (zP (fa53 123))] 37)]) (by exact(aV [6,13,9,8,1,2,10,11,12,0,3,4,5,7,14,15] 16 rfl (by kernel_rfl) (by kernel_rfl)))
  replace hw:=aF (L':=[aM dI 47 p2 c3 al,aM bA 3 (zR (fa53 123)) (zP (fa53 123)) ((aE s al).2.holds),cV zs,pt H (.cells #[pp J 0,.map (some (kF 0 (fa53 123))),.map (some (kF 1 (fa53 123))),Ix ((aE s al).1.last),Ix ((aE s al).1.su.a0),Ix ((aE s al).1.su.a1),Ix ((aE s al).1.su.a2),Ix ((aE s al).1.su.a3),.map (some (kF 7 (fa53 123))),.bool false] 91),eV J S (apI i (fF au nu al [] 0)) false,aP S (apS k i (fF au nu al [] 0)),aZ bW (kF 0 (fa53 123)) ((aE s al).1.ps),aZ bK (kF 1 (fa53 123)) ((aE s al).1.hs),aZ dS (kF 7 (fa53 123)) (dS.put ms au (⟨au,nu,p2,al.length,c3,(aE s al).2.done,(aE s al).2.at_,(aE s al).2.e,(zR (fa53 123)),(aE s al).2.holds.length,(zP (fa53 123))⟩:KMh)),aM bA 3 p54 c55 ((aE s al).2.holds)]) [true,true,true,true,true,true,true,true,true,true,false,false,false,false,false,false] rfl hw
  have hw2:=St.merge (L:=[aM dI 47 p2 c3 al,aM bA 3 (zR (fa53 123)) (zP (fa53 123)) ((aE s al).2.holds),cV zs]) (M:=[pt H (.cells #[pp J 0,.map (some (kF 0 (fa53 123))),.map (some (kF 1 (fa53 123))),Ix ((aE s al).1.last),Ix ((aE s al).1.su.a0),Ix ((aE s al).1.su.a1),Ix ((aE s al).1.su.a2),Ix ((aE s al).1.su.a3),.map (some (kF 7 (fa53 123))),.bool false] 91),eV J S (apI i (fF au nu al [] 0)) false,aP S (apS k i (fF au nu al [] 0)),aZ bW (kF 0 (fa53 123)) ((aE s al).1.ps),aZ bK (kF 1 (fa53 123)) ((aE s al).1.hs),aZ dS (kF 7 (fa53 123)) (dS.put ms au (⟨au,nu,p2,al.length,c3,(aE s al).2.done,(aE s al).2.at_,(aE s al).2.e,(zR (fa53 123)),(aE s al).2.holds.length,(zP (fa53 123))⟩:KMh)),aM bA 3 p54 c55 ((aE s al).2.holds)]) (r:=cV (zs++[((⟨au,nu,p2,al.length,c3,(aE s al).2.done,(aE s al).2.at_,(aE s al).2.e,(zR (fa53 123)),(aE s al).2.holds.length,(zP (fa53 123))⟩:KMh),⟨⟨au,nu,al⟩,(aE s al).2⟩)])) hw (fun a ha=>uE a ha)
  replace hw:=hw2
  replace hw:=hw.perm (L':=[pt H (.cells #[pp J 0,.map (some (kF 0 (fa53 123))),.map (some (kF 1 (fa53 123))),Ix ((aE s al).1.last),Ix ((aE s al).1.su.a0),Ix ((aE s al).1.su.a1),Ix ((aE s al).1.su.a2),Ix ((aE s al).1.su.a3),.map (some (kF 7 (fa53 123))),.bool false] 91),eV J S (apI i (fF au nu al [] 0)) false,aP S (apS k i (fF au nu al [] 0)),aZ bW (kF 0 (fa53 123)) ((aE s al).1.ps),aZ bK (kF 1 (fa53 123)) ((aE s al).1.hs),aZ dS (kF 7 (fa53 123)) (dS.put ms au (⟨au,nu,p2,al.length,c3,(aE s al).2.done,(aE s al).2.at_,(aE s al).2.e,(zR (fa53 123)),(aE s al).2.holds.length,(zP (fa53 123))⟩:KMh)),cV (zs++[((⟨au,nu,p2,al.length,c3,(aE s al).2.done,(aE s al).2.at_,(aE s al).2.e,(zR (fa53 123)),(aE s al).2.holds.length,(zP (fa53 123))⟩:KMh),⟨⟨au,nu,al⟩,(aE s al).2⟩)]),aM bA 3 p54 c55 ((aE s al).2.holds)]) (by exact(aV [1,2,3,4,5,6,0,7] 8 rfl (by kernel_rfl) (by kernel_rfl)))
  obtain⟨hk2,hro⟩:=hk.ap (z:=(aE s al).1) (ro:=(aE s al).2) rfl (hk.so.ap hN hfm hh63 hr0 ha) (hd:=(⟨au,nu,p2,al.length,c3,(aE s al).2.done,(aE s al).2.at_,(aE s al).2.e,(zR (fa53 123)),(aE s al).2.holds.length,(zP (fa53 123))⟩:KMh)) ⟨rfl,rfl,rfl,rfl,rfl,rfl,rfl⟩
  have hw2:=St.closeHouse (M:=[aM bA 3 p54 c55 ((aE s al).2.holds)]) hk2 rfl hw
  refine⟨_,_,_,aJj hlo hfm (by rw[hc29];decide) (by rw[hc36];decide),.inl ⟨p54,c55,_,fun q=>aOv (hpw.trans q),by rw[hro]<;>rfl,hw2.perm (L':=[_,_]) (by rw[hro];exact List.Perm.swap _ _ _)⟩⟩
 refine aC (lE dN (lE eM (lE aY (lE (iI 5) (lE fN ?_)))))
 refine aW rfl rfl rfl (cK (vs:=[pp J 0,sB p37 ((fF au nu al [] 0)) c38]) aZo.ok rfl rfl) ?_
 intro w hw
 replace hw:=hw.perm (L':=[eV J S i false,aP S k,rB p37 ((fF au nu al [] 0)) c38,pt b5 (.cells #[Ix (hd.author),Ix (hd.number),.slice hd.p (hd.n) hd.c,.bool (hd.done),Ix (hd.at_),Ix (hd.e),.slice hd.q (hd.m) hd.k] 82),pt b4 (.cells #[Ix (au),Ix (nu),sB p2 al c3] 80),aM dI 47 p2 c3 al,pt b1 (.cells #[.bool false,.int .i64 (0),.int .i64 (0),.slice none 0 0] 37),pt H (.cells #[pp J 0,.map (some mp),.map (some mh),Ix (s.last),Ix (s.su.a0),Ix (s.su.a1),Ix (s.su.a2),Ix (s.su.a3),.map (some mm),.bool false] 91),aZ bW mp s.ps,aZ bK mh s.hs,aZ dS mm ms,cV zs]) (by exact(aV [6,7,0,1,2,3,4,5,8,9,10,11] 12 rfl (by kernel_rfl) (by kernel_rfl)))
 obtain⟨β1,sb,kn,hw1,back⟩:=St.frame (L:=[_,_]) (M:=_::_::_::_::_::_::_::_::_::_::[]) hw
 refine(aEo β1 w J S k i (fF au nu al [] 0) hroom.1 hroom.2.1 hroom.2.2.1 hroom.2.2.2.1 hroom.2.2.2.2.1 hroom.2.2.2.2.2.1 hroom.2.2.2.2.2.2 ha _ (kU kn 0 rfl) hw1).mono ?_
 rintro e w' ⟨rfl,hw'⟩
 refine⟨_,rfl,_,back _ _ hw',?_⟩
 refine lE oE (lE pO (lE pO (lE bN (lE bN (aN (eS (aC (lE aX (lE eZ (aN (cY rfl (eF (eS (aC (lE aX (lE lC (aN ?_)))))))))))))))))
 refine dL rfl (bE (lE dN (lE eM (lE aY ?_))))
 refine lu (mS 7 (#[pp J 0,.map (some mp),.map (some mh),Ix (s.last),Ix (s.su.a0),Ix (s.su.a1),Ix (s.su.a2),Ix (s.su.a3),.map (some mm),.bool true])) ?_
 refine eY ?_
 refine lv (v:= .agg #[.bool false,.int .i64 (0),.int .i64 (0),.slice none 0 0]) (cR aOe.ok aOf (vs:=[]) (cells:= #[.bool false,.int .i64 (0),.int .i64 (0),.slice none 0 0]) rfl rfl) ?_
 refine lE aX (lu (mS 6 (#[.bool false,.int .i64 (0),.int .i64 (0),.slice none 0 0])) (lE bN (aN (aT (aI ?_)))))
 refine gA (m:=[.agg #[.bool false,.int .i64 (0),.int .i64 (0),.slice none 0 0],.int .i64 (310)]) Tryz.results12 ⟨bQ aEd.ok rfl (bY 6 rfl rfl) rfl,eL (v:= .int .i64 (310)) rfl,trivial⟩ rfl ?_
 intro w hw
 replace hw:=hw.perm (L':=[aP S (apS k i (fF au nu al [] 0)),eV J S i true,rB p37 ((fF au nu al [] 0)) c38,pt b5 (.cells #[Ix (hd.author),Ix (hd.number),.slice hd.p (hd.n) hd.c,.bool (hd.done),Ix (hd.at_),Ix (hd.e),.slice hd.q (hd.m) hd.k] 82),pt b4 (.cells #[Ix (au),Ix (nu),sB p2 al c3] 80),aM dI 47 p2 c3 al,pt b1 (.cells #[.bool false,.int .i64 (0),.int .i64 (0),.slice none 0 0] 37),pt H (.cells #[pp J 0,.map (some mp),.map (some mh),Ix (s.last),Ix (s.su.a0),Ix (s.su.a1),Ix (s.su.a2),Ix (s.su.a3),.map (some mm),.bool true] 91),aZ bW mp s.ps,aZ bK mh s.hs,aZ dS mm ms,cV zs]) (by exact(aV [1,0,2,3,4,5,6,7,8,9,10,11] 12 rfl (by kernel_rfl) (by kernel_rfl)))
 replace hw:=aF (L':=[aP S (apS k i (fF au nu al [] 0))]) [true,false,false,false,false,false,false,false,false,false,false,false] rfl hw
 exact⟨_,_,_,aJj hlo hfm (by rw[hc29];decide) (by rw[hc36];decide),.inr ⟨fun q=>ha (aUo (hpw.trans q)),rfl,rfl,_,St.closeShelf (M:=[]) ((hk.so.ap_no hr0 (by omega) ha).mono (Nat.le_refl _) (by omega)) rfl hw⟩⟩
theorem do_ok(β:Base)(w:World)(H S N W:Nat)(pw:Int)(X:KHs)(hw:St β [cO H S X N W pw] w)(au nu:Int)(v:Value)(al:List KAct)(hs:Sl dI.R β.heap v al)(hal:al.length≤1048576)(hh63:vQ al)(hN:N≤1000000)(hNs:N≤400):Calls Tryz.prog 12 #[pp H 0,Ix au,Ix nu,v] w fun r w'=>∃X1 R e1,rS X au nu al=(X1,R,e1)∧((∃p c q,(pw= -1→q= -1)∧r= .returned (.tuple #[.agg #[.bool R.done,Ix R.at_,Ix R.e,sB p R.holds c],Ix e1])∧St β [aM bA 3 p c R.holds,cO H S X1 (N+1) (W+494) q] w')∨(pw≠-1∧e1=0∧r= .returned (.tuple #[.agg #[.bool false,.int .i64 0,.int .i64 0,.slice none 0 0],.int .i64 310])∧∃q,St β [lP S X (N+1) (W+494) q] w')):=by
 obtain⟨e,z,h1,h2,hw⟩:=St.toE2 hw
 refine(bAs β w H S N e z pw X hw au nu v al hs hal hh63 hN (fun q=>by have:=rF q;have:=h2 hNs;omega)).mono ?_
 rintro r w' ⟨X1,R,e1,hd,⟨p,c,q,h3,h4,h5⟩|⟨h3,h4,h5,q,h6⟩⟩
 ·exact⟨X1,R,e1,hd,.inl ⟨p,c,q,h3,h4,h5.conseq_at (r:=cO H S X1 (N+1) (e*218000+z+494) q) (r':=cO H S X1 (N+1) (W+494) q) 1 rfl (aBb (Nat.le_refl _) (Nat.add_le_add_right h1 494))⟩⟩
 exact⟨X1,R,e1,hd,.inr ⟨h3,h4,h5,q,h6.conseq_at (r:=lP S X (N+1) (e*218000+z+494) q) (r':=lP S X (N+1) (W+494) q) 0 rfl (aNp (Nat.le_refl _) (Nat.add_le_add_right h1 494))⟩⟩
open Go Go.Sl Go.Td Go.Jn
theorem nB(β:Base)(w:World)(fn:Value)(E:List Int)(K:List bU)(hs:aCi Tryz.prog β fn (fun z:Int=>[Ix z]) (fun l=>l.Perm E) K)(hn:E.length≤1048576)(hw:St β K w):Calls Tryz.prog 41 #[fn] w fun r w'=>∃p c,r= .returned (sB p (sortI E) c)∧St β [aM bA 3 p c (sortI E)] w':=by
 refine(aIn β w fn _ K hs (fun l hl=>by rw[hl.length_eq];exact hn) hw).mono ?_
 rintro r w' ⟨p,c,xs,hS,rfl,hw'⟩
 rw[tI hS]at hw'⊢
 exact⟨p,c,rfl,hw'⟩
theorem aHs{hs:List (Int×KHo)}{ns:List Int}{k:Nat}{n:Int}(h:ns[k]? =some n):(ns.take k).map (mB hs)++[mB hs n]=(ns.take (k+1)).map (mB hs):=by
 rw[List.take_add_one,h,List.map_append];rfl
instance aZq:CfC Tryz.prog 43:={}
instance aGt:CfC Tryz.prog 41:={}
instance aZr:CfC Tryz.prog 42:={}
theorem aLh:mF Tryz.prog 40 104 6=true:=by kernel_rfl
theorem bFa:wS Tryz.prog 104 6 48=true:=by kernel_rfl
theorem aRd(β:Base)(w:World)(H J:Nat)(X:KHs)(dn:Bool)(hw:St β [fV H J X dn] w)(au:Int):Calls Tryz.prog 18 #[pp H 0,Ix au] w fun r w'=>∃nu R so,uD X au=(nu,R,so)∧∃p c,r= .returned (.tuple #[Ix nu,.agg #[.bool R.done,Ix R.at_,Ix R.e,sB p R.holds c],.bool so])∧St β [aM bA 3 p c R.holds,fV H J X dn] w':=by
 obtain⟨mp,mh,mm,s,ms,zs,hk,hw⟩:=St.openView hw
 obtain⟨hd,mal,mhl,hlk,hlo,hnl,hml⟩:=hk.mm.lk au
 have hmb:mhl.length≤1048576:=hlo.few hk.ok
 refine enter (n:=29) Tryz.func18 rfl Tryz.ntmps18 rfl ?_ hw
 refine bE (lE bN (gB fun b1=>lE dW (aN (eS (aC (lE dN ?_))))))
 refine iF iE (fun w β1 sb kn hw1=>mC β1 w hw1 _ _ _ _ _ s _ (kn _ (bY 1 rfl rfl))) (lE lX (aN (cY rfl (eF (bE (lE dN (lE eM ?_)))))))
 refine lE aY (lE aY (lv (v:= .map (some mm)) (bH aEc.ok rfl (bY 1 rfl rfl)) (lE aX ?_)))
 refine lv (v:= .tuple #[.agg #[Ix (hd.author),Ix (hd.number),.slice hd.p (hd.n) hd.c,.bool (hd.done),Ix (hd.at_),Ix (hd.e),.slice hd.q (hd.m) hd.k],.bool ((dS.look ms au).isSome)]) (fI (congrArg (fun z=>Value.tuple #[dS.encv z,.bool (dS.look ms au).isSome]) hlk) (xD (K:=dS) (b:=mm) (ks:=ms) (k:=au) rfl rfl rfl (bF.of_res 4 rfl (aZ.mono _ _ _) fun _ h=>h))) ?_
 refine lE oE (lE qS (lE xK (gB fun b2=> ?_)))
 refine lu (mS 0 (#[Ix (hd.author),Ix (hd.number),.slice hd.p (hd.n) hd.c,.bool (hd.done),Ix (hd.at_),Ix (hd.e),.slice hd.q (hd.m) hd.k])) (lE dW ?_)
 refine aN (aL ?_)
 refine jH [sv 22 (pp b2 0) [] [] [0],sv 23 (pp b2 1) [0] [0] [],sv 24 (Ix (hd.number)) [0,1] [1] [],sv 25 (pp b2 3) [] [] [0],sv 26 (.agg #[.bool (hd.done),Ix (hd.at_),Ix (hd.e),.slice hd.q (hd.m) hd.k]) [3] [3] [],⟨[3,4],[4],[],[27],fun f=>f 27= .agg #[.bool (hd.done),Ix (hd.at_),Ix (hd.e),sB (agA (f 27)) mhl (agC (f 27))]⟩,sv 28 (.bool ((dS.look ms au).isSome)) [] [] [1],sv 4 (Ix (hd.number)) (List.range 6) [2] [],⟨[0,1,2,3,4,5,7],[5],[2],[],fun _=>True⟩,sv 6 (.bool ((dS.look ms au).isSome)) (List.range 9) [6] []] [u1 [2,4],(some 8,[8]),u0,u0,u0,u0,u1 [5]] [⟨(some 5),none,[],[27],fun f=>aM bA 3 (agA (f 27)) (agC (f 27)) mhl⟩,⟨(some 8),none,[],[27],fun f=>pt b1 (.cells #[.bool (hd.done),Ix (hd.at_),Ix (hd.e),sB (agA (f 27)) mhl (agC (f 27))] 37)⟩] [(7,pp b2 0),(6,.bool ((dS.look ms au).isSome)),(5,pp b1 0)] [2] ⟨rfl,rfl,rfl,trivial⟩ ⟨?_,?_,?_,?_,?_,?_,?_,?_,?_,?_,trivial⟩ ?_
 ·rintro f M-⟨i0,-⟩
  exact aU aY
 ·rintro f M ⟨k0,-⟩-
  exact aU aY
 ·rintro f M ⟨k0,-⟩-
  exact aU (cQ 0)
 ·rintro f M-⟨i0,-⟩
  exact aU aY
 ·rintro f M ⟨k0,-⟩-
  exact aU (dD 0)
 ·rintro f M ⟨k0,-⟩-
  refine dU (aB (d:=26) rfl k0) ?_
  refine pN (cK (vs:=[.agg #[.bool (hd.done),Ix (hd.at_),Ix (hd.e),.slice hd.q (hd.m) hd.k]]) aTs.ok rfl rfl) rfl fun w β1 sb kn hw1 back=>(aHz β1 w hw1 hd.done hd.at_ hd.e _ mhl (kn _ (aJz 0 rfl hlo)) (by omega)).mono ?_
  rintro e w' ⟨p5,c6,rfl,hw'⟩
  refine⟨_,rfl,_,back _ _ hw',?_⟩
  refine aH ?_
  exact aO (aB (d:=26) rfl k0) rfl ((aA 0 rfl).trans (aA 1 rfl))
 ·rintro f M-⟨i0,-⟩
  exact aU fJ
 ·rintro f M ⟨k0,-⟩-
  exact aU bN
 ·rintro f M ⟨k0,-⟩ ⟨i0,-⟩
  have hs27:f 27= .agg #[.bool (hd.done),Ix (hd.at_),Ix (hd.e),sB (agA (f 27)) mhl (agC (f 27))]:=k0
  refine dU (aB (aB (d:=5) rfl i0) hs27) ?_
  refine lu (mS 0 (#[.bool (hd.done),Ix (hd.at_),Ix (hd.e),sB (agA (f 27)) mhl (agC (f 27))])) (aH ?_)
  exact bB (aB (aB (d:=5) rfl i0) hs27) trivial (aA 0 rfl)
 ·rintro f M ⟨k0,-⟩-
  exact aU dW
 rintro fa7 ⟨-,-,-,-,-,-,-,k7,-,k9,-⟩ ⟨j0,-⟩
 refine jI ?_
 refine aD (d:=4) k7 (aD (d:=5) j0 (aD (d:=6) k9 (ftr ?_)))
 refine gA (m:=[Ix (hd.number),.agg #[.bool (hd.done),Ix (hd.at_),Ix (hd.e),sB (agA (fa7 27)) mhl (agC (fa7 27))],.bool ((dS.look ms au).isSome)]) Tryz.results18 ⟨eL (v:=Ix (hd.number)) rfl,bQ aEd.ok rfl (bY 7 rfl rfl) rfl,eL (v:= .bool ((dS.look ms au).isSome)) rfl,trivial⟩ rfl ?_
 intro w hw
 replace hw:=hw.perm (L':=[pt H (.cells #[pp J 0,.map (some mp),.map (some mh),Ix (s.last),Ix (s.su.a0),Ix (s.su.a1),Ix (s.su.a2),Ix (s.su.a3),.map (some mm),.bool (dn)] 91),aZ bW mp s.ps,aZ bK mh s.hs,aZ dS mm ms,cV zs,aM bA 3 (agA (fa7 27)) (agC (fa7 27)) mhl,pt b2 (.cells #[Ix (hd.author),Ix (hd.number),.slice hd.p (hd.n) hd.c,.bool (hd.done),Ix (hd.at_),Ix (hd.e),.slice hd.q (hd.m) hd.k] 82),pt b1 (.cells #[.bool (hd.done),Ix (hd.at_),Ix (hd.e),sB (agA (fa7 27)) mhl (agC (fa7 27))] 37)]) (by exact(aV [1,2,3,4,5,6,0,7] 8 rfl (by kernel_rfl) (by kernel_rfl)))
 replace hw:=aF (L':=[pt H (.cells #[pp J 0,.map (some mp),.map (some mh),Ix (s.last),Ix (s.su.a0),Ix (s.su.a1),Ix (s.su.a2),Ix (s.su.a3),.map (some mm),.bool (dn)] 91),aZ bW mp s.ps,aZ bK mh s.hs,aZ dS mm ms,cV zs,aM bA 3 (agA (fa7 27)) (agC (fa7 27)) mhl]) [true,true,true,true,true,true,false,false] rfl hw
 have hw2:=St.closeView (M:=[aM bA 3 (agA (fa7 27)) (agC (fa7 27)) mhl]) hk hw
 exact⟨_,_,_,hlo.last,(agA (fa7 27)),(agC (fa7 27)),rfl,hw2.perm (List.Perm.swap _ _ _)⟩
theorem aBi(β:Base)(w:World)(H J:Nat)(X:KHs)(dn:Bool)(hw:St β [fV H J X dn] w)(n:Int):Calls Tryz.prog 44 #[pp H 0,Ix n] w fun r w'=>r= .returned (.agg (eI (iJ X.s.ps n)))∧St β [fV H J X dn] w':=by
 obtain⟨mp,mh,mm,s,ms,zs,hk,hw⟩:=St.openView hw
 refine enter (n:=16) Tryz.func44 rfl Tryz.ntmps44 rfl ?_ hw
 refine bE (gB fun b1=>aN (eS (aC (lE dN (iF iE (fun w β1 sb kn hw1=>mC β1 w hw1 _ _ _ _ _ s _ (kn _ (bY 1 rfl rfl))) ?_)))))
 refine lE lX (aN (cY rfl (eF (bE (lE dN (lE eM (lE aY (lE aY (lv (v:= .map (some mp)) (bH rL.ok rfl (bY 1 rfl rfl)) (lE aX ?_))))))))))
 refine lv (v:= .agg (eI ((bW.look s.ps (n)).getD zeroA))) (lA (K:=bW) (b:=mp) (ks:=s.ps) (k:=(n)) rfl rfl rfl (bF.of_res 2 rfl (aZ.mono _ _ _) fun _ h=>h)) ?_
 refine lu (mS 0 (eI ((bW.look s.ps (n)).getD zeroA))) (aN (aT ?_))
 refine gA (m:=[.agg (eI ((bW.look s.ps (n)).getD zeroA))]) Tryz.results44 ⟨bQ tt0.ok rfl (bY 0 rfl rfl) rfl,trivial⟩ rfl ?_
 intro w hw
 replace hw:=hw.perm (L':=[pt H (.cells #[pp J 0,.map (some mp),.map (some mh),Ix (s.last),Ix (s.su.a0),Ix (s.su.a1),Ix (s.su.a2),Ix (s.su.a3),.map (some mm),.bool (dn)] 91),aZ bW mp s.ps,aZ bK mh s.hs,aZ dS mm ms,cV zs,pt b1 (.cells (eI ((bW.look s.ps (n)).getD zeroA)) 44)]) (by exact(aV [1,2,3,4,5,0] 6 rfl (by kernel_rfl) (by kernel_rfl)))
 replace hw:=aF (L':=[pt H (.cells #[pp J 0,.map (some mp),.map (some mh),Ix (s.last),Ix (s.su.a0),Ix (s.su.a1),Ix (s.su.a2),Ix (s.su.a3),.map (some mm),.bool (dn)] 91),aZ bW mp s.ps,aZ bK mh s.hs,aZ dS mm ms,cV zs]) [true,true,true,true,true,false] rfl hw
 have hw2:=St.closeView (M:=[]) hk hw
 exact⟨by rw[←hk.purse]<;>rfl,hw2⟩
theorem zM(β:Base)(w:World)(H J:Nat)(X:KHs)(dn:Bool)(hw:St β [fV H J X dn] w):Calls Tryz.prog 15 #[pp H 0] w fun r w'=>r= .returned (.agg (eI X.s.su))∧St β [fV H J X dn] w':=by
 obtain⟨mp,mh,mm,s,ms,zs,hk,hw⟩:=St.openView hw
 refine enter (n:=12) Tryz.func15 rfl Tryz.ntmps15 rfl ?_ hw
 refine bE (gB fun b1=>aN (eS (aC (lE dN (iF iE (fun w β1 sb kn hw1=>mC β1 w hw1 _ _ _ _ _ s _ (kn _ (bY 1 rfl rfl))) ?_)))))
 refine lE lX (aN (cY rfl (eF (bE (lE dN (lE eM (lE aY (lE aY (lE (dD 1) (lu (mS 0 (eI s.su)) (aN (aT ?_))))))))))))
 refine gA (m:=[.agg (eI s.su)]) Tryz.results15 ⟨bQ tt0.ok rfl (bY 0 rfl rfl) rfl,trivial⟩ rfl ?_
 intro w hw
 replace hw:=hw.perm (L':=[pt H (.cells #[pp J 0,.map (some mp),.map (some mh),Ix (s.last),Ix (s.su.a0),Ix (s.su.a1),Ix (s.su.a2),Ix (s.su.a3),.map (some mm),.bool (dn)] 91),aZ bW mp s.ps,aZ bK mh s.hs,aZ dS mm ms,cV zs,pt b1 (.cells (eI s.su) 44)]) (by exact(aV [1,2,3,4,5,0] 6 rfl (by kernel_rfl) (by kernel_rfl)))
 replace hw:=aF (L':=[pt H (.cells #[pp J 0,.map (some mp),.map (some mh),Ix (s.last),Ix (s.su.a0),Ix (s.su.a1),Ix (s.su.a2),Ix (s.su.a3),.map (some mm),.bool (dn)] 91),aZ bW mp s.ps,aZ bK mh s.hs,aZ dS mm ms,cV zs]) [true,true,true,true,true,false] rfl hw
 have hw2:=St.closeView (M:=[]) hk hw
 exact⟨by rw[←hk.supply]<;>rfl,hw2⟩
theorem aIa(β:Base)(w:World)(H J:Nat)(X:KHs)(dn:Bool)(hw:St β [fV H J X dn] w):Calls Tryz.prog 14 #[pp H 0] w fun r w'=>∃p c,r= .returned (sB p (rV X) c)∧St β [aM bA 3 p c (rV X),fV H J X dn] w':=by
 obtain⟨mp,mh,mm,s,ms,zs,hk,hw⟩:=St.openView hw
 refine enter (n:=13) Tryz.func14 rfl Tryz.ntmps14 rfl ?_ hw
 refine bE (lE iT (aN (eS (aC (lE dN (iF iE (fun w β1 sb kn hw1=>mC β1 w hw1 _ _ _ _ _ s _ (kn _ (bY 0 rfl rfl))) (lE lX ?_)))))))
 refine aN (cY rfl (eF (bE (lE dN (lE eM (lE aY (lE aY (lv (v:= .map (some mp)) (bH rL.ok rfl (bY 0 rfl rfl)) ?_))))))))
 refine pN (cK (vs:=[.map (some mp)]) aZq.ok rfl rfl) rfl fun w β1 sb kn hw1 back=>(aFu β1 w hw1 mp).mono ?_
 rintro e w' ⟨b1,rfl,hw'⟩
 refine⟨_,rfl,_,back _ _ hw',?_⟩
 refine aW rfl rfl rfl (cK (vs:=[.func (.func 80) #[] #[pp b1 0]]) aGt.ok rfl rfl) ?_
 intro w hw
 obtain⟨β1,sb,kn,hw1,back⟩:=St.frame (L:=[_]) (M:=_::_::_::_::_::[]) hw
 refine(nB β1 w _ _ _ (aBe β1 b1 mp s.ps (kn _ (bF.of_res 1 rfl (aZ.mono _ _ _) fun _ h=>h))) (Nat.le_trans hk.pfew (by decide)) hw1).mono ?_
 rintro e w' ⟨p2,c3,rfl,hw'⟩
 refine⟨_,rfl,_,back _ _ hw',?_⟩
 refine lE iT (aN (aT (cZ Tryz.results14 (v:=sB p2 (sortI (s.ps.map (·.1))) c3) rfl ?_)))
 intro w hw
 replace hw:=hw.perm (L':=[pt H (.cells #[pp J 0,.map (some mp),.map (some mh),Ix (s.last),Ix (s.su.a0),Ix (s.su.a1),Ix (s.su.a2),Ix (s.su.a3),.map (some mm),.bool (dn)] 91),aZ bW mp s.ps,aZ bK mh s.hs,aZ dS mm ms,cV zs,aM bA 3 p2 c3 (sortI (s.ps.map (·.1)))]) (by exact(aV [1,2,3,4,5,0] 6 rfl (by kernel_rfl) (by kernel_rfl)))
 have hw2:=St.closeView (M:=[aM bA 3 p2 c3 (sortI (s.ps.map (·.1)))]) hk hw
 rw[hk.owners]at hw2;exact⟨p2,c3,by rw[hk.owners],hw2.perm (List.Perm.swap _ _ _)⟩
theorem aBa(β:Base)(w:World)(H J:Nat)(X:KHs)(dn:Bool)(hw:St β [fV H J X dn] w):Calls Tryz.prog 13 #[pp H 0] w fun r w'=>∃p c,r= .returned (sB p (gN X) c)∧St β [aM fD 104 p c (gN X),fV H J X dn] w':=by
 obtain⟨mp,mh,mm,s,ms,zs,hk,hw⟩:=St.openView hw
 refine enter (n:=33) Tryz.func13 rfl Tryz.ntmps13 rfl ?_ hw
 refine bE (lE iT (aN (eS (aC (lE dN (iF iE (fun w β1 sb kn hw1=>mC β1 w hw1 _ _ _ _ _ s _ (kn _ (bY 0 rfl rfl))) (lE lX ?_)))))))
 refine aN (cY rfl (eF (bE (lE iT (aN (eS (jN (r:=aM fD 104 none 0 []) (eG _ _ _) (aC (lE dN (lE eM (lE aY (lE aY ?_))))))))))))
 refine lv (v:= .map (some mh)) (bH uZ.ok rfl (bY 1 rfl rfl)) ?_
 refine pN (cK (vs:=[.map (some mh)]) aZr.ok rfl rfl) rfl fun w β1 sb kn hw1 back=>(aFt β1 w hw1 mh).mono ?_
 rintro e w' ⟨b1,rfl,hw'⟩
 refine⟨_,rfl,_,back _ _ hw',?_⟩
 refine aW rfl rfl rfl (cK (vs:=[.func (.func 79) #[] #[pp b1 0]]) aGt.ok rfl rfl) ?_
 intro w hw
 obtain⟨β1,sb,kn,hw1,back⟩:=St.frame (L:=[_]) (M:=_::_::_::_::_::_::[]) hw
 refine(nB β1 w _ _ _ (aBd β1 b1 mh s.hs (kn _ (bF.of_res 3 rfl (aZ.mono _ _ _) fun _ h=>h))) (Nat.le_trans hk.hfew (by decide)) hw1).mono ?_
 rintro e w' ⟨p2,c3,rfl,hw'⟩
 refine⟨_,rfl,_,back _ _ hw',?_⟩
 refine lE gO (lE aX (aN (aK ?_)))
 refine dB (fun(x_:Nat×List KHo×Option Addr×Nat) f L=>match x_ with|(kk,hol,p,c)=>(f 0=pp H 0∧f 3=sB p hol c∧f 15=sB p2 (sortI (s.hs.map (·.1))) c3∧f 16=Nx ((sortI (s.hs.map (·.1))).length)∧f 17=Nx (kk))∧L=[aM bA 3 p2 c3 (sortI (s.hs.map (·.1))),aM fD 104 p c hol,pt H (.cells #[pp J 0,.map (some mp),.map (some mh),Ix (s.last),Ix (s.su.a0),Ix (s.su.a1),Ix (s.su.a2),Ix (s.su.a3),.map (some mm),.bool (dn)] 91),aZ bW mp s.ps,aZ bK mh s.hs,aZ dS mm ms,cV zs]∧(kk≤(sortI (s.hs.map (·.1))).length∧hol=((sortI (s.hs.map (·.1))).take kk).map (mB s.hs))) (fun(kk,hol,p,c)=>(sortI (s.hs.map (·.1))).length-kk) (0,[],none,0) ?_ ?_
 ·exact⟨⟨rfl,rfl,rfl,rfl,rfl⟩,rfl,⟨Nat.zero_le _,rfl⟩⟩
 rintro⟨kk,hol,p,c⟩ f0 L0 ⟨⟨hs0,hs3,hs15,hs16,hs17⟩,hL,⟨hkl,hhs⟩⟩
 subst L0
 refine bM 0 hs0 (bM 3 hs3 (bM 15 hs15 (bM 16 hs16 (bM 17 hs17 ?_))))
 have hsl:(sortI (s.hs.map (·.1))).length≤128:=by rw[jF];exact hk.hfew
 have hhl:hol.length≤256:=by rw[hhs,List.length_map,List.length_take,jF];have:=hk.hfew;omega
 refine bE (lE gH (aN (aL (cG _ rfl (fun hc4=> ?_) (fun hc4=> ?_)))))
 ·refine eF (aL (aK (bE (lv (v:= .pointer (some ((ba p2).add (kk*1)))) (eT 0 (F:=bA) rfl rfl rfl rK (by omega) rfl) ?_))))
  obtain⟨x5,hx6⟩:∃x_,(sortI (s.hs.map (·.1)))[kk]? =some x_:=⟨_,List.getElem?_eq_getElem (by first|omega|decide)⟩
  refine lv (v:=Ix (x5)) (bH tt2.ok rfl (mT 0 (F:=bA) rfl hx6)) (lE bN (wU (lE fN (lE dN (lE eM (lE aY (lE aY ?_)))))))
  refine lv (v:= .map (some mh)) (bH uZ.ok rfl (bY 2 rfl rfl)) (lE aX ?_)
  refine lv (v:= .agg #[Ix (((bK.look s.hs (x5)).getD bC).number),Ix (((bK.look s.hs (x5)).getD bC).owner),Ix (((bK.look s.hs (x5)).getD bC).a.a0),Ix (((bK.look s.hs (x5)).getD bC).a.a1),Ix (((bK.look s.hs (x5)).getD bC).a.a2),Ix (((bK.look s.hs (x5)).getD bC).a.a3)]) (lA (K:=bK) (b:=mh) (ks:=s.hs) (k:=(x5)) rfl rfl rfl (bF.of_res 4 rfl (aZ.mono _ _ _) fun _ h=>h)) ?_
  refine dX rfl rfl rfl (dO aLh aTt.ok (cells:= #[Ix (((bK.look s.hs (x5)).getD bC).number),Ix (((bK.look s.hs (x5)).getD bC).owner),Ix (((bK.look s.hs (x5)).getD bC).a.a0),Ix (((bK.look s.hs (x5)).getD bC).a.a1),Ix (((bK.look s.hs (x5)).getD bC).a.a2),Ix (((bK.look s.hs (x5)).getD bC).a.a3)]) rfl rfl rfl rfl) ?_
  rintro _ _ ⟨b7,rfl,rfl⟩
  refine dX rfl rfl rfl (dF (F:=fD) 2 aLh bFa (p:=p) (m:=hol.length) (xs:=hol) (ys:=[((bK.look s.hs (x5)).getD bC)]) (ao:=(some ⟨b7,0,none⟩)) (k:=1) (c:=1) rfl rfl rfl rfl rfl (jM (z:=((bK.look s.hs (x5)).getD bC)) 0 rfl rfl) (by first|omega|simp only[List.length_nil,List.length_cons,List.length_append,List.length_set];omega) (by first|omega|simp only[List.length_nil,List.length_cons,List.length_append,List.length_set];omega)) ?_
  rintro _ _ ⟨rp8,rc9,rfl,rfl⟩
  refine lE iT (aH (aR (bD (aC (lv (v:=Nx (kk+1)) (bX rfl rfl (dA (by omega) (by omega))) (lE aX (aH ?_)))))))
  refine dM [false,true,true,true,true,true,true,true] rfl ?_
  exact bI ⟨(kk+1,(hol++[((bK.look s.hs (x5)).getD bC)]),rp8,rc9),⟨⟨rfl,rfl,rfl,rfl,rfl⟩,rfl,⟨by omega,by rw[hhs];exact aHs hx6⟩⟩,(show(sortI (s.hs.map (·.1))).length-(kk+1)<(sortI (s.hs.map (·.1))).length-kk from by omega)⟩
 refine cM (aG (aG (cN (kM (lE fN (lE iT (aN (aT (cZ Tryz.results13 rfl ?_)))))))))
 intro w hw
 have hhe:hol=gN X:=by rw[←hk.holds,hhs,List.take_of_length_le (by omega)]
 subst hhe
 replace hw:=hw.perm (L':=[pt H (.cells #[pp J 0,.map (some mp),.map (some mh),Ix (s.last),Ix (s.su.a0),Ix (s.su.a1),Ix (s.su.a2),Ix (s.su.a3),.map (some mm),.bool (dn)] 91),aZ bW mp s.ps,aZ bK mh s.hs,aZ dS mm ms,cV zs,aM fD 104 p c (gN X),aM bA 3 p2 c3 (sortI (s.hs.map (·.1)))]) (by exact(aV [2,3,4,5,6,1,0] 7 rfl (by kernel_rfl) (by kernel_rfl)))
 replace hw:=aF (L':=[pt H (.cells #[pp J 0,.map (some mp),.map (some mh),Ix (s.last),Ix (s.su.a0),Ix (s.su.a1),Ix (s.su.a2),Ix (s.su.a3),.map (some mm),.bool (dn)] 91),aZ bW mp s.ps,aZ bK mh s.hs,aZ dS mm ms,cV zs,aM fD 104 p c (gN X)]) [true,true,true,true,true,true,false] rfl hw
 have hw2:=St.closeView (M:=[aM fD 104 p c (gN X)]) hk hw
 exact⟨p,c,rfl,hw2.perm (List.Perm.swap _ _ _)⟩
theorem aSe(β:Base)(w:World)(H S N W:Nat)(pw:Int)(X:KHs)(hw:St β [cO H S X N W pw] w)(n:Int):Calls Tryz.prog 44 #[pp H 0,Ix n] w fun r w'=>r= .returned (.agg (eI (iJ X.s.ps n)))∧St β [cO H S X N W pw] w':=by
 refine(vR (Φ:=fun r L=>r= .returned (.agg (eI (iJ X.s.ps n)))∧L=[]) hw (fun β w J hw=>(aBi β w H J X false hw n).mono ?_)).mono ?_
 ·rintro r w' ⟨rfl,hw'⟩;exact⟨[],⟨rfl,rfl⟩,hw'⟩
 rintro r w' ⟨L,⟨rfl,rfl⟩,hw'⟩;exact⟨rfl,hw'⟩
theorem aNw(β:Base)(w:World)(H S N W:Nat)(pw:Int)(X:KHs)(hw:St β [cO H S X N W pw] w):Calls Tryz.prog 15 #[pp H 0] w fun r w'=>r= .returned (.agg (eI X.s.su))∧St β [cO H S X N W pw] w':=by
 refine(vR (Φ:=fun r L=>r= .returned (.agg (eI X.s.su))∧L=[]) hw (fun β w J hw=>(zM β w H J X false hw).mono ?_)).mono ?_
 ·rintro r w' ⟨rfl,hw'⟩;exact⟨[],⟨rfl,rfl⟩,hw'⟩
 rintro r w' ⟨L,⟨rfl,rfl⟩,hw'⟩;exact⟨rfl,hw'⟩
theorem aQr(β:Base)(w:World)(H S N W:Nat)(pw:Int)(X:KHs)(hw:St β [cO H S X N W pw] w):Calls Tryz.prog 13 #[pp H 0] w fun r w'=>∃p c,r= .returned (sB p (gN X) c)∧St β [aM fD 104 p c (gN X),cO H S X N W pw] w':=by
 refine(vR (Φ:=fun r L=>∃p c,r= .returned (sB p (gN X) c)∧L=[aM fD 104 p c (gN X)]) hw (fun β w J hw=>(aBa β w H J X false hw).mono ?_)).mono ?_
 ·rintro r w' ⟨p,c,rfl,hw'⟩;exact⟨_,⟨p,c,rfl,rfl⟩,hw'⟩
 rintro r w' ⟨L,⟨p,c,rfl,rfl⟩,hw'⟩;exact⟨p,c,rfl,hw'⟩
end Go.Proofs
