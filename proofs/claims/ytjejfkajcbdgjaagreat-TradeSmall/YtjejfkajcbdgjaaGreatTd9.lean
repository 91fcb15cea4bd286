/-
  Own work; plain Lean (Td7, Td9).
-/
import Derived.Test.YtjejfkajcbdgjaaGreatJn6
import Derived.Test.YtjejfkajcbdgjaaGreatTd8
set_option linter.all false
set_option maxHeartbeats 4000000
namespace Go.Proofs
open Go Go.Sl Go.Td Go.Jn
def agA:Value→Option Addr| .agg a=>dC (a.toList[3]?.getD .nilFunc)|_=>none
def agC:Value→Nat| .agg a=>dE (a.toList[3]?.getD .nilFunc)|_=>0
def kN(k:Nat):Value→Nat| .tuple ⟨[.agg a,_]⟩=>kL (a.toList[k]?.getD .nilFunc)|_=>0
def tsA:Value→Option Addr| .tuple ⟨[_,.agg a]⟩=>dC (a.toList[3]?.getD .nilFunc)|_=>none
def tcA:Value→Nat| .tuple ⟨[_,.agg a]⟩=>dE (a.toList[3]?.getD .nilFunc)|_=>0
theorem aBd(β:Base)(w:World)(mp mh mm:Nat)(s:KSt)(ms:List (Int×KMh))(hw:St β [bB cC mp s.ps,bB bL mh s.hs,bB dW mm ms] w)(au nu:Int)(v:Value)(xs:List KAct)(hs:Sl cJ.R β.heap v xs)(hfo:∀x∈xs,x.formed=true)(hn:xs.length≤16)(M:Int)(hM:M≤1152921504606846976)(hg:GoodS s M):
  Calls Tryz.prog 39 #[.agg (vO mp mh mm s.last s.su),.agg #[Ix au,Ix nu,v]] w fun r w'=>∃mq hq mn p c,r= .returned (.tuple #[.agg (vO mq hq mn (aE s xs).1.last (aE s xs).1.su),.agg #[.bool (aE s xs).2.done,Ix (aE s xs).2.at_,Ix (aE s xs).2.e,sB p (aE s xs).2.holds c]])∧St β [bB cC mq (aE s xs).1.ps,bB bL hq (aE s xs).1.hs,bB dW mn (dW.put ms au ⟨au,nu,dC v,xs.length,dE v,(aE s xs).2.done,(aE s xs).2.at_,(aE s xs).2.e,p,(aE s xs).2.holds.length,c⟩),aK aZ 3 p c (aE s xs).2.holds] w':=by
 refine(aPu β w mp mh mm s ms hw au nu v xs hs hfo hn M hM hg).mono ?_
 rintro r w' ⟨mq,hq,mn,p,c,z,ro,h1,h2,h3⟩
 rw[h1]
 exact⟨mq,hq,mn,p,c,h2,h3⟩
instance tt96:CfC Tryz.prog 32:={}
instance bJs:CfC Tryz.prog 33:={}
theorem bHe:xC Tryz.prog 80 [(0,1),(1,1),(2,1)]=true:=by kernel_rfl
instance bHf:ZerC Tryz.prog 80 (.agg #[.int .i64 (0),.int .i64 (0),.slice none 0 0]):={}
instance tt100:FldC Tryz.prog 91 1 1 8 true:={}
instance tt101:TyC Tryz.prog 82 true 7:={}
instance bAg:CfC Tryz.prog 34:={}
instance tt103:FldC Tryz.prog 82 0 0 3 true:={}
instance bFs:CfC Tryz.prog 35:={}
instance tt105:FldC Tryz.prog 82 1 3 4 true:={}
instance aUi:CfC Tryz.prog 36:={}
instance bFt:CfC Tryz.prog 37:={}
instance bAh:CfC Tryz.prog 38:={}
instance bAi:CfC Tryz.prog 39:={}
theorem bBk(β:Base)(w:World)(H S N e z:Nat)(pw:Int)(X:KHs)(hw:St β [rK H S X N pw e z] w)(au nu:Int)(v:Value)(al:List KAct)(hs:Sl cJ.R β.heap v al)(hal:al.length≤1048576)(hh63:wF al)(hN:N≤1000000)(hz:cO au nu al=true→z+24+(fI au nu al [] 0).length≤262144):Calls Tryz.prog 12 #[pp H 0,Ix au,Ix nu,v] w fun r w'=>∃X1 R e1,sH X au nu al=(X1,R,e1)∧((∃p c q,(pw= -1→q= -1)∧r= .returned (.tuple #[.agg #[.bool R.done,Ix R.at_,Ix R.e,sB p R.holds c],Ix e1])∧St β [aK aZ 3 p c R.holds,cV H S X1 (N+1) (e*218000+z+494) q] w')∨(pw≠-1∧e1=0∧r= .returned (.tuple #[.agg #[.bool false,.int .i64 0,.int .i64 0,.slice none 0 0],.int .i64 310])∧∃q,St β [mC S X (N+1) (e*218000+z+494) q] w')):=by
 obtain⟨va,vc,rfl,vl,vm,ve⟩:=hs.get
 obtain⟨J,mp,mh,mm,s,ms,zs,i,k,hk,hpw,hie,hiz,hw⟩:=St.openE hw
 obtain⟨hd,mal,mhl,hlk,hlo,hnl,hml⟩:=hk.mm.lk au
 have hmb:mhl.length≤1048576:=hlo.few hk.so.ok
 refine enter (n:=132) Tryz.func12 rfl Tryz.ntmps12 rfl ?_ hw
 refine bD (gB fun b1=>lE bN (aN (eR (aC (lE dS ?_)))))
 refine gI gH (fun w β1 sb kn hw1=>aBn β1 w hw1 _ _ _ _ _ s (kn _ (cD 1 rfl rfl))) (lE bN (eY (lE aU (lE lO (aN (cR rfl (eB ?_)))))))
 refine bD (lE aU (lE aU (lE fL ?_)))
 refine pV (cT (vs:=[sB va al (vc)]) bJs.ok rfl rfl) rfl fun w β1 sb kn hw1 back=>(aMo β1 w hw1 _ al (Sl.mono _ _ _ _ _ sb (⟨⟨_,_,rfl,vl,vm,ve⟩⟩:Sl cJ.R _ _ al)) (by omega)).mono ?_
 rintro e w' ⟨p2,c3,rfl,hw'⟩
 refine⟨_,rfl,_,back _ _ hw',?_⟩
 refine lv (v:= .agg #[Ix (au),Ix (nu),sB p2 al c3]) (bV bHf.ok bHe (vs:=[(0,Ix (au)),(1,Ix (nu)),(2,sB p2 al c3)]) (cells:= #[Ix (au),Ix (nu),sB p2 al c3]) rfl rfl) ?_
 refine gB fun b4=>lu (mS 0 (#[Ix (au),Ix (nu),sB p2 al c3])) (eY (lE dS (lE eS (lE aY (lE aY ?_)))))
 refine lv (v:= .map (some mm)) (bI aEo.ok rfl (cD 3 rfl rfl)) (lE aU ?_)
 refine lv (v:= .tuple #[.agg #[Ix (hd.author),Ix (hd.number),.slice hd.p (hd.n) hd.c,.bool (hd.done),Ix (hd.at_),Ix (hd.e),.slice hd.q (hd.m) hd.k],.bool ((dW.look ms au).isSome)]) (eZ (congrArg (fun z=>Value.tuple #[dW.encv z,.bool (dW.look ms au).isSome]) hlk) (xS (K:=dW) (b:=mm) (ks:=ms) (k:=au) rfl rfl rfl (bH.of_res 8 rfl (bB.mono _ _ _) fun _ h=>h))) ?_
 refine lE oM (lE rG (lE yA (gB fun b5=> ?_)))
 refine lu (mS 0 (#[Ix (hd.author),Ix (hd.number),.slice hd.p (hd.n) hd.c,.bool (hd.done),Ix (hd.at_),Ix (hd.e),.slice hd.q (hd.m) hd.k])) (lE dP ?_)
 refine aN (aL (aJ (aL ?_)))
 cases hfm:cO au nu al
 ·have hnf:(!cO au nu al)=true:=by rw[hfm];rfl
  refine aC (lE (dK 1) (gI gH (fun w β1 sb kn hw1=>qC β1 w hw1 au nu _ al (kn _ (jK 2 (F:=cJ) (m:=al.length) rfl rfl))) ?_))
  refine lE mB (lE dP (aN (fH (!(cO au nu al)) rfl (fun hc6=> ?_) (fun hc6=> ?_))))
  ·refine bD ?_
   refine lv (v:= .agg #[.bool false,.int .i64 (0),.int .i64 (0),.slice none 0 0]) (bV aOs.ok aOt (vs:=[]) (cells:= #[.bool false,.int .i64 (0),.int .i64 (0),.slice none 0 0]) rfl rfl) ?_
   refine lu (mS 3 (#[.bool false,.int .i64 (0),.int .i64 (0),.slice none 0 0])) (lE bN (aN (aV (aR (aI ?_)))))
   refine gK (m:=[.agg #[.bool false,.int .i64 (0),.int .i64 (0),.slice none 0 0],.int .i64 (2)]) Tryz.results12 ⟨bS aEp.ok rfl (cD 3 rfl rfl) rfl,eP (v:= .int .i64 (2)) rfl,trivial⟩ rfl ?_
   intro w hw
   replace hw:=hw.perm (L':=[pt H (.cells #[pp J 0,.map (some mp),.map (some mh),Ix (s.last),Ix (s.su.a0),Ix (s.su.a1),Ix (s.su.a2),Ix (s.su.a3),.map (some mm),.bool false] 91),fA J S i false,aQ S k,bB cC mp s.ps,bB bL mh s.hs,bB dW mm ms,dG zs,pt b5 (.cells #[Ix (hd.author),Ix (hd.number),.slice hd.p (hd.n) hd.c,.bool (hd.done),Ix (hd.at_),Ix (hd.e),.slice hd.q (hd.m) hd.k] 82),pt b4 (.cells #[Ix (au),Ix (nu),sB p2 al c3] 80),aK cJ 47 p2 c3 al,pt b1 (.cells #[.bool false,.int .i64 (0),.int .i64 (0),.slice none 0 0] 37)]) (by exact(aW [4,5,6,7,8,9,10,0,1,2,3] 11 rfl (by kernel_rfl) (by kernel_rfl)))
   replace hw:=aG (L':=[pt H (.cells #[pp J 0,.map (some mp),.map (some mh),Ix (s.last),Ix (s.su.a0),Ix (s.su.a1),Ix (s.su.a2),Ix (s.su.a3),.map (some mm),.bool false] 91),fA J S i false,aQ S k,bB cC mp s.ps,bB bL mh s.hs,bB dW mm ms,dG zs]) [true,true,true,true,true,true,true,false,false,false,false] rfl hw
   have hw2:=St.closeHouse (M:=[]) (hk.mono (Nat.le_add_right N 1) (Nat.le_add_right _ 494)) hpw hw
   exact⟨_,_,_,aVu hlo hfm,.inl ⟨none,0,_,id,rfl,hw2.emp (eA _ _ _)⟩⟩
  rw[hnf]at hc6;cases hc6
 have hnf:(!cO au nu al)=false:=by rw[hfm];rfl
 obtain⟨hfau,hfnu,hfl,hfa⟩:=fJ.1 hfm
 have hlen:=rS hfm
 refine aC (lE (dK 1) (gI gH (fun w β1 sb kn hw1=>qC β1 w hw1 au nu _ al (kn _ (jK 2 (F:=cJ) (m:=al.length) rfl rfl))) ?_))
 refine lE mB (lE dP (aN (fH (!(cO au nu al)) rfl (fun hc7=> ?_) (fun hc7=> ?_))))
 ·rw[hnf]at hc7;cases hc7
 refine bD (lE fM (oL ((dW.look ms au).isSome) (decide ((hd.number)=(nu))) rfl (fun hb8 hk8=> ?_) (fun z9 z10 z11 z12 z13=> ?_)))
 ·refine gE aY (gE aY (gE (cY 0) (gE aU (gE fD (lE eF ?_)))))
  exact hk8 _ _ _ _ _
 refine oL (((dW.look ms au).isSome)&&(decide ((hd.number)=(nu)))) (decide (mal=al)) rfl (fun hb14 hk14=> ?_) (fun z15 z16 z17 z18 z19=> ?_)
 ·refine gE aY (gE aY (gE (fQ 0) (gE fL (eM rfl rfl rfl rfl rfl (cT (vs:=[.slice hd.p (hd.n) hd.c,sB va al (vc)]) bFs.ok rfl rfl) ?_))))
  intro w hw
  obtain⟨β1,sb,kn,hw1,back⟩:=St.frame_all hw
  refine(aNc β1 w hw1 _ _ mal al (kn _ (aZz 10 rfl hlo)) (Sl.mono _ _ _ _ _ sb (⟨⟨_,_,rfl,vl,vm,ve⟩⟩:Sl cJ.R _ _ al))).mono ?_
  rintro e w' ⟨rfl,hw'⟩
  refine⟨_,rfl,_,back _ _ hw',?_⟩
  refine lE eF ?_
  exact hk14 _ _ _ _ _
 refine lE dP (aN ?_)
 refine fH (((((dW.look ms au).isSome)&&(decide ((hd.number)=(nu))))&&(decide (mal=al)))) rfl (fun hc20=> ?_) (fun hc20=> ?_)
 ·refine bD (lE aY (lE (dK 0) ?_))
  refine pV (cT (vs:=[.agg #[.bool (hd.done),Ix (hd.at_),Ix (hd.e),.slice hd.q (hd.m) hd.k]]) aUi.ok rfl rfl) rfl fun w β1 sb kn hw1 back=>(aIn β1 w hw1 hd.done hd.at_ hd.e _ mhl (kn _ (aKp 10 rfl hlo)) (by omega)).mono ?_
  rintro e w' ⟨p21,c22,rfl,hw'⟩
  refine⟨_,rfl,_,back _ _ hw',?_⟩
  refine lu (mS 4 (#[.bool (hd.done),Ix (hd.at_),Ix (hd.e),sB p21 mhl c22])) (lE bN (aN (aV (aR (aI ?_)))))
  refine gK (m:=[.agg #[.bool (hd.done),Ix (hd.at_),Ix (hd.e),sB p21 mhl c22],.int .i64 (0)]) Tryz.results12 ⟨bS aEp.ok rfl (cD 4 rfl rfl) rfl,eP (v:= .int .i64 (0)) rfl,trivial⟩ rfl ?_
  intro w hw
  replace hw:=hw.perm (L':=[pt H (.cells #[pp J 0,.map (some mp),.map (some mh),Ix (s.last),Ix (s.su.a0),Ix (s.su.a1),Ix (s.su.a2),Ix (s.su.a3),.map (some mm),.bool false] 91),fA J S i false,aQ S k,bB cC mp s.ps,bB bL mh s.hs,bB dW mm ms,dG zs,aK aZ 3 p21 c22 mhl,pt b5 (.cells #[Ix (hd.author),Ix (hd.number),.slice hd.p (hd.n) hd.c,.bool (hd.done),Ix (hd.at_),Ix (hd.e),.slice hd.q (hd.m) hd.k] 82),pt b4 (.cells #[Ix (au),Ix (nu),sB p2 al c3] 80),aK cJ 47 p2 c3 al,pt b1 (.cells #[.bool (hd.done),Ix (hd.at_),Ix (hd.e),sB p21 mhl c22] 37)]) (by exact(aW [5,6,7,8,9,10,11,0,1,2,3,4] 12 rfl (by kernel_rfl) (by kernel_rfl)))
  replace hw:=aG (L':=[pt H (.cells #[pp J 0,.map (some mp),.map (some mh),Ix (s.last),Ix (s.su.a0),Ix (s.su.a1),Ix (s.su.a2),Ix (s.su.a3),.map (some mm),.bool false] 91),fA J S i false,aQ S k,bB cC mp s.ps,bB bL mh s.hs,bB dW mm ms,dG zs,aK aZ 3 p21 c22 mhl]) [true,true,true,true,true,true,true,true,false,false,false,false] rfl hw
  have hw2:=St.closeHouse (M:=[aK aZ 3 p21 c22 mhl]) (hk.mono (Nat.le_add_right N 1) (Nat.le_add_right _ 494)) hpw hw
  exact⟨_,_,_,aQh hlo hfm hc20,.inl ⟨p21,c22,_,id,rfl,hw2.perm (List.Perm.swap _ _ _)⟩⟩
 refine bD (lE fM (oL ((dW.look ms au).isSome) (decide ((hd.number)=(nu))) rfl (fun hb23 hk23=> ?_) (fun z24 z25 z26 z27 z28=> ?_)))
 ·refine gE aY (gE aY (gE (cY 0) (gE aU (gE fD (lE eF ?_)))))
  exact hk23 _ _ _ _ _
 refine lE dP (aN (fH ((((dW.look ms au).isSome)&&(decide ((hd.number)=(nu))))) rfl (fun hc29=> ?_) (fun hc29=> ?_)))
 ·refine bD ?_
  refine lv (v:= .agg #[.bool false,.int .i64 (0),.int .i64 (0),.slice none 0 0]) (bV aOs.ok aOt (vs:=[]) (cells:= #[.bool false,.int .i64 (0),.int .i64 (0),.slice none 0 0]) rfl rfl) ?_
  refine lu (mS 3 (#[.bool false,.int .i64 (0),.int .i64 (0),.slice none 0 0])) (lE bN (aN (aV (aR (aI ?_)))))
  refine gK (m:=[.agg #[.bool false,.int .i64 (0),.int .i64 (0),.slice none 0 0],.int .i64 (331)]) Tryz.results12 ⟨bS aEp.ok rfl (cD 3 rfl rfl) rfl,eP (v:= .int .i64 (331)) rfl,trivial⟩ rfl ?_
  intro w hw
  replace hw:=hw.perm (L':=[pt H (.cells #[pp J 0,.map (some mp),.map (some mh),Ix (s.last),Ix (s.su.a0),Ix (s.su.a1),Ix (s.su.a2),Ix (s.su.a3),.map (some mm),.bool false] 91),fA J S i false,aQ S k,bB cC mp s.ps,bB bL mh s.hs,bB dW mm ms,dG zs,pt b5 (.cells #[Ix (hd.author),Ix (hd.number),.slice hd.p (hd.n) hd.c,.bool (hd.done),Ix (hd.at_),Ix (hd.e),.slice hd.q (hd.m) hd.k] 82),pt b4 (.cells #[Ix (au),Ix (nu),sB p2 al c3] 80),aK cJ 47 p2 c3 al,pt b1 (.cells #[.bool false,.int .i64 (0),.int .i64 (0),.slice none 0 0] 37)]) (by exact(aW [4,5,6,7,8,9,10,0,1,2,3] 11 rfl (by kernel_rfl) (by kernel_rfl)))
  replace hw:=aG (L':=[pt H (.cells #[pp J 0,.map (some mp),.map (some mh),Ix (s.last),Ix (s.su.a0),Ix (s.su.a1),Ix (s.su.a2),Ix (s.su.a3),.map (some mm),.bool false] 91),fA J S i false,aQ S k,bB cC mp s.ps,bB bL mh s.hs,bB dW mm ms,dG zs]) [true,true,true,true,true,true,true,false,false,false,false] rfl hw
  have hw2:=St.closeHouse (M:=[]) (hk.mono (Nat.le_add_right N 1) (Nat.le_add_right _ 494)) hpw hw
  exact⟨_,_,_,aMw hlo hfm (by rw[hc20];decide) hc29,.inl ⟨none,0,_,id,rfl,hw2.emp (eA _ _ _)⟩⟩
 refine bD (lE fM (oL ((dW.look ms au).isSome) (decide ((nu)<(hd.number))) rfl (fun hb30 hk30=> ?_) (fun z31 z32 z33 z34 z35=> ?_)))
 ·refine gE aY (gE aY (gE (cY 0) (gE aU (gE oQ (lE eF ?_)))))
  exact hk30 _ _ _ _ _
 refine lE dP (aN (fH ((((dW.look ms au).isSome)&&(decide ((nu)<(hd.number))))) rfl (fun hc36=> ?_) (fun hc36=> ?_)))
 ·refine bD ?_
  refine lv (v:= .agg #[.bool false,.int .i64 (0),.int .i64 (0),.slice none 0 0]) (bV aOs.ok aOt (vs:=[]) (cells:= #[.bool false,.int .i64 (0),.int .i64 (0),.slice none 0 0]) rfl rfl) ?_
  refine lu (mS 3 (#[.bool false,.int .i64 (0),.int .i64 (0),.slice none 0 0])) (lE bN (aN (aV (aR (aI ?_)))))
  refine gK (m:=[.agg #[.bool false,.int .i64 (0),.int .i64 (0),.slice none 0 0],.int .i64 (332)]) Tryz.results12 ⟨bS aEp.ok rfl (cD 3 rfl rfl) rfl,eP (v:= .int .i64 (332)) rfl,trivial⟩ rfl ?_
  intro w hw
  replace hw:=hw.perm (L':=[pt H (.cells #[pp J 0,.map (some mp),.map (some mh),Ix (s.last),Ix (s.su.a0),Ix (s.su.a1),Ix (s.su.a2),Ix (s.su.a3),.map (some mm),.bool false] 91),fA J S i false,aQ S k,bB cC mp s.ps,bB bL mh s.hs,bB dW mm ms,dG zs,pt b5 (.cells #[Ix (hd.author),Ix (hd.number),.slice hd.p (hd.n) hd.c,.bool (hd.done),Ix (hd.at_),Ix (hd.e),.slice hd.q (hd.m) hd.k] 82),pt b4 (.cells #[Ix (au),Ix (nu),sB p2 al c3] 80),aK cJ 47 p2 c3 al,pt b1 (.cells #[.bool false,.int .i64 (0),.int .i64 (0),.slice none 0 0] 37)]) (by exact(aW [4,5,6,7,8,9,10,0,1,2,3] 11 rfl (by kernel_rfl) (by kernel_rfl)))
  replace hw:=aG (L':=[pt H (.cells #[pp J 0,.map (some mp),.map (some mh),Ix (s.last),Ix (s.su.a0),Ix (s.su.a1),Ix (s.su.a2),Ix (s.su.a3),.map (some mm),.bool false] 91),fA J S i false,aQ S k,bB cC mp s.ps,bB bL mh s.hs,bB dW mm ms,dG zs]) [true,true,true,true,true,true,true,false,false,false,false] rfl hw
  have hw2:=St.closeHouse (M:=[]) (hk.mono (Nat.le_add_right N 1) (Nat.le_add_right _ 494)) hpw hw
  exact⟨_,_,_,aVv hlo hfm (by rw[hc29];decide) hc36,.inl ⟨none,0,_,id,rfl,hw2.emp (eA _ _ _)⟩⟩
 refine cG (aP (kM (lE (dK 1) ?_)))
 refine pV (cT (vs:=[.agg #[Ix (au),Ix (nu),sB p2 al c3]]) bFt.ok rfl rfl) rfl fun w β1 sb kn hw1 back=>(aJg β1 w hw1 au nu _ al (kn _ (jK 2 (F:=cJ) (m:=al.length) rfl rfl)) hfa (by omega) (by omega) (by omega)).mono ?_
 rintro e w' ⟨p37,c38,rfl,hw'⟩
 refine⟨_,rfl,_,back _ _ hw',?_⟩
 refine lE iO (aN (aL ?_))
 have hr0:i.size+24+(fI au nu al [] 0).length≤262144:=by rw[hiz];exact hz hfm
 have hroom:=hk.so.room hN hlen hr0
 by_cases ha:yH k i (fI au nu al [] 0)
 ·refine aC (lE dS (lE eS (lE aY (lE (iR 5) (lE fL ?_)))))
  refine aX rfl rfl rfl (cT (vs:=[pp J 0,sB p37 ((fI au nu al [] 0)) c38]) bAh.ok rfl rfl) ?_
  intro w hw
  replace hw:=hw.perm (L':=[fA J S i false,aQ S k,rB p37 ((fI au nu al [] 0)) c38,pt b5 (.cells #[Ix (hd.author),Ix (hd.number),.slice hd.p (hd.n) hd.c,.bool (hd.done),Ix (hd.at_),Ix (hd.e),.slice hd.q (hd.m) hd.k] 82),pt b4 (.cells #[Ix (au),Ix (nu),sB p2 al c3] 80),aK cJ 47 p2 c3 al,pt b1 (.cells #[.bool false,.int .i64 (0),.int .i64 (0),.slice none 0 0] 37),pt H (.cells #[pp J 0,.map (some mp),.map (some mh),Ix (s.last),Ix (s.su.a0),Ix (s.su.a1),Ix (s.su.a2),Ix (s.su.a3),.map (some mm),.bool false] 91),bB cC mp s.ps,bB bL mh s.hs,bB dW mm ms,dG zs]) (by exact(aW [6,7,0,1,2,3,4,5,8,9,10,11] 12 rfl (by kernel_rfl) (by kernel_rfl)))
  obtain⟨β1,sb,kn,hw1,back⟩:=St.frame (L:=[_,_]) (M:=_::_::_::_::_::_::_::_::_::_::[]) hw
  refine(aMf β1 w J S k i (fI au nu al [] 0) hroom.1 hroom.2.1 hroom.2.2.1 hroom.2.2.2.1 hroom.2.2.2.2.1 hroom.2.2.2.2.2.1 hroom.2.2.2.2.2.2 ha _ (kU kn 0 rfl) hw1).mono ?_
  rintro e w' ⟨rfl,hw'⟩
  refine⟨_,rfl,_,back _ _ hw',?_⟩
  refine lE oM (lE pW (lE pW (lE bN (lE bN (aN (eR (aC (lE aU (lE fD (aN (cR rfl (eB (eR (aC (lE aU (lE lO (aN ?_)))))))))))))))))
  refine cR rfl (eB (aL ?_))
  have hgs:=hk.goodS hN
  have hch:(aE s al).2.holds.length≤al.length:=aFh
  refine jS [sv 118 (pp H 0) [] [] [0],sv 119 (pp H 0) [0] [0] [],sv 120 (pp H 1) [0,1] [1] [],sv 121 (.agg #[.map (some mp),.map (some mh),Ix (s.last),Ix (s.su.a0),Ix (s.su.a1),Ix (s.su.a2),Ix (s.su.a3),.map (some mm)]) [0,1,2] [2] [],sv 122 (.agg #[Ix (au),Ix (nu),sB p2 al c3]) [] [] [1],⟨[0,1,2,3,4],[3,4],[],[123],fun f=>f 123= .tuple #[.agg #[.map (some (kN 0 (f 123))),.map (some (kN 1 (f 123))),Ix ((aE s al).1.last),Ix ((aE s al).1.su.a0),Ix ((aE s al).1.su.a1),Ix ((aE s al).1.su.a2),Ix ((aE s al).1.su.a3),.map (some (kN 7 (f 123)))],.agg #[.bool ((aE s al).2.done),Ix ((aE s al).2.at_),Ix ((aE s al).2.e),sB (tsA (f 123)) (aE s al).2.holds (tcA (f 123))]]⟩,⟨(List.range 6),[5],[],[117,123],fun f=>f 117= .tuple #[.agg #[.map (some (kN 0 (f 123))),.map (some (kN 1 (f 123))),Ix ((aE s al).1.last),Ix ((aE s al).1.su.a0),Ix ((aE s al).1.su.a1),Ix ((aE s al).1.su.a2),Ix ((aE s al).1.su.a3),.map (some (kN 7 (f 123)))],.agg #[.bool ((aE s al).2.done),Ix ((aE s al).2.at_),Ix ((aE s al).2.e),sB (tsA (f 123)) (aE s al).2.holds (tcA (f 123))]]⟩,⟨(List.range 7),[6],[],[123,124],fun f=>f 124= .agg #[.map (some (kN 0 (f 123))),.map (some (kN 1 (f 123))),Ix ((aE s al).1.last),Ix ((aE s al).1.su.a0),Ix ((aE s al).1.su.a1),Ix ((aE s al).1.su.a2),Ix ((aE s al).1.su.a3),.map (some (kN 7 (f 123)))]⟩,⟨(List.range 7),[6],[],[123,125],fun f=>f 125= .agg #[.bool ((aE s al).2.done),Ix ((aE s al).2.at_),Ix ((aE s al).2.e),sB (tsA (f 123)) (aE s al).2.holds (tcA (f 123))]⟩,⟨[],[],[],[17],fun f=>f 17= .pointer (some ⟨(bY (f 17)),0,none⟩)⟩,⟨[],[],[],[18],fun f=>f 18= .pointer (some ⟨(bY (f 18)),0,none⟩)⟩,⟨[0,1,2,3,4,5,6,7,9,10],[9,7],[],[],fun _=>True⟩,⟨(List.range 12),[10,8],[],[],fun _=>True⟩] [u0,u0,u0,u0,u1 [4],u1 [5],u0,u1 [3],(some 5,[5]),(some 5,[5]),(some 5,[5])] [⟨(some 5),none,[],[123],fun f=>bB cC (kN 0 (f 123)) ((aE s al).1.ps)⟩,⟨(some 5),none,[],[123],fun f=>bB bL (kN 1 (f 123)) ((aE s al).1.hs)⟩,⟨(some 5),none,[],[123],fun f=>bB dW (kN 7 (f 123)) (dW.put ms au (⟨au,nu,p2,al.length,c3,(aE s al).2.done,(aE s al).2.at_,(aE s al).2.e,(tsA (f 123)),(aE s al).2.holds.length,(tcA (f 123))⟩:KMh))⟩,⟨(some 5),none,[],[123],fun f=>aK aZ 3 (tsA (f 123)) (tcA (f 123)) ((aE s al).2.holds)⟩,⟨(some 9),(some 11),[11],[17],fun f=>pt (bY (f 17)) (.cells #[.map none,.map none,.int .i64 (0),.int .i64 (0),.int .i64 (0),.int .i64 (0),.int .i64 (0),.map none] 88)⟩,⟨(some 10),(some 12),[12],[18],fun f=>pt (bY (f 18)) (.cells #[.bool false,.int .i64 (0),.int .i64 (0),.slice none 0 0] 37)⟩,⟨(some 11),none,[],[17,123],fun f=>pt (bY (f 17)) (.cells #[.map (some (kN 0 (f 123))),.map (some (kN 1 (f 123))),Ix ((aE s al).1.last),Ix ((aE s al).1.su.a0),Ix ((aE s al).1.su.a1),Ix ((aE s al).1.su.a2),Ix ((aE s al).1.su.a3),.map (some (kN 7 (f 123)))] 88)⟩,⟨(some 12),none,[],[18,123],fun f=>pt (bY (f 18)) (.cells #[.bool ((aE s al).2.done),Ix ((aE s al).2.at_),Ix ((aE s al).2.e),sB (tsA (f 123)) (aE s al).2.holds (tcA (f 123))] 37)⟩] [(0,pp H 0),(11,pp b4 0),(8,pp b1 0)] [0,2] ⟨rfl,rfl,rfl,trivial⟩ ⟨?_,?_,?_,?_,?_,?_,?_,?_,?_,?_,?_,?_,?_,trivial⟩ ?_
  ·rintro f M-⟨i0,-⟩
   exact aT dS
  ·rintro f M ⟨k0,-⟩-
   exact aT eS
  ·rintro f M ⟨k0,-⟩-
   exact aT aY
  ·rintro f M ⟨k0,-⟩-
   exact aT (dK 0)
  ·rintro f M-⟨i0,-⟩
   exact aT (dK 0)
  ·rintro f M ⟨k0,k1,-⟩-
   refine dL (aA (d:=122) (aA (d:=121) rfl k0) k1) ?_
   refine aX rfl rfl rfl (cT (vs:=[.agg #[.map (some mp),.map (some mh),Ix (s.last),Ix (s.su.a0),Ix (s.su.a1),Ix (s.su.a2),Ix (s.su.a3),.map (some mm)],.agg #[Ix (au),Ix (nu),sB p2 al c3]]) bAi.ok rfl rfl) ?_
   intro w hw
   replace hw:=hw.perm (L':=_::_::_::_::M) (by exact((((aB 0 rfl).trans (aB 3 rfl)).trans (aB 3 rfl)).trans (aB 3 rfl)))
   obtain⟨β1,sb,kn,hw1,back⟩:=St.frame (L:=[_,_,_]) (M:=_::M) hw
   refine(aBd β1 w mp mh mm s ms hw1 au nu _ al (kn _ (jK 0 (F:=cJ) (m:=al.length) rfl rfl)) hfa (by omega) _ (Int.le_refl _) hgs).mono ?_
   rintro e w' ⟨mq44,hq45,mn46,p47,c48,rfl,hw'⟩
   refine⟨_,rfl,_,back _ _ hw',?_⟩
   refine aH ?_
   exact aO (aA (d:=122) (aA (d:=121) rfl k0) k1) rfl (((((aB 3 rfl).trans (aB 3 rfl)).trans (aB 3 rfl)).trans (aB 3 rfl)).trans (aB 4 rfl))
  ·rintro f M ⟨k0,-⟩-
   have hs123:f 123= .tuple #[.agg #[.map (some (kN 0 (f 123))),.map (some (kN 1 (f 123))),Ix ((aE s al).1.last),Ix ((aE s al).1.su.a0),Ix ((aE s al).1.su.a1),Ix ((aE s al).1.su.a2),Ix ((aE s al).1.su.a3),.map (some (kN 7 (f 123)))],.agg #[.bool ((aE s al).2.done),Ix ((aE s al).2.at_),Ix ((aE s al).2.e),sB (tsA (f 123)) (aE s al).2.holds (tcA (f 123))]]:=k0
   exact aT oM
  ·rintro f M ⟨k0,-⟩-
   have hs117:f 117= .tuple #[.agg #[.map (some (kN 0 (f 123))),.map (some (kN 1 (f 123))),Ix ((aE s al).1.last),Ix ((aE s al).1.su.a0),Ix ((aE s al).1.su.a1),Ix ((aE s al).1.su.a2),Ix ((aE s al).1.su.a3),.map (some (kN 7 (f 123)))],.agg #[.bool ((aE s al).2.done),Ix ((aE s al).2.at_),Ix ((aE s al).2.e),sB (tsA (f 123)) (aE s al).2.holds (tcA (f 123))]]:=k0
   exact aT rG
  ·rintro f M ⟨k0,-⟩-
   have hs117:f 117= .tuple #[.agg #[.map (some (kN 0 (f 123))),.map (some (kN 1 (f 123))),Ix ((aE s al).1.last),Ix ((aE s al).1.su.a0),Ix ((aE s al).1.su.a1),Ix ((aE s al).1.su.a2),Ix ((aE s al).1.su.a3),.map (some (kN 7 (f 123)))],.agg #[.bool ((aE s al).2.done),Ix ((aE s al).2.at_),Ix ((aE s al).2.e),sB (tsA (f 123)) (aE s al).2.holds (tcA (f 123))]]:=k0
   exact aT rG
  ·rintro f M- -
   refine dL rfl ?_
   refine gB fun b50=>aH ?_
   exact aO rfl rfl (aB 0 rfl)
  ·rintro f M- -
   refine dL rfl ?_
   refine gB fun b52=>aH ?_
   exact aO rfl rfl (aB 0 rfl)
  ·rintro f M ⟨k0,k1,-⟩-
   have hs17:f 17= .pointer (some ⟨(bY (f 17)),0,none⟩):=k0
   have hs124:f 124= .agg #[.map (some (kN 0 (f 123))),.map (some (kN 1 (f 123))),Ix ((aE s al).1.last),Ix ((aE s al).1.su.a0),Ix ((aE s al).1.su.a1),Ix ((aE s al).1.su.a2),Ix ((aE s al).1.su.a3),.map (some (kN 7 (f 123)))]:=k1
   refine dL (aA (aA rfl hs17) hs124) ?_
   refine lu (mS 0 (#[.map (some (kN 0 (f 123))),.map (some (kN 1 (f 123))),Ix ((aE s al).1.last),Ix ((aE s al).1.su.a0),Ix ((aE s al).1.su.a1),Ix ((aE s al).1.su.a2),Ix ((aE s al).1.su.a3),.map (some (kN 7 (f 123)))])) ?_
   refine aH ?_
   exact bC (aA (aA rfl hs17) hs124) trivial (aB 0 rfl)
  ·rintro f M ⟨k0,k1,-⟩-
   have hs18:f 18= .pointer (some ⟨(bY (f 18)),0,none⟩):=k0
   have hs125:f 125= .agg #[.bool ((aE s al).2.done),Ix ((aE s al).2.at_),Ix ((aE s al).2.e),sB (tsA (f 123)) (aE s al).2.holds (tcA (f 123))]:=k1
   refine dL (aA (aA rfl hs18) hs125) ?_
   refine lu (mS 0 (#[.bool ((aE s al).2.done),Ix ((aE s al).2.at_),Ix ((aE s al).2.e),sB (tsA (f 123)) (aE s al).2.holds (tcA (f 123))])) ?_
   refine aH ?_
   exact bC (aA (aA rfl hs18) hs125) trivial (aB 0 rfl)
  rintro fa53 ⟨-,-,-,-,-,-,-,-,-,k9,k10,-,-,-⟩ ⟨j0,j1,-⟩
  refine jD ?_
  refine aD (d:=0) j0 (aD (d:=8) j1 (aD (d:=17) k9 (aD (d:=18) k10 (kM (lE dS (lE (dK 13) (lE eS (lE aY ?_))))))))
  refine lu (mS 7 (#[pp J 0,.map (some (kN 0 (fa53 123))),.map (some (kN 1 (fa53 123))),Ix ((aE s al).1.last),Ix ((aE s al).1.su.a0),Ix ((aE s al).1.su.a1),Ix ((aE s al).1.su.a2),Ix ((aE s al).1.su.a3),.map (some (kN 7 (fa53 123))),.bool false])) ?_
  refine eY (lE (dK 14) ?_)
  refine pV (cT (vs:=[.agg #[.bool ((aE s al).2.done),Ix ((aE s al).2.at_),Ix ((aE s al).2.e),sB (tsA (fa53 123)) (aE s al).2.holds (tcA (fa53 123))]]) aUi.ok rfl rfl) rfl fun w β1 sb kn hw1 back=>(aIn β1 w hw1 ((aE s al).2.done) ((aE s al).2.at_) ((aE s al).2.e) _ ((aE s al).2.holds) (kn _ (jK 12 (F:=aZ) (m:=(aE s al).2.holds.length) rfl rfl)) (by omega)).mono ?_
  rintro e w' ⟨p54,c55,rfl,hw'⟩
  refine⟨_,rfl,_,back _ _ hw',?_⟩
  refine lu (mS 7 (#[.bool ((aE s al).2.done),Ix ((aE s al).2.at_),Ix ((aE s al).2.e),sB p54 ((aE s al).2.holds) c55])) (lE bN (aN ?_))
  refine aV ?_
  refine gK (m:=[.agg #[.bool ((aE s al).2.done),Ix ((aE s al).2.at_),Ix ((aE s al).2.e),sB p54 ((aE s al).2.holds) c55],.int .i64 (0)]) Tryz.results12 ⟨bS aEp.ok rfl (cD 7 rfl rfl) rfl,eP (v:= .int .i64 (0)) rfl,trivial⟩ rfl ?_
  intro w hw
  replace hw:=hw.perm (L':=[aK cJ 47 p2 c3 al,aK aZ 3 (tsA (fa53 123)) (tcA (fa53 123)) ((aE s al).2.holds),dG zs,pt H (.cells #[pp J 0,.map (some (kN 0 (fa53 123))),.map (some (kN 1 (fa53 123))),Ix ((aE s al).1.last),Ix ((aE s al).1.su.a0),Ix ((aE s al).1.su.a1),Ix ((aE s al).1.su.a2),Ix ((aE s al).1.su.a3),.map (some (kN 7 (fa53 123))),.bool false] 91),fA J S (apI i (fI au nu al [] 0)) false,aQ S (apS k i (fI au nu al [] 0)),bB cC (kN 0 (fa53 123)) ((aE s al).1.ps),bB bL (kN 1 (fa53 123)) ((aE s al).1.hs),bB dW (kN 7 (fa53 123)) (dW.put ms au (⟨au,nu,p2,al.length,c3,(aE s al).2.done,(aE s al).2.at_,(aE s al).2.e,(tsA (fa53 123)),(aE s al).2.holds.length,(tcA (fa53 123))⟩:KMh)),aK aZ 3 p54 c55 ((aE s al).2.holds),rB p37 ((fI au nu al [] 0)) c38,pt b5 (.cells #[Ix (hd.author),Ix (hd.number),.slice hd.p (hd.n) hd.c,.bool (hd.done),Ix (hd.at_),Ix (hd.e),.slice hd.q (hd.m) hd.k] 82),pt b4 (.cells #[Ix (au),Ix (nu),sB p2 al c3] 80),pt b1 (.cells #[.bool ((aE s al).2.done),Ix ((aE s al).2.at_),Ix ((aE s al).2.e),sB p54 ((aE s al).2.holds) c55] 37),pt (bY (fa53 17)) (.cells #[.map (some (kN 0 (fa53 123))),.map (some (kN 1 (fa53 123))),Ix ((aE s al).1.last),Ix ((aE s al).1.su.a0),Ix ((aE s al).1.su.a1),Ix ((aE s al).1.su.a2),Ix ((aE s al).1.su.a3),.map (some (kN 7 (fa53 123)))] 88),pt (bY (fa53 18)) (.cells #[.bool ((aE s al).2.done),Ix ((aE s al).2.at_),Ix ((aE s al).2.e),sB (tsA (fa53 123)) (aE s al).2.holds (tcA (fa53 123))] 37)]) (by exact(aW [6,13,9,8,1,2,10,11,12,0,3,4,5,7,14,15] 16 rfl (by kernel_rfl) (by kernel_rfl)))
  replace hw:=aG (L':=[aK cJ 47 p2 c3 al,aK aZ 3 (tsA (fa53 123)) (tcA (fa53 123)) ((aE s al).2.holds),dG zs,pt H (.cells #[pp J 0,.map (some (kN 0 (fa53 123))),.map (some (kN 1 (fa53 123))),Ix ((aE s al).1.last),Ix ((aE s al).1.su.a0),Ix ((aE s al).1.su.a1),Ix ((aE s al).1.su.a2),Ix ((aE s al).1.su.a3),.map (some (kN 7 (fa53 123))),.bool false] 91),fA J S (apI i (fI au nu al [] 0)) false,aQ S (apS k i (fI au nu al [] 0)),bB cC (kN 0 (fa53 123)) ((aE s al).1.ps),bB bL (kN 1 (fa53 123)) ((aE s al).1.hs),bB dW (kN 7 (fa53 123)) (dW.put ms au (⟨au,nu,p2,al.length,c3,(aE s al).2.done,(aE s al).2.at_,(aE s al).2.e,(tsA (fa53 123)),(aE s al).2.holds.length,(tcA (fa53 123))⟩:KMh)),aK aZ 3 p54 c55 ((aE s al).2.holds)]) [true,true,true,true,true,true,true,true,true,true,false,false,false,false,false,false] rfl hw
  have hw2:=St.merge (L:=[aK cJ 47 p2 c3 al,aK aZ 3 (tsA (fa53 123)) (tcA (fa53 123)) ((aE s al).2.holds),dG zs]) (M:=[pt H (.cells #[pp J 0,.map (some (kN 0 (fa53 123))),.map (some (kN 1 (fa53 123))),Ix ((aE s al).1.last),Ix ((aE s al).1.su.a0),Ix ((aE s al).1.su.a1),Ix ((aE s al).1.su.a2),Ix ((aE s al).1.su.a3),.map (some (kN 7 (fa53 123))),.bool false] 91),fA J S (apI i (fI au nu al [] 0)) false,aQ S (apS k i (fI au nu al [] 0)),bB cC (kN 0 (fa53 123)) ((aE s al).1.ps),bB bL (kN 1 (fa53 123)) ((aE s al).1.hs),bB dW (kN 7 (fa53 123)) (dW.put ms au (⟨au,nu,p2,al.length,c3,(aE s al).2.done,(aE s al).2.at_,(aE s al).2.e,(tsA (fa53 123)),(aE s al).2.holds.length,(tcA (fa53 123))⟩:KMh)),aK aZ 3 p54 c55 ((aE s al).2.holds)]) (r:=dG (zs++[((⟨au,nu,p2,al.length,c3,(aE s al).2.done,(aE s al).2.at_,(aE s al).2.e,(tsA (fa53 123)),(aE s al).2.holds.length,(tcA (fa53 123))⟩:KMh),⟨⟨au,nu,al⟩,(aE s al).2⟩)])) hw (fun a ha=>uU a ha)
  replace hw:=hw2
  replace hw:=hw.perm (L':=[pt H (.cells #[pp J 0,.map (some (kN 0 (fa53 123))),.map (some (kN 1 (fa53 123))),Ix ((aE s al).1.last),Ix ((aE s al).1.su.a0),Ix ((aE s al).1.su.a1),Ix ((aE s al).1.su.a2),Ix ((aE s al).1.su.a3),.map (some (kN 7 (fa53 123))),.bool false] 91),fA J S (apI i (fI au nu al [] 0)) false,aQ S (apS k i (fI au nu al [] 0)),bB cC (kN 0 (fa53 123)) ((aE s al).1.ps),bB bL (kN 1 (fa53 123)) ((aE s al).1.hs),bB dW (kN 7 (fa53 123)) (dW.put ms au (⟨au,nu,p2,al.length,c3,(aE s al).2.done,(aE s al).2.at_,(aE s al).2.e,(tsA (fa53 123)),(aE s al).2.holds.length,(tcA (fa53 123))⟩:KMh)),dG (zs++[((⟨au,nu,p2,al.length,c3,(aE s al).2.done,(aE s al).2.at_,(aE s al).2.e,(tsA (fa53 123)),(aE s al).2.holds.length,(tcA (fa53 123))⟩:KMh),⟨⟨au,nu,al⟩,(aE s al).2⟩)]),aK aZ 3 p54 c55 ((aE s al).2.holds)]) (by exact(aW [1,2,3,4,5,6,0,7] 8 rfl (by kernel_rfl) (by kernel_rfl)))
  obtain⟨hk2,hro⟩:=hk.ap (z:=(aE s al).1) (ro:=(aE s al).2) rfl (hk.so.ap hN hfm hh63 hr0 ha) (hd:=(⟨au,nu,p2,al.length,c3,(aE s al).2.done,(aE s al).2.at_,(aE s al).2.e,(tsA (fa53 123)),(aE s al).2.holds.length,(tcA (fa53 123))⟩:KMh)) ⟨rfl,rfl,rfl,rfl,rfl,rfl,rfl⟩
  have hw2:=St.closeHouse (M:=[aK aZ 3 p54 c55 ((aE s al).2.holds)]) hk2 rfl hw
  refine⟨_,_,_,aJy hlo hfm (by rw[hc29];decide) (by rw[hc36];decide),.inl ⟨p54,c55,_,fun q=>aPj (hpw.trans q),by rw[hro]<;>rfl,hw2.perm (L':=[_,_]) (by rw[hro];exact List.Perm.swap _ _ _)⟩⟩
 refine aC (lE dS (lE eS (lE aY (lE (iR 5) (lE fL ?_)))))
 refine aX rfl rfl rfl (cT (vs:=[pp J 0,sB p37 ((fI au nu al [] 0)) c38]) bAh.ok rfl rfl) ?_
 intro w hw
 replace hw:=hw.perm (L':=[fA J S i false,aQ S k,rB p37 ((fI au nu al [] 0)) c38,pt b5 (.cells #[Ix (hd.author),Ix (hd.number),.slice hd.p (hd.n) hd.c,.bool (hd.done),Ix (hd.at_),Ix (hd.e),.slice hd.q (hd.m) hd.k] 82),pt b4 (.cells #[Ix (au),Ix (nu),sB p2 al c3] 80),aK cJ 47 p2 c3 al,pt b1 (.cells #[.bool false,.int .i64 (0),.int .i64 (0),.slice none 0 0] 37),pt H (.cells #[pp J 0,.map (some mp),.map (some mh),Ix (s.last),Ix (s.su.a0),Ix (s.su.a1),Ix (s.su.a2),Ix (s.su.a3),.map (some mm),.bool false] 91),bB cC mp s.ps,bB bL mh s.hs,bB dW mm ms,dG zs]) (by exact(aW [6,7,0,1,2,3,4,5,8,9,10,11] 12 rfl (by kernel_rfl) (by kernel_rfl)))
 obtain⟨β1,sb,kn,hw1,back⟩:=St.frame (L:=[_,_]) (M:=_::_::_::_::_::_::_::_::_::_::[]) hw
 refine(aFa β1 w J S k i (fI au nu al [] 0) hroom.1 hroom.2.1 hroom.2.2.1 hroom.2.2.2.1 hroom.2.2.2.2.1 hroom.2.2.2.2.2.1 hroom.2.2.2.2.2.2 ha _ (kU kn 0 rfl) hw1).mono ?_
 rintro e w' ⟨rfl,hw'⟩
 refine⟨_,rfl,_,back _ _ hw',?_⟩
 refine lE oM (lE pW (lE pW (lE bN (lE bN (aN (eR (aC (lE aU (lE fD (aN (cR rfl (eB (eR (aC (lE aU (lE lO (aN ?_)))))))))))))))))
 refine dN rfl (bD (lE dS (lE eS (lE aY ?_))))
 refine lu (mS 7 (#[pp J 0,.map (some mp),.map (some mh),Ix (s.last),Ix (s.su.a0),Ix (s.su.a1),Ix (s.su.a2),Ix (s.su.a3),.map (some mm),.bool true])) ?_
 refine eY ?_
 refine lv (v:= .agg #[.bool false,.int .i64 (0),.int .i64 (0),.slice none 0 0]) (bV aOs.ok aOt (vs:=[]) (cells:= #[.bool false,.int .i64 (0),.int .i64 (0),.slice none 0 0]) rfl rfl) ?_
 refine lE aU (lu (mS 6 (#[.bool false,.int .i64 (0),.int .i64 (0),.slice none 0 0])) (lE bN (aN (aV (aI ?_)))))
 refine gK (m:=[.agg #[.bool false,.int .i64 (0),.int .i64 (0),.slice none 0 0],.int .i64 (310)]) Tryz.results12 ⟨bS aEp.ok rfl (cD 6 rfl rfl) rfl,eP (v:= .int .i64 (310)) rfl,trivial⟩ rfl ?_
 intro w hw
 replace hw:=hw.perm (L':=[aQ S (apS k i (fI au nu al [] 0)),fA J S i true,rB p37 ((fI au nu al [] 0)) c38,pt b5 (.cells #[Ix (hd.author),Ix (hd.number),.slice hd.p (hd.n) hd.c,.bool (hd.done),Ix (hd.at_),Ix (hd.e),.slice hd.q (hd.m) hd.k] 82),pt b4 (.cells #[Ix (au),Ix (nu),sB p2 al c3] 80),aK cJ 47 p2 c3 al,pt b1 (.cells #[.bool false,.int .i64 (0),.int .i64 (0),.slice none 0 0] 37),pt H (.cells #[pp J 0,.map (some mp),.map (some mh),Ix (s.last),Ix (s.su.a0),Ix (s.su.a1),Ix (s.su.a2),Ix (s.su.a3),.map (some mm),.bool true] 91),bB cC mp s.ps,bB bL mh s.hs,bB dW mm ms,dG zs]) (by exact(aW [1,0,2,3,4,5,6,7,8,9,10,11] 12 rfl (by kernel_rfl) (by kernel_rfl)))
 replace hw:=aG (L':=[aQ S (apS k i (fI au nu al [] 0))]) [true,false,false,false,false,false,false,false,false,false,false,false] rfl hw
 exact⟨_,_,_,aJy hlo hfm (by rw[hc29];decide) (by rw[hc36];decide),.inr ⟨fun q=>ha (aVd (hpw.trans q)),rfl,rfl,_,St.closeShelf (M:=[]) ((hk.so.ap_no hr0 (by omega) ha).mono (Nat.le_refl _) (by omega)) rfl hw⟩⟩
theorem do_ok(β:Base)(w:World)(H S N W:Nat)(pw:Int)(X:KHs)(hw:St β [cV H S X N W pw] w)(au nu:Int)(v:Value)(al:List KAct)(hs:Sl cJ.R β.heap v al)(hal:al.length≤1048576)(hh63:wF al)(hN:N≤1000000)(hNs:N≤400):Calls Tryz.prog 12 #[pp H 0,Ix au,Ix nu,v] w fun r w'=>∃X1 R e1,sH X au nu al=(X1,R,e1)∧((∃p c q,(pw= -1→q= -1)∧r= .returned (.tuple #[.agg #[.bool R.done,Ix R.at_,Ix R.e,sB p R.holds c],Ix e1])∧St β [aK aZ 3 p c R.holds,cV H S X1 (N+1) (W+494) q] w')∨(pw≠-1∧e1=0∧r= .returned (.tuple #[.agg #[.bool false,.int .i64 0,.int .i64 0,.slice none 0 0],.int .i64 310])∧∃q,St β [mC S X (N+1) (W+494) q] w')):=by
 obtain⟨e,z,h1,h2,hw⟩:=St.toE2 hw
 refine(bBk β w H S N e z pw X hw au nu v al hs hal hh63 hN (fun q=>by have:=rS q;have:=h2 hNs;omega)).mono ?_
 rintro r w' ⟨X1,R,e1,hd,⟨p,c,q,h3,h4,h5⟩|⟨h3,h4,h5,q,h6⟩⟩
 ·exact⟨X1,R,e1,hd,.inl ⟨p,c,q,h3,h4,h5.conseq_at (r:=cV H S X1 (N+1) (e*218000+z+494) q) (r':=cV H S X1 (N+1) (W+494) q) 1 rfl (aBm (Nat.le_refl _) (Nat.add_le_add_right h1 494))⟩⟩
 exact⟨X1,R,e1,hd,.inr ⟨h3,h4,h5,q,h6.conseq_at (r:=mC S X (N+1) (e*218000+z+494) q) (r':=mC S X (N+1) (W+494) q) 0 rfl (aOd (Nat.le_refl _) (Nat.add_le_add_right h1 494))⟩⟩
open Go Go.Sl Go.Td Go.Jn
theorem nJ(β:Base)(w:World)(fn:Value)(E:List Int)(K:List bU)(hs:aCu Tryz.prog β fn (fun z:Int=>[Ix z]) (fun l=>l.Perm E) K)(hn:E.length≤1048576)(hw:St β K w):Calls Tryz.prog 41 #[fn] w fun r w'=>∃p c,r= .returned (sB p (sortI E) c)∧St β [aK aZ 3 p c (sortI E)] w':=by
 refine(aJb β w fn _ K hs (fun l hl=>by rw[hl.length_eq];exact hn) hw).mono ?_
 rintro r w' ⟨p,c,xs,hS,rfl,hw'⟩
 rw[tV hS]at hw'⊢
 exact⟨p,c,rfl,hw'⟩
theorem aIg{hs:List (Int×KHo)}{ns:List Int}{k:Nat}{n:Int}(h:ns[k]? =some n):(ns.take k).map (mM hs)++[mM hs n]=(ns.take (k+1)).map (mM hs):=by
 rw[List.take_add_one,h,List.map_append];rfl
instance bAj:CfC Tryz.prog 43:={}
instance aHg:CfC Tryz.prog 41:={}
instance bAk:CfC Tryz.prog 42:={}
theorem aLx:lY Tryz.prog 40 104 6=true:=by kernel_rfl
theorem bFx:vR Tryz.prog 104 6 48=true:=by kernel_rfl
theorem aRp(β:Base)(w:World)(H J:Nat)(X:KHs)(dn:Bool)(hw:St β [fY H J X dn] w)(au:Int):Calls Tryz.prog 18 #[pp H 0,Ix au] w fun r w'=>∃nu R so,uS X au=(nu,R,so)∧∃p c,r= .returned (.tuple #[Ix nu,.agg #[.bool R.done,Ix R.at_,Ix R.e,sB p R.holds c],.bool so])∧St β [aK aZ 3 p c R.holds,fY H J X dn] w':=by
 obtain⟨mp,mh,mm,s,ms,zs,hk,hw⟩:=St.openView hw
 obtain⟨hd,mal,mhl,hlk,hlo,hnl,hml⟩:=hk.mm.lk au
 have hmb:mhl.length≤1048576:=hlo.few hk.ok
 refine enter (n:=29) Tryz.func18 rfl Tryz.ntmps18 rfl ?_ hw
 refine bD (lE bN (gB fun b1=>lE dP (aN (eR (aC (lE dS ?_))))))
 refine gI gH (fun w β1 sb kn hw1=>mN β1 w hw1 _ _ _ _ _ s _ (kn _ (cD 1 rfl rfl))) (lE mB (aN (cR rfl (eB (bD (lE dS (lE eS ?_)))))))
 refine lE aY (lE aY (lv (v:= .map (some mm)) (bI aEo.ok rfl (cD 1 rfl rfl)) (lE aU ?_)))
 refine lv (v:= .tuple #[.agg #[Ix (hd.author),Ix (hd.number),.slice hd.p (hd.n) hd.c,.bool (hd.done),Ix (hd.at_),Ix (hd.e),.slice hd.q (hd.m) hd.k],.bool ((dW.look ms au).isSome)]) (eZ (congrArg (fun z=>Value.tuple #[dW.encv z,.bool (dW.look ms au).isSome]) hlk) (xS (K:=dW) (b:=mm) (ks:=ms) (k:=au) rfl rfl rfl (bH.of_res 4 rfl (bB.mono _ _ _) fun _ h=>h))) ?_
 refine lE oM (lE rG (lE yA (gB fun b2=> ?_)))
 refine lu (mS 0 (#[Ix (hd.author),Ix (hd.number),.slice hd.p (hd.n) hd.c,.bool (hd.done),Ix (hd.at_),Ix (hd.e),.slice hd.q (hd.m) hd.k])) (lE dP ?_)
 refine aN (aL ?_)
 refine jS [sv 22 (pp b2 0) [] [] [0],sv 23 (pp b2 1) [0] [0] [],sv 24 (Ix (hd.number)) [0,1] [1] [],sv 25 (pp b2 3) [] [] [0],sv 26 (.agg #[.bool (hd.done),Ix (hd.at_),Ix (hd.e),.slice hd.q (hd.m) hd.k]) [3] [3] [],⟨[3,4],[4],[],[27],fun f=>f 27= .agg #[.bool (hd.done),Ix (hd.at_),Ix (hd.e),sB (agA (f 27)) mhl (agC (f 27))]⟩,sv 28 (.bool ((dW.look ms au).isSome)) [] [] [1],sv 4 (Ix (hd.number)) (List.range 6) [2] [],⟨[0,1,2,3,4,5,7],[5],[2],[],fun _=>True⟩,sv 6 (.bool ((dW.look ms au).isSome)) (List.range 9) [6] []] [u1 [2,4],(some 8,[8]),u0,u0,u0,u0,u1 [5]] [⟨(some 5),none,[],[27],fun f=>aK aZ 3 (agA (f 27)) (agC (f 27)) mhl⟩,⟨(some 8),none,[],[27],fun f=>pt b1 (.cells #[.bool (hd.done),Ix (hd.at_),Ix (hd.e),sB (agA (f 27)) mhl (agC (f 27))] 37)⟩] [(7,pp b2 0),(6,.bool ((dW.look ms au).isSome)),(5,pp b1 0)] [2] ⟨rfl,rfl,rfl,trivial⟩ ⟨?_,?_,?_,?_,?_,?_,?_,?_,?_,?_,trivial⟩ ?_
 ·rintro f M-⟨i0,-⟩
  exact aT aY
 ·rintro f M ⟨k0,-⟩-
  exact aT aY
 ·rintro f M ⟨k0,-⟩-
  exact aT (cY 0)
 ·rintro f M-⟨i0,-⟩
  exact aT aY
 ·rintro f M ⟨k0,-⟩-
  exact aT (dK 0)
 ·rintro f M ⟨k0,-⟩-
  refine dL (aA (d:=26) rfl k0) ?_
  refine pV (cT (vs:=[.agg #[.bool (hd.done),Ix (hd.at_),Ix (hd.e),.slice hd.q (hd.m) hd.k]]) aUi.ok rfl rfl) rfl fun w β1 sb kn hw1 back=>(aIn β1 w hw1 hd.done hd.at_ hd.e _ mhl (kn _ (aKp 0 rfl hlo)) (by omega)).mono ?_
  rintro e w' ⟨p5,c6,rfl,hw'⟩
  refine⟨_,rfl,_,back _ _ hw',?_⟩
  refine aH ?_
  exact aO (aA (d:=26) rfl k0) rfl ((aB 0 rfl).trans (aB 1 rfl))
 ·rintro f M-⟨i0,-⟩
  exact aT fM
 ·rintro f M ⟨k0,-⟩-
  exact aT bN
 ·rintro f M ⟨k0,-⟩ ⟨i0,-⟩
  have hs27:f 27= .agg #[.bool (hd.done),Ix (hd.at_),Ix (hd.e),sB (agA (f 27)) mhl (agC (f 27))]:=k0
  refine dL (aA (aA (d:=5) rfl i0) hs27) ?_
  refine lu (mS 0 (#[.bool (hd.done),Ix (hd.at_),Ix (hd.e),sB (agA (f 27)) mhl (agC (f 27))])) (aH ?_)
  exact bC (aA (aA (d:=5) rfl i0) hs27) trivial (aB 0 rfl)
 ·rintro f M ⟨k0,-⟩-
  exact aT dP
 rintro fa7 ⟨-,-,-,-,-,-,-,k7,-,k9,-⟩ ⟨j0,-⟩
 refine jD ?_
 refine aD (d:=4) k7 (aD (d:=5) j0 (aD (d:=6) k9 (ftr ?_)))
 refine gK (m:=[Ix (hd.number),.agg #[.bool (hd.done),Ix (hd.at_),Ix (hd.e),sB (agA (fa7 27)) mhl (agC (fa7 27))],.bool ((dW.look ms au).isSome)]) Tryz.results18 ⟨eP (v:=Ix (hd.number)) rfl,bS aEp.ok rfl (cD 7 rfl rfl) rfl,eP (v:= .bool ((dW.look ms au).isSome)) rfl,trivial⟩ rfl ?_
 intro w hw
 replace hw:=hw.perm (L':=[pt H (.cells #[pp J 0,.map (some mp),.map (some mh),Ix (s.last),Ix (s.su.a0),Ix (s.su.a1),Ix (s.su.a2),Ix (s.su.a3),.map (some mm),.bool (dn)] 91),bB cC mp s.ps,bB bL mh s.hs,bB dW mm ms,dG zs,aK aZ 3 (agA (fa7 27)) (agC (fa7 27)) mhl,pt b2 (.cells #[Ix (hd.author),Ix (hd.number),.slice hd.p (hd.n) hd.c,.bool (hd.done),Ix (hd.at_),Ix (hd.e),.slice hd.q (hd.m) hd.k] 82),pt b1 (.cells #[.bool (hd.done),Ix (hd.at_),Ix (hd.e),sB (agA (fa7 27)) mhl (agC (fa7 27))] 37)]) (by exact(aW [1,2,3,4,5,6,0,7] 8 rfl (by kernel_rfl) (by kernel_rfl)))
 replace hw:=aG (L':=[pt H (.cells #[pp J 0,.map (some mp),.map (some mh),Ix (s.last),Ix (s.su.a0),Ix (s.su.a1),Ix (s.su.a2),Ix (s.su.a3),.map (some mm),.bool (dn)] 91),bB cC mp s.ps,bB bL mh s.hs,bB dW mm ms,dG zs,aK aZ 3 (agA (fa7 27)) (agC (fa7 27)) mhl]) [true,true,true,true,true,true,false,false] rfl hw
 have hw2:=St.closeView (M:=[aK aZ 3 (agA (fa7 27)) (agC (fa7 27)) mhl]) hk hw
 exact⟨_,_,_,hlo.last,(agA (fa7 27)),(agC (fa7 27)),rfl,hw2.perm (List.Perm.swap _ _ _)⟩
theorem aBt(β:Base)(w:World)(H J:Nat)(X:KHs)(dn:Bool)(hw:St β [fY H J X dn] w)(n:Int):Calls Tryz.prog 44 #[pp H 0,Ix n] w fun r w'=>r= .returned (.agg (eK (iS X.s.ps n)))∧St β [fY H J X dn] w':=by
 obtain⟨mp,mh,mm,s,ms,zs,hk,hw⟩:=St.openView hw
 refine enter (n:=16) Tryz.func44 rfl Tryz.ntmps44 rfl ?_ hw
 refine bD (gB fun b1=>aN (eR (aC (lE dS (gI gH (fun w β1 sb kn hw1=>mN β1 w hw1 _ _ _ _ _ s _ (kn _ (cD 1 rfl rfl))) ?_)))))
 refine lE mB (aN (cR rfl (eB (bD (lE dS (lE eS (lE aY (lE aY (lv (v:= .map (some mp)) (bI rZ.ok rfl (cD 1 rfl rfl)) (lE aU ?_))))))))))
 refine lv (v:= .agg (eK ((cC.look s.ps (n)).getD zeroA))) (lL (K:=cC) (b:=mp) (ks:=s.ps) (k:=(n)) rfl rfl rfl (bH.of_res 2 rfl (bB.mono _ _ _) fun _ h=>h)) ?_
 refine lu (mS 0 (eK ((cC.look s.ps (n)).getD zeroA))) (aN (aV ?_))
 refine gK (m:=[.agg (eK ((cC.look s.ps (n)).getD zeroA))]) Tryz.results44 ⟨bS tt0.ok rfl (cD 0 rfl rfl) rfl,trivial⟩ rfl ?_
 intro w hw
 replace hw:=hw.perm (L':=[pt H (.cells #[pp J 0,.map (some mp),.map (some mh),Ix (s.last),Ix (s.su.a0),Ix (s.su.a1),Ix (s.su.a2),Ix (s.su.a3),.map (some mm),.bool (dn)] 91),bB cC mp s.ps,bB bL mh s.hs,bB dW mm ms,dG zs,pt b1 (.cells (eK ((cC.look s.ps (n)).getD zeroA)) 44)]) (by exact(aW [1,2,3,4,5,0] 6 rfl (by kernel_rfl) (by kernel_rfl)))
 replace hw:=aG (L':=[pt H (.cells #[pp J 0,.map (some mp),.map (some mh),Ix (s.last),Ix (s.su.a0),Ix (s.su.a1),Ix (s.su.a2),Ix (s.su.a3),.map (some mm),.bool (dn)] 91),bB cC mp s.ps,bB bL mh s.hs,bB dW mm ms,dG zs]) [true,true,true,true,true,false] rfl hw
 have hw2:=St.closeView (M:=[]) hk hw
 exact⟨by rw[←hk.purse]<;>rfl,hw2⟩
theorem aAc(β:Base)(w:World)(H J:Nat)(X:KHs)(dn:Bool)(hw:St β [fY H J X dn] w):Calls Tryz.prog 15 #[pp H 0] w fun r w'=>r= .returned (.agg (eK X.s.su))∧St β [fY H J X dn] w':=by
 obtain⟨mp,mh,mm,s,ms,zs,hk,hw⟩:=St.openView hw
 refine enter (n:=12) Tryz.func15 rfl Tryz.ntmps15 rfl ?_ hw
 refine bD (gB fun b1=>aN (eR (aC (lE dS (gI gH (fun w β1 sb kn hw1=>mN β1 w hw1 _ _ _ _ _ s _ (kn _ (cD 1 rfl rfl))) ?_)))))
 refine lE mB (aN (cR rfl (eB (bD (lE dS (lE eS (lE aY (lE aY (lE (dK 1) (lu (mS 0 (eK s.su)) (aN (aV ?_))))))))))))
 refine gK (m:=[.agg (eK s.su)]) Tryz.results15 ⟨bS tt0.ok rfl (cD 0 rfl rfl) rfl,trivial⟩ rfl ?_
 intro w hw
 replace hw:=hw.perm (L':=[pt H (.cells #[pp J 0,.map (some mp),.map (some mh),Ix (s.last),Ix (s.su.a0),Ix (s.su.a1),Ix (s.su.a2),Ix (s.su.a3),.map (some mm),.bool (dn)] 91),bB cC mp s.ps,bB bL mh s.hs,bB dW mm ms,dG zs,pt b1 (.cells (eK s.su) 44)]) (by exact(aW [1,2,3,4,5,0] 6 rfl (by kernel_rfl) (by kernel_rfl)))
 replace hw:=aG (L':=[pt H (.cells #[pp J 0,.map (some mp),.map (some mh),Ix (s.last),Ix (s.su.a0),Ix (s.su.a1),Ix (s.su.a2),Ix (s.su.a3),.map (some mm),.bool (dn)] 91),bB cC mp s.ps,bB bL mh s.hs,bB dW mm ms,dG zs]) [true,true,true,true,true,false] rfl hw
 have hw2:=St.closeView (M:=[]) hk hw
 exact⟨by rw[←hk.supply]<;>rfl,hw2⟩
theorem aIo(β:Base)(w:World)(H J:Nat)(X:KHs)(dn:Bool)(hw:St β [fY H J X dn] w):Calls Tryz.prog 14 #[pp H 0] w fun r w'=>∃p c,r= .returned (sB p (sJ X) c)∧St β [aK aZ 3 p c (sJ X),fY H J X dn] w':=by
 obtain⟨mp,mh,mm,s,ms,zs,hk,hw⟩:=St.openView hw
 refine enter (n:=13) Tryz.func14 rfl Tryz.ntmps14 rfl ?_ hw
 refine bD (lE iO (aN (eR (aC (lE dS (gI gH (fun w β1 sb kn hw1=>mN β1 w hw1 _ _ _ _ _ s _ (kn _ (cD 0 rfl rfl))) (lE mB ?_)))))))
 refine aN (cR rfl (eB (bD (lE dS (lE eS (lE aY (lE aY (lv (v:= .map (some mp)) (bI rZ.ok rfl (cD 0 rfl rfl)) ?_))))))))
 refine pV (cT (vs:=[.map (some mp)]) bAj.ok rfl rfl) rfl fun w β1 sb kn hw1 back=>(aGh β1 w hw1 mp).mono ?_
 rintro e w' ⟨b1,rfl,hw'⟩
 refine⟨_,rfl,_,back _ _ hw',?_⟩
 refine aX rfl rfl rfl (cT (vs:=[.func (.func 80) #[] #[pp b1 0]]) aHg.ok rfl rfl) ?_
 intro w hw
 obtain⟨β1,sb,kn,hw1,back⟩:=St.frame (L:=[_]) (M:=_::_::_::_::_::[]) hw
 refine(nJ β1 w _ _ _ (aBp β1 b1 mp s.ps (kn _ (bH.of_res 1 rfl (bB.mono _ _ _) fun _ h=>h))) (Nat.le_trans hk.pfew (by decide)) hw1).mono ?_
 rintro e w' ⟨p2,c3,rfl,hw'⟩
 refine⟨_,rfl,_,back _ _ hw',?_⟩
 refine lE iO (aN (aV (dJ Tryz.results14 (v:=sB p2 (sortI (s.ps.map (·.1))) c3) rfl ?_)))
 intro w hw
 replace hw:=hw.perm (L':=[pt H (.cells #[pp J 0,.map (some mp),.map (some mh),Ix (s.last),Ix (s.su.a0),Ix (s.su.a1),Ix (s.su.a2),Ix (s.su.a3),.map (some mm),.bool (dn)] 91),bB cC mp s.ps,bB bL mh s.hs,bB dW mm ms,dG zs,aK aZ 3 p2 c3 (sortI (s.ps.map (·.1)))]) (by exact(aW [1,2,3,4,5,0] 6 rfl (by kernel_rfl) (by kernel_rfl)))
 have hw2:=St.closeView (M:=[aK aZ 3 p2 c3 (sortI (s.ps.map (·.1)))]) hk hw
 rw[hk.owners]at hw2;exact⟨p2,c3,by rw[hk.owners],hw2.perm (List.Perm.swap _ _ _)⟩
theorem aBl(β:Base)(w:World)(H J:Nat)(X:KHs)(dn:Bool)(hw:St β [fY H J X dn] w):Calls Tryz.prog 13 #[pp H 0] w fun r w'=>∃p c,r= .returned (sB p (gW X) c)∧St β [aK fG 104 p c (gW X),fY H J X dn] w':=by
 obtain⟨mp,mh,mm,s,ms,zs,hk,hw⟩:=St.openView hw
 refine enter (n:=33) Tryz.func13 rfl Tryz.ntmps13 rfl ?_ hw
 refine bD (lE iO (aN (eR (aC (lE dS (gI gH (fun w β1 sb kn hw1=>mN β1 w hw1 _ _ _ _ _ s _ (kn _ (cD 0 rfl rfl))) (lE mB ?_)))))))
 refine aN (cR rfl (eB (bD (lE iO (aN (eR (iK (r:=aK fG 104 none 0 []) (eA _ _ _) (aC (lE dS (lE eS (lE aY (lE aY ?_))))))))))))
 refine lv (v:= .map (some mh)) (bI vQ.ok rfl (cD 1 rfl rfl)) ?_
 refine pV (cT (vs:=[.map (some mh)]) bAk.ok rfl rfl) rfl fun w β1 sb kn hw1 back=>(aGg β1 w hw1 mh).mono ?_
 rintro e w' ⟨b1,rfl,hw'⟩
 refine⟨_,rfl,_,back _ _ hw',?_⟩
 refine aX rfl rfl rfl (cT (vs:=[.func (.func 79) #[] #[pp b1 0]]) aHg.ok rfl rfl) ?_
 intro w hw
 obtain⟨β1,sb,kn,hw1,back⟩:=St.frame (L:=[_]) (M:=_::_::_::_::_::_::[]) hw
 refine(nJ β1 w _ _ _ (aBo β1 b1 mh s.hs (kn _ (bH.of_res 3 rfl (bB.mono _ _ _) fun _ h=>h))) (Nat.le_trans hk.hfew (by decide)) hw1).mono ?_
 rintro e w' ⟨p2,c3,rfl,hw'⟩
 refine⟨_,rfl,_,back _ _ hw',?_⟩
 refine lE gY (lE aU (aN (aJ ?_)))
 refine cZ (fun(x_:Nat×List KHo×Option Addr×Nat) f L=>match x_ with|(kk,hol,p,c)=>(f 0=pp H 0∧f 3=sB p hol c∧f 15=sB p2 (sortI (s.hs.map (·.1))) c3∧f 16=Nx ((sortI (s.hs.map (·.1))).length)∧f 17=Nx (kk))∧L=[aK aZ 3 p2 c3 (sortI (s.hs.map (·.1))),aK fG 104 p c hol,pt H (.cells #[pp J 0,.map (some mp),.map (some mh),Ix (s.last),Ix (s.su.a0),Ix (s.su.a1),Ix (s.su.a2),Ix (s.su.a3),.map (some mm),.bool (dn)] 91),bB cC mp s.ps,bB bL mh s.hs,bB dW mm ms,dG zs]∧(kk≤(sortI (s.hs.map (·.1))).length∧hol=((sortI (s.hs.map (·.1))).take kk).map (mM s.hs))) (fun(kk,hol,p,c)=>(sortI (s.hs.map (·.1))).length-kk) (0,[],none,0) ?_ ?_
 ·exact⟨⟨rfl,rfl,rfl,rfl,rfl⟩,rfl,⟨Nat.zero_le _,rfl⟩⟩
 rintro⟨kk,hol,p,c⟩ f0 L0 ⟨⟨hs0,hs3,hs15,hs16,hs17⟩,hL,⟨hkl,hhs⟩⟩
 subst L0
 refine bJ 0 hs0 (bJ 3 hs3 (bJ 15 hs15 (bJ 16 hs16 (bJ 17 hs17 ?_))))
 have hsl:(sortI (s.hs.map (·.1))).length≤128:=by rw[jQ];exact hk.hfew
 have hhl:hol.length≤256:=by rw[hhs,List.length_map,List.length_take,jQ];have:=hk.hfew;omega
 refine bD (lE gN (aN (aL (cN _ rfl (fun hc4=> ?_) (fun hc4=> ?_)))))
 ·refine eB (aL (aJ (bD (lv (v:= .pointer (some ((ba p2).add (kk*1)))) (eL 0 (F:=aZ) rfl rfl rfl rY (by omega) rfl) ?_))))
  obtain⟨x5,hx6⟩:∃x_,(sortI (s.hs.map (·.1)))[kk]? =some x_:=⟨_,List.getElem?_eq_getElem (by first|omega|decide)⟩
  refine lv (v:=Ix (x5)) (bI tt2.ok rfl (lF 0 (F:=aZ) rfl hx6)) (lE bN (xJ (lE fL (lE dS (lE eS (lE aY (lE aY ?_)))))))
  refine lv (v:= .map (some mh)) (bI vQ.ok rfl (cD 2 rfl rfl)) (lE aU ?_)
  refine lv (v:= .agg #[Ix (((bL.look s.hs (x5)).getD bE).number),Ix (((bL.look s.hs (x5)).getD bE).owner),Ix (((bL.look s.hs (x5)).getD bE).a.a0),Ix (((bL.look s.hs (x5)).getD bE).a.a1),Ix (((bL.look s.hs (x5)).getD bE).a.a2),Ix (((bL.look s.hs (x5)).getD bE).a.a3)]) (lL (K:=bL) (b:=mh) (ks:=s.hs) (k:=(x5)) rfl rfl rfl (bH.of_res 4 rfl (bB.mono _ _ _) fun _ h=>h)) ?_
  refine dA rfl rfl rfl (bZ aLx aUj.ok (cells:= #[Ix (((bL.look s.hs (x5)).getD bE).number),Ix (((bL.look s.hs (x5)).getD bE).owner),Ix (((bL.look s.hs (x5)).getD bE).a.a0),Ix (((bL.look s.hs (x5)).getD bE).a.a1),Ix (((bL.look s.hs (x5)).getD bE).a.a2),Ix (((bL.look s.hs (x5)).getD bE).a.a3)]) rfl rfl rfl rfl) ?_
  rintro _ _ ⟨b7,rfl,rfl⟩
  refine dA rfl rfl rfl (cF (F:=fG) 2 aLx bFx (p:=p) (m:=hol.length) (xs:=hol) (ys:=[((bL.look s.hs (x5)).getD bE)]) (ao:=(some ⟨b7,0,none⟩)) (k:=1) (c:=1) rfl rfl rfl rfl rfl (gX (z:=((bL.look s.hs (x5)).getD bE)) 0 rfl rfl) (by first|omega|simp only[List.length_nil,List.length_cons,List.length_append,List.length_set];omega) (by first|omega|simp only[List.length_nil,List.length_cons,List.length_append,List.length_set];omega)) ?_
  rintro _ _ ⟨rp8,rc9,rfl,rfl⟩
  refine lE iO (aH (aP (bA (aC (lv (v:=Nx (kk+1)) (bO rfl rfl (cW (by omega) (by omega))) (lE aU (aH ?_)))))))
  refine dD [false,true,true,true,true,true,true,true] rfl ?_
  exact bG ⟨(kk+1,(hol++[((bL.look s.hs (x5)).getD bE)]),rp8,rc9),⟨⟨rfl,rfl,rfl,rfl,rfl⟩,rfl,⟨by omega,by rw[hhs];exact aIg hx6⟩⟩,(show(sortI (s.hs.map (·.1))).length-(kk+1)<(sortI (s.hs.map (·.1))).length-kk from by omega)⟩
 refine cK (aF (aF (cL (kM (lE fL (lE iO (aN (aV (dJ Tryz.results13 rfl ?_)))))))))
 intro w hw
 have hhe:hol=gW X:=by rw[←hk.holds,hhs,List.take_of_length_le (by omega)]
 subst hhe
 replace hw:=hw.perm (L':=[pt H (.cells #[pp J 0,.map (some mp),.map (some mh),Ix (s.last),Ix (s.su.a0),Ix (s.su.a1),Ix (s.su.a2),Ix (s.su.a3),.map (some mm),.bool (dn)] 91),bB cC mp s.ps,bB bL mh s.hs,bB dW mm ms,dG zs,aK fG 104 p c (gW X),aK aZ 3 p2 c3 (sortI (s.hs.map (·.1)))]) (by exact(aW [2,3,4,5,6,1,0] 7 rfl (by kernel_rfl) (by kernel_rfl)))
 replace hw:=aG (L':=[pt H (.cells #[pp J 0,.map (some mp),.map (some mh),Ix (s.last),Ix (s.su.a0),Ix (s.su.a1),Ix (s.su.a2),Ix (s.su.a3),.map (some mm),.bool (dn)] 91),bB cC mp s.ps,bB bL mh s.hs,bB dW mm ms,dG zs,aK fG 104 p c (gW X)]) [true,true,true,true,true,true,false] rfl hw
 have hw2:=St.closeView (M:=[aK fG 104 p c (gW X)]) hk hw
 exact⟨p,c,rfl,hw2.perm (List.Perm.swap _ _ _)⟩
theorem aSt(β:Base)(w:World)(H S N W:Nat)(pw:Int)(X:KHs)(hw:St β [cV H S X N W pw] w)(n:Int):Calls Tryz.prog 44 #[pp H 0,Ix n] w fun r w'=>r= .returned (.agg (eK (iS X.s.ps n)))∧St β [cV H S X N W pw] w':=by
 refine(wG (Φ:=fun r L=>r= .returned (.agg (eK (iS X.s.ps n)))∧L=[]) hw (fun β w J hw=>(aBt β w H J X false hw n).mono ?_)).mono ?_
 ·rintro r w' ⟨rfl,hw'⟩;exact⟨[],⟨rfl,rfl⟩,hw'⟩
 rintro r w' ⟨L,⟨rfl,rfl⟩,hw'⟩;exact⟨rfl,hw'⟩
theorem aOk(β:Base)(w:World)(H S N W:Nat)(pw:Int)(X:KHs)(hw:St β [cV H S X N W pw] w):Calls Tryz.prog 15 #[pp H 0] w fun r w'=>r= .returned (.agg (eK X.s.su))∧St β [cV H S X N W pw] w':=by
 refine(wG (Φ:=fun r L=>r= .returned (.agg (eK X.s.su))∧L=[]) hw (fun β w J hw=>(aAc β w H J X false hw).mono ?_)).mono ?_
 ·rintro r w' ⟨rfl,hw'⟩;exact⟨[],⟨rfl,rfl⟩,hw'⟩
 rintro r w' ⟨L,⟨rfl,rfl⟩,hw'⟩;exact⟨rfl,hw'⟩
theorem aRc(β:Base)(w:World)(H S N W:Nat)(pw:Int)(X:KHs)(hw:St β [cV H S X N W pw] w):Calls Tryz.prog 13 #[pp H 0] w fun r w'=>∃p c,r= .returned (sB p (gW X) c)∧St β [aK fG 104 p c (gW X),cV H S X N W pw] w':=by
 refine(wG (Φ:=fun r L=>∃p c,r= .returned (sB p (gW X) c)∧L=[aK fG 104 p c (gW X)]) hw (fun β w J hw=>(aBl β w H J X false hw).mono ?_)).mono ?_
 ·rintro r w' ⟨p,c,rfl,hw'⟩;exact⟨_,⟨p,c,rfl,rfl⟩,hw'⟩
 rintro r w' ⟨L,⟨p,c,rfl,rfl⟩,hw'⟩;exact⟨p,c,rfl,hw'⟩
end Go.Proofs
