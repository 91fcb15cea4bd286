/-
 The reference's journal in a block, and what becomes of its memory. Own work; plain Lean.
-/
import Derived.Test.YtkpdcajddpiknaaJn22
set_option linter.all false
namespace Go.Jn
open Go Go.Sl Go.Proofs
abbrev rjC(pH pA pB ps pr:Option Addr)(cH cA cB cs cr:Nat)(k:KS)(i:KI)(dn:Bool):Array Value:= #[.slice pH k.head.length cH,.slice pA k.a.length cA,.slice pB k.b.length cB,Ix k.power,Nx i.epoch,Nx i.next,.slice ps i.state.length cs,.slice pr i.recs.length cr,Nx i.size,.bool dn]
abbrev aLx(pH pA pB ps pr:Option Addr)(cH cA cB cs cr:Nat)(k:KS)(i:KI):cE:=iT (.slice pH k.head.length cH) (.slice pA k.a.length cA) (.slice pB k.b.length cB) (.slice ps i.state.length cs) (.slice pr i.recs.length cr) k i
def uI(B:Nat)(k:KS)(i:KI)(dn:Bool):cE:=fun h=>∃pH pA pB ps pr cH cA cB cs cr,kI [pt B (.cells (rjC pH pA pB ps pr cH cA cB cs cr k i dn) 56),aLx pH pA pB ps pr cH cA cB cs cr k i] h
def aAd(vH vA vB vS:Value)(pr:Option Addr)(cr:Nat)(us:List Value)(k:KS)(i:KI):cE:=fun h=>Sl bE h vH k.head∧Sl bE h vA k.a∧Sl bE h vB k.b∧Sl bE h vS i.state∧Cs h (ba pr) us∧tX us i.recs h∧Sl rA h (.slice pr i.recs.length cr) i.recs
abbrev sW(pH pA pB ps pr:Option Addr)(cH cA cB cs cr:Nat)(us:List Value)(k:KS)(i:KI):cE:=aAd (.slice pH k.head.length cH) (.slice pA k.a.length cA) (.slice pB k.b.length cB) (.slice ps i.state.length cs) pr cr us k i
theorem aAd.mono(vH vA vB vS:Value)(pr:Option Addr)(cr:Nat)(us:List Value)(k:KS)(i:KI):oZ (aAd vH vA vB vS pr cr us k i):=fun _ _ hs ⟨a,b,c,d,e,f,g⟩=>⟨Sl.mono _ _ _ _ _ hs a,Sl.mono _ _ _ _ _ hs b,Sl.mono _ _ _ _ _ hs c,Sl.mono _ _ _ _ _ hs d,Cs.mono _ _ _ _ hs e,tX.mono _ _ _ _ hs f,Sl.mono _ _ _ _ _ hs g⟩
theorem aKa{vH vA vB vS:Value}{pr:Option Addr}{cr:Nat}{us:List Value}{k:KS}{i:KI}{h:bR}(hm:aAd vH vA vB vS pr cr us k i h):iT vH vA vB vS (.slice pr i.recs.length cr) k i h:=⟨hm.1,hm.2.1,hm.2.2.1,hm.2.2.2.1,hm.2.2.2.2.2.2⟩
section
variable {P:Program}{ro:Option Nat}{n:Nat}{ds:List Deferred}{β:Base}{Q:Exit→Act→World→Prop}{f:Fm}{L:List cE}
theorem tO{c:Code}{B:Nat}{k:KS}{i:KI}{dn:Bool}{M:List cE}(hL:L=uI B k i dn::M)
 (K:∀pH pA pB ps pr cH cA cB cs cr us,us.length=i.recs.length→(us.all (·.oneCell')=true)→(0<i.recs.length→pr=some (ba pr))→dE P ro n ds β c Q f (pt B (.cells (rjC pH pA pB ps pr cH cA cB cs cr k i dn) 56)::sW pH pA pB ps pr cH cA cB cs cr us k i::M)):dE P ro n ds β c Q f L:=fun a w ha hw=>by
 subst hL
 obtain⟨pH,hw⟩:=hw.ex
 obtain⟨pA,hw⟩:=hw.ex
 obtain⟨pB,hw⟩:=hw.ex
 obtain⟨ps,hw⟩:=hw.ex
 obtain⟨pr,hw⟩:=hw.ex
 obtain⟨cH,hw⟩:=hw.ex
 obtain⟨cA,hw⟩:=hw.ex
 obtain⟨cB,hw⟩:=hw.ex
 obtain⟨cs,hw⟩:=hw.ex
 obtain⟨cr,hw⟩:=hw.ex
 have hw1:=hw.unbun
 have hw2:=hw1.conseq_at (r':=fun h=>∃us,us.length=i.recs.length∧(us.all (·.oneCell')=true)∧(0<i.recs.length→pr=some (ba pr))∧sW pH pA pB ps pr cH cA cB cs cr us k i h) 1 rfl (fun h hm=>by
  obtain⟨us,h1,h2,h3,h4,h5⟩:=Go.Jn.Sl.us hm.2.2.2.2
  exact⟨us,h1,h3,h5,hm.1,hm.2.1,hm.2.2.1,hm.2.2.2.1,h2,h4,hm.2.2.2.2⟩)
 have hw3:=hw2.perm (List.Perm.swap _ _ _)
 obtain⟨us,hw4⟩:=hw3.ex
 have hp:=hw4.knows (F:=fun _=>us.length=i.recs.length∧(us.all (·.oneCell')=true)∧(0<i.recs.length→pr=some (ba pr))) (aX.of_res 0 rfl (fun _ _ _ h=>h) fun _ h=>⟨h.1,h.2.1,h.2.2.1⟩)
 have hw5:=hw4.conseq (r':=sW pH pA pB ps pr cH cA cB cs cr us k i) (fun _ h=>h.2.2.2)
 exact K pH pA pB ps pr cH cA cB cs cr us hp.1 hp.2.1 hp.2.2 a w ha (hw5.perm (List.Perm.swap _ _ _))
end
def apR(p:Option Addr)(c:Nat)(us:List Value)(m:Nat)(bs:Bs):cE:=fun h=>∃q cq,kI [row (.slice p (m+1) c) 30 1 (m+1) (us++[.slice q bs.length cq]),row (.slice q bs.length cq) 5 1 bs.length (BX bs)] h
theorem aFu{L:List cE}{h:bR}{r:cE}(hL:kI L h)(hm:oZ r)(i:Nat)(hi:L[i]? =some r):r h:=by
 obtain⟨a,ha,hr⟩:=hL.each _ (List.mem_of_getElem? hi)
 exact hm _ _ ha hr
theorem aKb{qH qA qB q:Option Addr}{dH dA dB cq:Nat}{k':KS}{i:KI}{bs:Bs}{a:bR}
 (h:kI [row (.slice qH k'.head.length dH) 5 1 k'.head.length (BX k'.head),row (.slice qA k'.a.length dA) 5 1 k'.a.length (BX k'.a),row (.slice qB k'.b.length dB) 5 1 k'.b.length (BX k'.b),row (.slice q bs.length cq) 5 1 bs.length (BX bs)] a):
 iT (.slice qH k'.head.length dH) (.slice qA k'.a.length dA) (.slice qB k'.b.length dB) (.slice q bs.length cq) (.slice none 0 0) k' (nF i bs) a:=⟨iM h 0 rfl,iM h 1 rfl,iM h 2 rfl,iM h 3 rfl,Sl.nil rA a⟩
theorem aJh{p:Option Addr}{c:Nat}{us:List Value}{xs:List Bs}{bs:Bs}{h:bR}(ha:∃a,gR a h∧apR p c us xs.length bs a)(hi:tX us xs h):Sl rA h (.slice p (xs++[bs]).length c) (xs++[bs]):=by
 obtain⟨a,hs,q,cq,hr⟩:=ha
 obtain⟨a1,h1,r1⟩:=hr.each _ (List.mem_of_getElem? (i:=0) rfl)
 obtain⟨a2,h2,r2⟩:=hr.each _ (List.mem_of_getElem? (i:=1) rfl)
 have e:(xs++[bs]).length=xs.length+1:=by simp
 rw[←e]at r1
 exact tK ⟨a1,h1.trans hs,r1⟩ (tY hi (Sl.mono _ _ _ _ _ (h2.trans hs) (fB r2)))
theorem aEx{qH qA qB:Option Addr}{dH dA dB:Nat}{k' k:KS}{i:KI}{vH vA vB vS:Value}{pr p:Option Addr}{cr c:Nat}{us:List Value}{bs:Bs}{a:bR}
 (h:kI [row (.slice qH k'.head.length dH) 5 1 k'.head.length (BX k'.head),row (.slice qA k'.a.length dA) 5 1 k'.a.length (BX k'.a),row (.slice qB k'.b.length dB) 5 1 k'.b.length (BX k'.b),apR p c us i.recs.length bs,aAd vH vA vB vS pr cr us k i] a):
  iT (.slice qH k'.head.length dH) (.slice qA k'.a.length dA) (.slice qB k'.b.length dB) vS (.slice p (hG i bs).recs.length c) k' (hG i bs) a:=by
 have hm:=aFu h (aAd.mono _ _ _ _ _ _ _ _ _) 4 rfl
 exact⟨iM h 0 rfl,iM h 1 rfl,iM h 2 rfl,hm.2.2.2.1,aJh (h.each _ (List.mem_of_getElem? (i:=3) rfl)) hm.2.2.2.2.2.1⟩
structure SmI(i:KI):Prop where
 state:i.state.length≤300
 recs:∀b∈i.recs,b.length≤300
 len:i.recs.length≤1000
theorem SmI.hb{i:KI}(h:SmI i):i.state.length≤1048576:=by have:=h.state;omega
theorem SmI.hn{i:KI}(h:SmI i):i.recs.length≤1048576:=by have:=h.len;omega
theorem SmI.hbs{i:KI}(h:SmI i):∀b∈i.recs,b.length≤1048576:=fun b hb=>by have:=h.recs b hb;omega
end Go.Jn
