/-
 TradeTells: what its walk needs beside it. Own work; plain Lean.
-/
import Derived.Test.YtjejfkajcbdgjaaGreatTd31
set_option linter.all false
namespace Go.Proofs
open Go Go.Sl Go.Td Go.Jn
theorem bAt{X X1:KHs}{au nu:Int}{al:List KAct}{R:KRes}{e:Int}(h:XOk X)(hh:vQ al)(hd:rS X au nu al=(X1,R,e)):XOk X1∧X1.s.last≤X.s.last+16∧R.holds.length≤16:=by
 have hx:∀R:KRes,R.holds.length≤16→XOk X∧X.s.last≤X.s.last+16∧R.holds.length≤16:=fun R hR=>⟨h,by omega,hR⟩
 have hz:dK.holds.length≤16:=by decide
 unfold rS at hd
 cases hf:cE au nu al with
 |false=>rw[if_pos hf]at hd;injection hd with hd hd2;injection hd2 with hd2 hd3;subst hd;subst hd2;exact hx _ hz
 |true=>
  rw[hf,if_neg (by decide)]at hd
  have hc:=vJ h hf hh
  have hc':XOk (eH X au nu al)∧(eH X au nu al).s.last≤X.s.last+16∧(aE X.s al).2.holds.length≤16:=⟨hc.1,hc.2.1,hc.2.2.2.hn⟩
  cases hm:X.done au with
  |none=>
   rw[hm]at hd
   have hd:(eH X au nu al,(aE X.s al).2,(0:Int))=(X1,R,e):=hd
   injection hd with hd hd2;injection hd2 with hd2 hd3;subst hd;subst hd2;exact hc'
  |some m=>
   rw[hm]at hd
   have hd:(if m.d.number=nu then(if m.d.acts=al then(X,m.r,(0:Int))else(X,dK,331))else if nu<m.d.number then(X,dK,332)else(eH X au nu al,(aE X.s al).2,0))=(X1,R,e):=hd
   split at hd
   ·split at hd
    ·injection hd with hd hd2;injection hd2 with hd2 hd3;subst hd;subst hd2;exact hx _ (h.m _ _ hm).r.hn
    ·injection hd with hd hd2;injection hd2 with hd2 hd3;subst hd;subst hd2;exact hx _ hz
   ·split at hd
    ·injection hd with hd hd2;injection hd2 with hd2 hd3;subst hd;subst hd2;exact hx _ hz
    ·injection hd with hd hd2;injection hd2 with hd2 hd3;subst hd;subst hd2;exact hc'
theorem aSq{h:bV}:uQ none 0 none 0 none 0 ⟨[],[],0,zeroA,[]⟩ h:=
 ⟨[],rfl,fun z hz=>(by cases hz),fun _=>none,fun _=>none,fun _=> .inl rfl,fun _ _ h=>(by cases h),fun _ _ h=>(by cases h),eG _ _ _,fun _=>none,fun _=>none,fun _=> .inl rfl,fun _ _ h=>(by cases h),fun _ _ h=>(by cases h),eG _ _ _,fun _=>none,fun _=>none,fun _=> .inl rfl,fun _ _ h=>(by cases h),fun _ _ h=>(by cases h),eG _ _ _,fun _=>none,fun _=>none,fun _=> .inl rfl,fun _ _ h=>(by cases h),fun _ _ h=>(by cases h),yS,trivial⟩
section
variable {p1 p2 p3 q:Option Addr}{c1 c2 c3 k:Nat}{h:KRh}{hl:List Int}
theorem aSr(a:bV)(hy:aGi p1 c1 p2 c2 p3 c3 h q k hl a):uQ p1 c1 p2 c2 p3 c3 h a:=hy.1
theorem bBj{β:Base}{L:List bU}(i:Nat)(hi:L[i]? =some (aGi p1 c1 p2 c2 p3 c3 h q k hl)):bF β L (fun w=>Sl bA.R w (.slice q hl.length k) hl):=bF.of_res i hi (Sl.mono _ _ _) fun _ hy=>hy.2
end
theorem aUp(β:Base)(w:World)(p1:Option Addr)(c1:Nat)(p2:Option Addr)(c2:Nat)(p3:Option Addr)(c3:Nat)(rh:KRh)(pa:Option Addr)(ca:Nat)(al:List KAct)(hw:St β [uQ p1 c1 p2 c2 p3 c3 rh,aM dI 120 pa ca al] w)(hdn:rh.ds.length≤100000)(s0:KSt)(hr0:RelS s0 rh)(hg0:Good2 s0)(hl62:rh.last+16≤4611686018427387904)(au nu:Int)(hal:al.length≤100000){h1:KRh}{R:KRes}{e:Int}(hA:jT rh au nu al=(h1,R,e)):
  Calls Tryz.prog 24 #[.agg #[.slice p1 rh.ps.length c1,.slice p2 rh.hs.length c2,Ix rh.last,Ix rh.su.a0,Ix rh.su.a1,Ix rh.su.a2,Ix rh.su.a3,.slice p3 rh.ds.length c3],Ix au,Ix nu,.slice pa al.length ca] w fun r w'=>∃p1' c1' p2' c2' p3' c3' q k,r= .returned (.tuple #[.agg #[.slice p1' h1.ps.length c1',.slice p2' h1.hs.length c2',Ix h1.last,Ix h1.su.a0,Ix h1.su.a1,Ix h1.su.a2,Ix h1.su.a3,.slice p3' h1.ds.length c3'],.agg #[.bool R.done,Ix R.at_,Ix R.e,.slice q R.holds.length k],Ix e])∧St β [aGi p1' c1' p2' c2' p3' c3' h1 q k R.holds] w':=by
 have h:=aUq β w p1 c1 p2 c2 p3 c3 rh pa ca al hw hdn s0 hr0 hg0 hl62 au nu hal
 rw[hA]at h
 exact h
theorem aNq(β:Base)(w:World)(H S N W:Nat)(pw:Int)(X:KHs)(p1:Option Addr)(c1:Nat)(p2:Option Addr)(c2:Nat)(p3:Option Addr)(c3:Nat)(rh:KRh)(hw:St β [cO H S X N W pw,uQ p1 c1 p2 c2 p3 c3 rh] w)(hdn:rh.ds.length≤100000)(hrx:RelX X rh)(hgx:Good2 X.s):
  Calls Tryz.prog 27 #[.pointer (some ⟨H,0,none⟩),.agg #[.slice p1 rh.ps.length c1,.slice p2 rh.hs.length c2,Ix rh.last,Ix rh.su.a0,Ix rh.su.a1,Ix rh.su.a2,Ix rh.su.a3,.slice p3 rh.ds.length c3]] w fun r w'=>r= .returned (.bool true)∧St β [cO H S X N W pw,uQ p1 c1 p2 c2 p3 c3 rh] w':=by
 obtain⟨J,i,k,h1,h2,h3⟩:=St.splitHouse hw
 obtain⟨zs,hds,hz,h4⟩:=St.openRef (p1:=p1) (p2:=p2) (p3:=p3) (c1:=c1) (c2:=c2) (c3:=c3) (h:=rh) (M:=[fV H J X false,eV J S i false,aP S k]) (h3.perm (aV [3,0,1,2] 4 rfl (by kernel_rfl) (by kernel_rfl)))
 have h5:St β ([fV H J X false]++[eV J S i false,aP S k,aM jW 128 p1 c1 rh.ps,aM fD 130 p2 c2 rh.hs,aM wR 122 p3 c3 (zs.map (·.1)),cV zs]) w:=h4.perm (aV [4,5,6,0,1,2,3] 7 rfl (by kernel_rfl) (by kernel_rfl))
 have hn:(zs.map (·.1)).length=rh.ds.length:=by rw[hds,List.length_map,List.length_map]
 rw[←hn]
 obtain⟨β1,sb,kn,hw1,back⟩:=St.frame h5
 have hs:=aNr β1 w H J X false hw1 rh p1 p2 p3 c1 c2 c3 (zs.map (·.1)) (kn _ (aFs 2 rfl)) (kn _ (aFs 3 rfl)) (kn _ (aFs 4 rfl)) (by rw[hn];exact hdn) zs hz (kn _ (bF.of_res 5 rfl (cV.mono zs) fun _ h=>h)) rfl hds hrx hgx
 refine hs.mono ?_
 rintro r w' ⟨h6,h7⟩
 refine⟨h6,?_⟩
 have h8:=St.joinHouse (M:=[aM jW 128 p1 c1 rh.ps,aM fD 130 p2 c2 rh.hs,aM wR 122 p3 c3 (zs.map (·.1)),cV zs]) h1 h2 (back _ _ h7)
 have h9:St β ([aM jW 128 p1 c1 rh.ps,aM fD 130 p2 c2 rh.hs,aM wR 122 p3 c3 (zs.map (·.1)),cV zs]++[cO H S X N W pw]) w':=h8.perm (aV [1,2,3,4,0] 5 rfl (by kernel_rfl) (by kernel_rfl))
 exact(St.merge (r:=uQ p1 c1 p2 c2 p3 c3 rh) h9 fun a ha=>⟨zs,hds,hz,ha⟩).perm (List.Perm.swap _ _ _)
section
variable {l ys:List KAct}{j:Nat}{a b z:KAct}
theorem bEr(hd:ys.drop j=(l.take 18).drop j)(h1:ys[j]? =some a)(h2:l[j]? =some b)(hj:j<(l.take 18).length):a=b:=by
 rw[List.length_take]at hj
 have e1:(ys.drop j)[0]? =some a:=by rw[List.getElem?_drop];exact h1
 have e2:((l.take 18).drop j)[0]? =some b:=by rw[List.getElem?_drop,List.getElem?_take];simp only[Nat.add_zero];rw[if_pos (by omega)];exact h2
 rw[hd,e2]at e1;injection e1 with e1;exact e1.symm
theorem aXw(hd:ys.drop j=(l.take 18).drop j)(z:KAct):(ys.set j z).drop (j+1)=(l.take 18).drop (j+1):=by
 rw[List.drop_set_of_lt (by omega),←List.drop_drop,hd,List.drop_drop]
end
theorem aZj{x:TOp}(h:OpI x):vQ (x.acts.take 18):=fun y hy=>(h.x y (List.mem_of_mem_take hy)).h.2
end Go.Proofs
