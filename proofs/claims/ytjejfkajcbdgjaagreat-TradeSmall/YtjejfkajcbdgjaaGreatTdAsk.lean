/-
 The reference's Ask on its house in memory. Own work; plain Lean.
-/
import Derived.Test.YtjejfkajcbdgjaaGreatTd8
set_option linter.all false
namespace Go.Proofs
open Go Go.Sl Go.Td Go.Jn
theorem bIk{A B C D E F G H I X Y Z:bU}{a:bQ}(e1:∀a,jE [A,E] a→X a)(e2:∀a,jE [B,F] a→Y a)(e3:∀a,jE [I,D,H] a→Z a)(h:jE [A,B,C,D,E,F,G,H,I] a):jE [X,Y,C,Z] a:=by
 have h2:=jE.bun (A:=[A,E]) (M:=[B,F,C,I,D,H,G]) e1 (h.perm (aW [0,4,1,5,2,8,3,7,6] 9 rfl (by kernel_rfl) (by kernel_rfl)))
 have h4:=jE.bun (A:=[B,F]) (M:=[X,C,I,D,H,G]) e2 (h2.perm (aW [1,2,0,3,4,5,6,7] 8 rfl (by kernel_rfl) (by kernel_rfl)))
 have h6:=jE.bun (A:=[I,D,H]) (M:=[X,Y,C,G]) e3 (h4.perm (aW [3,4,5,1,0,2,6] 7 rfl (by kernel_rfl) (by kernel_rfl)))
 have h7:jE [X,Y,C,Z,G] a:=h6.perm (aW [1,2,3,0,4] 5 rfl (by kernel_rfl) (by kernel_rfl))
 exact h7.drop (List.Sublist.cons_cons _ (List.Sublist.cons_cons _ (List.Sublist.cons_cons _ (List.Sublist.cons_cons _ (List.Sublist.cons _ (List.Sublist.refl _))))))
theorem aGw{p1 p2 p3 p1' p2' p3' pa q:Option Addr}{c1 c2 c3 c1' c2' c3' ca k:Nat}{rh:KRh}{au nu:Int}{al:List KAct}{zs:List (KMh×KMem)}(hds:rh.ds=zs.map (·.2))(hz:∀z∈zs,HdOf z){Z:KRh×KRes}(hZ:aS rh rh [] 0 al=Z)(a:bQ)
 (h:jE [gZ kF 128 p1 c1 rh.ps p1' c1' Z.1.ps,gZ fG 130 p2 c2 rh.hs p2' c2' Z.1.hs,aK xF 122 p3' c3' (⟨au,nu,pa,al.length,ca,Z.2.done,Z.2.at_,Z.2.e,q,Z.2.holds.length,k⟩::gD au (zs.map (·.1))),aK aZ 3 q k Z.2.holds,aK kF 128 p1 c1 rh.ps,aK fG 130 p2 c2 rh.hs,aK xF 122 p3 c3 (zs.map (·.1)),dG zs,aK cJ 120 pa ca al] a):
  aGv p1' c1' p2' c2' p3' c3' (eU rh au nu al).1 q k (eU rh au nu al).2.holds a:=by
 subst hZ
 have h7:=bIk aLt aLt (fun a h=>bCh (au:=au) (nu:=nu) h) h
 have hk:=aKr (au:=au) hz
 have h8:jE [aK kF 128 p1' c1' (eU rh au nu al).1.ps,aK fG 130 p2' c2' (eU rh au nu al).1.hs,aK xF 122 p3' c3' (((⟨au,nu,pa,al.length,ca,(eU rh au nu al).2.done,(eU rh au nu al).2.at_,(eU rh au nu al).2.e,q,(eU rh au nu al).2.holds.length,k⟩,⟨⟨au,nu,al⟩,(eU rh au nu al).2⟩)::zs.filter fun z=>decide (z.1.author≠au)).map (·.1)),dG ((⟨au,nu,pa,al.length,ca,(eU rh au nu al).2.done,(eU rh au nu al).2.at_,(eU rh au nu al).2.e,q,(eU rh au nu al).2.holds.length,k⟩,⟨⟨au,nu,al⟩,(eU rh au nu al).2⟩)::zs.filter fun z=>decide (z.1.author≠au))] a:=by
  rw[hk.1]at h7
  exact h7
 obtain⟨b,hb,hm⟩:=jE.each h8 (dG _) (by simp;exact .inr (.inr (.inr rfl)))
 refine⟨⟨_,?_,?_,h8⟩,?_⟩
 ·show _::oD au rh.ds=_::_
  rw[hds,hk.2];rfl
 ·intro z hzz
  rcases List.mem_cons.1 hzz with rfl|hzz
  ·exact⟨rfl,rfl,rfl,rfl,rfl,rfl,rfl⟩
  ·exact hz z (List.mem_filter.1 hzz).1
 ·exact Sl.mono _ _ _ _ _ hb (hm _ (List.mem_cons_self ..)).holds
theorem aVf(β:Base)(w:World)(p1:Option Addr)(c1:Nat)(p2:Option Addr)(c2:Nat)(p3:Option Addr)(c3:Nat)(rh:KRh)(pa:Option Addr)(ca:Nat)(al:List KAct)(hw:St β [vG p1 c1 p2 c2 p3 c3 rh,aK cJ 120 pa ca al] w)(hdn:rh.ds.length≤100000)(s0:KSt)(hr0:RelS s0 rh)(hg0:Good2 s0)(hl62:rh.last+16≤4611686018427387904)(au nu:Int)(hal:al.length≤100000):
  Calls Tryz.prog 24 #[.agg #[.slice p1 rh.ps.length c1,.slice p2 rh.hs.length c2,Ix rh.last,Ix rh.su.a0,Ix rh.su.a1,Ix rh.su.a2,Ix rh.su.a3,.slice p3 rh.ds.length c3],Ix au,Ix nu,.slice pa al.length ca] w fun r w'=>∃p1' c1' p2' c2' p3' c3' q k,r= .returned (.tuple #[.agg #[.slice p1' (kC rh au nu al).1.ps.length c1',.slice p2' (kC rh au nu al).1.hs.length c2',Ix (kC rh au nu al).1.last,Ix (kC rh au nu al).1.su.a0,Ix (kC rh au nu al).1.su.a1,Ix (kC rh au nu al).1.su.a2,Ix (kC rh au nu al).1.su.a3,.slice p3' (kC rh au nu al).1.ds.length c3'],.agg #[.bool (kC rh au nu al).2.1.done,Ix (kC rh au nu al).2.1.at_,Ix (kC rh au nu al).2.1.e,.slice q (kC rh au nu al).2.1.holds.length k],Ix (kC rh au nu al).2.2])∧St β [aGv p1' c1' p2' c2' p3' c3' (kC rh au nu al).1 q k (kC rh au nu al).2.1.holds] w':=by
 obtain⟨zs,hds,hz,hw⟩:=St.openRef hw
 have hn:(zs.map (·.1)).length=rh.ds.length:=by rw[hds,List.length_map,List.length_map]
 rw[←hn]
 obtain⟨β1,sb,kn,hw1,back⟩:=St.frame_all hw
 have hask:=aXn β1 w hw1 rh p1 p2 p3 c1 c2 c3 (zs.map (·.1)) (kn _ (aGf 0 rfl)) (kn _ (aGf 1 rfl)) (kn _ (aGf 2 rfl)) (by rw[hn];exact hdn) s0 hr0 hg0 hl62 au nu pa ca al (kn _ (aGf 4 rfl)) zs hz (kn _ (bH.of_res 3 rfl (dG.mono zs) fun _ h=>h)) rfl hds hal
 refine hask.mono ?_
 rintro r w' (⟨R,e,q,k,h1,h2,h3,h4⟩|⟨h1,hfm,p1',c1',p2',c2',p3',c3',q,k,h2,h3⟩)
 ·rw[h1]
  refine⟨p1,c1,p2,c2,p3,c3,q,k,?_,?_⟩
  ·rw[h2];unfold sB;rw[hn]
  ·refine(St.merge (L:=[aK kF 128 p1 c1 rh.ps,aK fG 130 p2 c2 rh.hs,aK xF 122 p3 c3 (zs.map (·.1)),dG zs]) (M:=[aK cJ 120 pa ca al]) (back _ _ h4) fun a ha=> ?_).drop (List.Sublist.cons_cons _ (List.nil_sublist _))
   obtain⟨b,hb,hm⟩:=jE.each ha (dG zs) (by simp)
   exact⟨⟨zs,hds,hz,ha⟩,Sl.mono _ _ _ _ _ hb (h3.sl hm)⟩
 ·rw[h1]
  refine⟨p1',c1',p2',c2',p3',c3',q,k,?_,?_⟩
  ·rw[h2]
   have hk:=aKr (au:=au) hz
   have e:(eU rh au nu al).1.ds.length=(⟨au,nu,pa,al.length,ca,(aS rh rh [] 0 al).2.done,(aS rh rh [] 0 al).2.at_,(aS rh rh [] 0 al).2.e,q,(aS rh rh [] 0 al).2.holds.length,k⟩::gD au (zs.map (·.1)):List KMh).length:=by
    show(_::oD au rh.ds:List KMem).length=_
    rw[hds,hk.1,hk.2];simp
   show _=Ending.returned (.tuple #[.agg #[_,_,_,_,_,_,_,.slice p3' (eU rh au nu al).1.ds.length c3'],_,_])
   rw[e];rfl
  ·exact St.merge (L:=[_,_,_,_,_,_,_,_,_]) (M:=[]) (back _ _ h3) (aGw hds hz rfl)
end Go.Proofs
