/-
  Own work; plain Lean (TdTl, TdSm).
-/
import Derived.Test.YtjejfkajcbdgjaaGreatTd31
set_option linter.all false
namespace Go.Proofs
open Go Go.Sl Go.Td Go.Jn
theorem bBl{X X1:KHs}{au nu:Int}{al:List KAct}{R:KRes}{e:Int}(h:XOk X)(hh:wF al)(hd:sH X au nu al=(X1,R,e)):XOk X1∧X1.s.last≤X.s.last+16∧R.holds.length≤16:=by
 have hx:∀R:KRes,R.holds.length≤16→XOk X∧X.s.last≤X.s.last+16∧R.holds.length≤16:=fun R hR=>⟨h,by omega,hR⟩
 have hz:dR.holds.length≤16:=by decide
 unfold sH at hd
 cases hf:cO au nu al with
 |false=>rw[if_pos hf]at hd;injection hd with hd hd2;injection hd2 with hd2 hd3;subst hd;subst hd2;exact hx _ hz
 |true=>
  rw[hf,if_neg (by decide)]at hd
  have hc:=wA h hf hh
  have hc':XOk (eJ X au nu al)∧(eJ X au nu al).s.last≤X.s.last+16∧(aE X.s al).2.holds.length≤16:=⟨hc.1,hc.2.1,hc.2.2.2.hn⟩
  cases hm:X.done au with
  |none=>
   rw[hm]at hd
   have hd:(eJ X au nu al,(aE X.s al).2,(0:Int))=(X1,R,e):=hd
   injection hd with hd hd2;injection hd2 with hd2 hd3;subst hd;subst hd2;exact hc'
  |some m=>
   rw[hm]at hd
   have hd:(if m.d.number=nu then(if m.d.acts=al then(X,m.r,(0:Int))else(X,dR,331))else if nu<m.d.number then(X,dR,332)else(eJ X au nu al,(aE X.s al).2,0))=(X1,R,e):=hd
   split at hd
   ·split at hd
    ·injection hd with hd hd2;injection hd2 with hd2 hd3;subst hd;subst hd2;exact hx _ (h.m _ _ hm).r.hn
    ·injection hd with hd hd2;injection hd2 with hd2 hd3;subst hd;subst hd2;exact hx _ hz
   ·split at hd
    ·injection hd with hd hd2;injection hd2 with hd2 hd3;subst hd;subst hd2;exact hx _ hz
    ·injection hd with hd hd2;injection hd2 with hd2 hd3;subst hd;subst hd2;exact hc'
theorem aTf{h:bQ}:vG none 0 none 0 none 0 ⟨[],[],0,zeroA,[]⟩ h:=
 ⟨[],rfl,fun z hz=>(by cases hz),fun _=>none,fun _=>none,fun _=> .inl rfl,fun _ _ h=>(by cases h),fun _ _ h=>(by cases h),eA _ _ _,fun _=>none,fun _=>none,fun _=> .inl rfl,fun _ _ h=>(by cases h),fun _ _ h=>(by cases h),eA _ _ _,fun _=>none,fun _=>none,fun _=> .inl rfl,fun _ _ h=>(by cases h),fun _ _ h=>(by cases h),eA _ _ _,fun _=>none,fun _=>none,fun _=> .inl rfl,fun _ _ h=>(by cases h),fun _ _ h=>(by cases h),zG,trivial⟩
section
variable {p1 p2 p3 q:Option Addr}{c1 c2 c3 k:Nat}{h:KRh}{hl:List Int}
theorem aTg(a:bQ)(hy:aGv p1 c1 p2 c2 p3 c3 h q k hl a):vG p1 c1 p2 c2 p3 c3 h a:=hy.1
theorem bCb{β:Base}{L:List bU}(i:Nat)(hi:L[i]? =some (aGv p1 c1 p2 c2 p3 c3 h q k hl)):bH β L (fun w=>Sl aZ.R w (.slice q hl.length k) hl):=bH.of_res i hi (Sl.mono _ _ _) fun _ hy=>hy.2
end
theorem aVe(β:Base)(w:World)(p1:Option Addr)(c1:Nat)(p2:Option Addr)(c2:Nat)(p3:Option Addr)(c3:Nat)(rh:KRh)(pa:Option Addr)(ca:Nat)(al:List KAct)(hw:St β [vG p1 c1 p2 c2 p3 c3 rh,aK cJ 120 pa ca al] w)(hdn:rh.ds.length≤100000)(s0:KSt)(hr0:RelS s0 rh)(hg0:Good2 s0)(hl62:rh.last+16≤4611686018427387904)(au nu:Int)(hal:al.length≤100000){h1:KRh}{R:KRes}{e:Int}(hA:kC rh au nu al=(h1,R,e)):
  Calls Tryz.prog 24 #[.agg #[.slice p1 rh.ps.length c1,.slice p2 rh.hs.length c2,Ix rh.last,Ix rh.su.a0,Ix rh.su.a1,Ix rh.su.a2,Ix rh.su.a3,.slice p3 rh.ds.length c3],Ix au,Ix nu,.slice pa al.length ca] w fun r w'=>∃p1' c1' p2' c2' p3' c3' q k,r= .returned (.tuple #[.agg #[.slice p1' h1.ps.length c1',.slice p2' h1.hs.length c2',Ix h1.last,Ix h1.su.a0,Ix h1.su.a1,Ix h1.su.a2,Ix h1.su.a3,.slice p3' h1.ds.length c3'],.agg #[.bool R.done,Ix R.at_,Ix R.e,.slice q R.holds.length k],Ix e])∧St β [aGv p1' c1' p2' c2' p3' c3' h1 q k R.holds] w':=by
 have h:=aVf β w p1 c1 p2 c2 p3 c3 rh pa ca al hw hdn s0 hr0 hg0 hl62 au nu hal
 rw[hA]at h
 exact h
theorem aOe(β:Base)(w:World)(H S N W:Nat)(pw:Int)(X:KHs)(p1:Option Addr)(c1:Nat)(p2:Option Addr)(c2:Nat)(p3:Option Addr)(c3:Nat)(rh:KRh)(hw:St β [cV H S X N W pw,vG p1 c1 p2 c2 p3 c3 rh] w)(hdn:rh.ds.length≤100000)(hrx:RelX X rh)(hgx:Good2 X.s):
  Calls Tryz.prog 27 #[.pointer (some ⟨H,0,none⟩),.agg #[.slice p1 rh.ps.length c1,.slice p2 rh.hs.length c2,Ix rh.last,Ix rh.su.a0,Ix rh.su.a1,Ix rh.su.a2,Ix rh.su.a3,.slice p3 rh.ds.length c3]] w fun r w'=>r= .returned (.bool true)∧St β [cV H S X N W pw,vG p1 c1 p2 c2 p3 c3 rh] w':=by
 obtain⟨J,i,k,h1,h2,h3⟩:=St.splitHouse hw
 obtain⟨zs,hds,hz,h4⟩:=St.openRef (p1:=p1) (p2:=p2) (p3:=p3) (c1:=c1) (c2:=c2) (c3:=c3) (h:=rh) (M:=[fY H J X false,fA J S i false,aQ S k]) (h3.perm (aW [3,0,1,2] 4 rfl (by kernel_rfl) (by kernel_rfl)))
 have h5:St β ([fY H J X false]++[fA J S i false,aQ S k,aK kF 128 p1 c1 rh.ps,aK fG 130 p2 c2 rh.hs,aK xF 122 p3 c3 (zs.map (·.1)),dG zs]) w:=h4.perm (aW [4,5,6,0,1,2,3] 7 rfl (by kernel_rfl) (by kernel_rfl))
 have hn:(zs.map (·.1)).length=rh.ds.length:=by rw[hds,List.length_map,List.length_map]
 rw[←hn]
 obtain⟨β1,sb,kn,hw1,back⟩:=St.frame h5
 have hs:=aOf β1 w H J X false hw1 rh p1 p2 p3 c1 c2 c3 (zs.map (·.1)) (kn _ (aGf 2 rfl)) (kn _ (aGf 3 rfl)) (kn _ (aGf 4 rfl)) (by rw[hn];exact hdn) zs hz (kn _ (bH.of_res 5 rfl (dG.mono zs) fun _ h=>h)) rfl hds hrx hgx
 refine hs.mono ?_
 rintro r w' ⟨h6,h7⟩
 refine⟨h6,?_⟩
 have h8:=St.joinHouse (M:=[aK kF 128 p1 c1 rh.ps,aK fG 130 p2 c2 rh.hs,aK xF 122 p3 c3 (zs.map (·.1)),dG zs]) h1 h2 (back _ _ h7)
 have h9:St β ([aK kF 128 p1 c1 rh.ps,aK fG 130 p2 c2 rh.hs,aK xF 122 p3 c3 (zs.map (·.1)),dG zs]++[cV H S X N W pw]) w':=h8.perm (aW [1,2,3,4,0] 5 rfl (by kernel_rfl) (by kernel_rfl))
 exact(St.merge (r:=vG p1 c1 p2 c2 p3 c3 rh) h9 fun a ha=>⟨zs,hds,hz,ha⟩).perm (List.Perm.swap _ _ _)
section
variable {l ys:List KAct}{j:Nat}{a b z:KAct}
theorem bFo(hd:ys.drop j=(l.take 18).drop j)(h1:ys[j]? =some a)(h2:l[j]? =some b)(hj:j<(l.take 18).length):a=b:=by
 rw[List.length_take]at hj
 have e1:(ys.drop j)[0]? =some a:=by rw[List.getElem?_drop];exact h1
 have e2:((l.take 18).drop j)[0]? =some b:=by rw[List.getElem?_drop,List.getElem?_take];simp only[Nat.add_zero];rw[if_pos (by omega)];exact h2
 rw[hd,e2]at e1;injection e1 with e1;exact e1.symm
theorem aYm(hd:ys.drop j=(l.take 18).drop j)(z:KAct):(ys.set j z).drop (j+1)=(l.take 18).drop (j+1):=by
 rw[List.drop_set_of_lt (by omega),←List.drop_drop,hd,List.drop_drop]
end
theorem bAc{x:TOp}(h:OpI x):wF (x.acts.take 18):=fun y hy=>(h.x y (List.mem_of_mem_take hy)).h.2
end Go.Proofs
namespace Go.Sl
section
variable {P:Program}{ro:Option Nat}{n:Nat}{ds:List Deferred}{β:Base}{Q:Exit→Act→World→Prop}{f:Fm}{L:List bU}{ops:Array Oper}{rest:List Oper}
variable {d:Option Tmp}{ty:TypeId}{ps:String}{af:Array Edge}{g:Option (Nat×Bool)}
theorem aQk{α:Type}{F:Fl α}{xs:List α}{x y:Operand}{t len e k:Nat}{ik:IntKind}{z:α}(hx:ev f x= .agg (xs.flatMap F.enc).toArray)(hy:ev f y= .int ik (k:Int))(ht:arB P t len e F.n=true)(hz:xs[k]? =some z)(hk:k<len)(hne:tyB P e true F.n=true):
  EV P β L f ⟨d,.index t x y,ty,ps,af,g⟩ (.agg (F.enc z).toArray):=fun w _=>by
 unfold arB at ht
 simp only[Bool.and_eq_true]at ht
 obtain⟨h1,h2⟩:=ht
 cases hu:P.underlying t with
 |none=>rw[hu]at h1;cases h1
 |some dd=>
  rw[hu]at h1
  cases dd<;>simp only[]at h1<;>try (cases h1)
  rename_i l' e'
  simp only[Bool.and_eq_true,beq_iff_eq]at h1
  obtain⟨rfl,rfl⟩:=h1
  have hs:=(tyF hne).size w
  have ha:=(tyF hne).agg w
  have he:=aGb (F:=F) hz
  rw[F.len]at he
  simp only[execOp,hx,hy,Instr.index,asIntOf,Sem.run_bind,run_underlying hu,Sem.run_pure,Result.andThen_ok]
  simp[hk,hs,part,ha]
  exact he
end
end Go.Sl
namespace Go.Td
open Go Go.Sl Go.Proofs Go.Jn
structure KOh where
 kind:UInt8
 author:Int
 number:Int
 p:Option Addr
 n:Nat
 c:Nat
abbrev ohE(x:KOh):List Value:=[Bx x.kind,Ix x.author,Ix x.number,.slice x.p x.n x.c]
abbrev pX:Fl KOh:=⟨4,ohE,fun _=>rfl,fun _=>rfl,by decide⟩
def xG(h:bQ)(z:KOh):Prop:=gT z.author∧gT z.number∧∃al,Sl cJ.R h (.slice z.p z.n z.c) al∧∀x∈al,ActI x
def eW(l:List KOh):bU:=fun h=>∀z∈l,xG h z
theorem xG.mono{h h':bQ}(s:jF h h'){z:KOh}(k:xG h z):xG h' z:=let⟨a,b,al,c,d⟩:=k;⟨a,b,al,Sl.mono _ _ _ _ _ s c,d⟩
theorem eW.mono(l:List KOh):rH (eW l):=fun _ _ s h z hz=>(h z hz).mono s
theorem wK{h:bQ}:eW [] h:=fun z hz=>by cases hz
theorem mQ{T c:Nat}{p:Option Addr}{acts:List KAct}{k:UInt8}{au nu:Int}{l:List KOh}(hau:gT au)(hnu:gT nu)(ha:∀x∈acts,ActI x):∀a,jE [aK cJ T p c acts,eW l] a→eW (l++[⟨k,au,nu,p,acts.length,c⟩]) a:=fun a h=>by
 obtain⟨a1,b1,d1,s1,s2,h1,a2,b2,d2,s3,s4,h2,_⟩:=h
 intro z hz
 rcases List.mem_append.1 hz with hz|hz
 ·exact(h2 z hz).mono (s3.trans s2)
 ·rw[List.mem_singleton.1 hz]
  exact⟨hau,hnu,acts,Sl.mono _ _ _ _ _ s1 (jC h1),ha⟩
theorem zL{l:List KOh}{y:KOh}{k:UInt8}{au nu:Int}{m:Nat}(hy:y∈l)(hm:m≤y.n)(hau:gT au)(hnu:gT nu)(a:bQ)(h:eW l a):eW (l++[⟨k,au,nu,y.p,m,y.c⟩]) a:=fun z hz=>by
 rcases List.mem_append.1 hz with hz|hz
 ·exact h z hz
 ·obtain⟨_,_,al,h1,h2⟩:=h y hy
  rw[List.mem_singleton.1 hz]
  obtain⟨e1,e2,e3,e4⟩:=gA h1
  have hl:(al.take m).length=m:=by rw[List.length_take];omega
  exact⟨hau,hnu,al.take m,⟨y.p,y.c,by rw[hl],by rw[hl];omega,e3,dH.take m e4⟩,fun x hx=>h2 x (List.mem_of_mem_take hx)⟩
theorem aIq{l:List KOh}{k:UInt8}{au nu:Int}(hau:gT au)(hnu:gT nu)(a:bQ)(h:eW l a):eW (l++[⟨k,au,nu,none,0,0⟩]) a:=fun z hz=>by
 rcases List.mem_append.1 hz with hz|hz
 ·exact h z hz
 ·rw[List.mem_singleton.1 hz];exact⟨hau,hnu,[],Sl.nil _ _,fun x hx=>by cases hx⟩
theorem bFa{T c:Nat}{p:Option Addr}{l:List KOh}{h:bQ}(hr:Sl pX.R h (.slice p l.length c) l)(hp:∀z∈l,xG h z):∃ol:List TOp,ol.length=l.length∧Sl bDo h (.slice p l.length c) ol:=by
 have _:=T
 have hx:∀l:List KOh,(∀z∈l,xG h z)→∃ol:List TOp,ol.length=l.length∧∀(j:Nat) (z:KOh),l[j]? =some z→∃o,ol[j]? =some o∧OpI o∧o.kind=z.kind∧o.author=z.author∧o.number=z.number∧Sl cJ.R h (.slice z.p z.n z.c) o.acts:=by
  intro l
  induction l with
  |nil=>exact fun _=>⟨[],rfl,fun j z hj=>by simp at hj⟩
  |cons y l ih=>
   intro hp
   obtain⟨ol,h1,h2⟩:=ih fun z hz=>hp z (by simp[hz])
   obtain⟨a,b,al,c,d⟩:=hp y (by simp)
   refine⟨⟨y.kind,y.author,y.number,al⟩::ol,by simp[h1],fun j z hj=> ?_⟩
   cases j with
   |zero=>injection hj with hj;subst hj;exact⟨_,rfl,⟨a,b,d⟩,rfl,rfl,rfl,c⟩
   |succ j=>exact h2 j z hj
 obtain⟨ol,h1,h2⟩:=hx l hp
 obtain⟨e1,e2,e3,e4⟩:=gA hr
 refine⟨ol,h1,p,c,by rw[h1],by rw[h1];exact e2,e3,fun j o ho=> ?_⟩
 have hj:j<l.length:=by rw[←h1];exact(List.getElem?_eq_some_iff.1 ho).1
 obtain⟨ha,cs,hc,hcs⟩:=e4 j l[j] (List.getElem?_eq_getElem hj)
 obtain⟨o',ho',hi,k1,k2,k3,k4⟩:=h2 j l[j] (List.getElem?_eq_getElem hj)
 rw[ho]at ho';injection ho' with ho';subst ho'
 refine⟨ha,cs,hc,hi,_,?_,k4⟩
 have hcs:cs=ohE l[j]:=hcs
 rw[hcs,k1,k2,k3]
theorem aSk{h:bQ}{k:UInt8}{au nu:Int}(hau:gT au)(hnu:gT nu):xG h ⟨k,au,nu,none,0,0⟩:=⟨hau,hnu,[],Sl.nil _ _,fun x hx=>by cases hx⟩
theorem bAb{h:bQ}{k:UInt8}{au nu:Int}{p:Option Addr}{n c:Nat}{al:List KAct}(hs:Sl cJ.R h (.slice p n c) al)(hau:gT au)(hnu:gT nu)(ha:∀x∈al,ActI x):xG h ⟨k,au,nu,p,n,c⟩:=⟨hau,hnu,al,hs,ha⟩
theorem aDu{h:bQ}{y:KOh}{k:UInt8}{au nu:Int}{m:Nat}(hy:xG h y)(hm:m≤y.n)(hau:gT au)(hnu:gT nu):xG h ⟨k,au,nu,y.p,m,y.c⟩:=
 zL (l:=[y]) (k:=k) (au:=au) (nu:=nu) (m:=m) (by simp) hm hau hnu h (fun z hz=>by rw[List.mem_singleton.1 hz];exact hy) _ (List.mem_append_right _ (List.mem_singleton.2 rfl))
theorem wH{β:Base}{L:List bU}{l:List KOh}(i:Nat)(hi:L[i]? =some (eW l)):bH β L (fun h=>∀z∈l,xG h z):=bH.of_res i hi (eW.mono l) fun _ h=>h
section
variable {h:bQ}{P:KOh→Prop}{a b c d:KOh}{l m ohs tl:List KOh}{s0:KOh}
theorem aHu(h1:P a)(h2:∀z∈l,P z):∀z∈a::l,P z:=fun z hz=>by
 rcases List.mem_cons.1 hz with rfl|hz
 ·exact h1
 ·exact h2 z hz
theorem bHy(h1:∀z∈l,P z)(h2:∀z∈m,P z):∀z∈l++m,P z:=fun z hz=>by
 rcases List.mem_append.1 hz with hz|hz
 ·exact h1 z hz
 ·exact h2 z hz
theorem bDq:∀z∈([]:List KOh),P z:=fun z hz=>by cases hz
theorem bEz(hin:∀z∈ohs,z=s0∨z∈tl)(h0:P s0)(h1:∀z∈tl,P z):∀z∈ohs,P z:=fun z hz=>by
 rcases hin z hz with rfl|hz
 ·exact h0
 ·exact h1 z hz
theorem aXj(hin:∀z∈ohs,z=s0∨z∈tl):∀z∈ohs++[a],z=s0∨z∈tl++[a]:=fun z hz=>by
 rcases List.mem_append.1 hz with hz|hz
 ·rcases hin z hz with e|e
  ·exact .inl e
  ·exact .inr (List.mem_append_left _ e)
 ·exact .inr (List.mem_append_right _ hz)
end
section
variable {P:KAct→Prop}{a:KAct}{l:List KAct}
theorem acc(h1:P a)(h2:∀z∈l,P z):∀z∈a::l,P z:=fun z hz=>by
 rcases List.mem_cons.1 hz with rfl|hz
 ·exact h1
 ·exact h2 z hz
theorem aca{m:List KAct}(h1:∀z∈l,P z)(h2:∀z∈m,P z):∀z∈l++m,P z:=fun z hz=>by
 rcases List.mem_append.1 hz with hz|hz
 ·exact h1 z hz
 ·exact h2 z hz
theorem acn:∀z∈([]:List KAct),P z:=fun z hz=>by cases hz
end
theorem iU{k:UInt8}{o p h a0 a1 a2 a3:Int}(ho:gT o)(hp:gT p)(hh:gT h)(h0:gT a0)(h1:gT a1)(h2:gT a2)(h3:gT a3):ActI ⟨k,o,p,h,⟨a0,a1,a2,a3⟩⟩:=⟨ho,hp,hh,h0,h1,h2,h3⟩
theorem acz{n:Nat}:∀z∈List.replicate n (⟨0,0,0,0,zeroA⟩:KAct),ActI z:=fun z hz=>by
 rw[(List.mem_replicate.1 hz).2];exact⟨by decide,by decide,by decide,by decide,by decide,by decide,by decide⟩
def oA:List Int:=[-9223372036854775808,-1,0,1,2,2147483647,2147483648,65536,65537,64,65,16,1099511627776,1099511627777,9223372036854775807]
theorem aXi{n:Int}{k:Nat}(h:oA[k]? =some n):gT n:=by
 have:∀x∈oA,gT x:=by decide
 exact this n (List.mem_of_getElem? h)
def aEw:List KAct:=[⟨0,0,0,0,zeroA⟩,⟨1,1,0,0,⟨5,0,0,0⟩⟩,⟨2,1,0,0,⟨5,0,0,0⟩⟩,⟨3,1,2,0,⟨5,0,0,0⟩⟩,⟨4,1,0,0,⟨5,0,0,0⟩⟩,⟨5,0,0,1,⟨0,0,0,0⟩⟩,⟨6,0,2,1,⟨0,0,0,0⟩⟩,⟨7,1,0,0,⟨5,0,0,0⟩⟩,⟨8,1,0,0,zeroA⟩]
theorem cM{z:KAct}{k:Nat}(h:aEw[k]? =some z):ActI z:=by
 have:∀x∈aEw,ActI x:=fun x hx=>by
  unfold aEw at hx
  simp only[List.mem_cons,List.not_mem_nil,or_false]at hx
  rcases hx with rfl|rfl|rfl|rfl|rfl|rfl|rfl|rfl|rfl<;>exact⟨by decide,by decide,by decide,by decide,by decide,by decide,by decide⟩
 exact this z (List.mem_of_getElem? h)
end Go.Td
namespace Go.Proofs
open Go Go.Sl Go.Td Go.Jn
end Go.Proofs
