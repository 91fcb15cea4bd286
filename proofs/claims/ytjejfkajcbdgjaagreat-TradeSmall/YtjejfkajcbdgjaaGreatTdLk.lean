/-
  Own work; plain Lean (TdKind, TdDo, TdMl, TdMem, TdHouse, TdLk).
-/
import Derived.Test.YtjejfkajcbdgjaaGreatTd3
import Derived.Test.YtjejfkajcbdgjaaGreatSlDef
set_option linter.all false
namespace Go.Proofs
open Go Go.Sl Go.Td
theorem yO:aKn Tryz.prog 110:=⟨Tryz.f110,Tryz.func110,by decide,by decide,by kernel_rfl,by kernel_rfl⟩
def fnV:Option Nat→Value|none=> .nilFunc|some n=> .func (.func n) #[] #[]
noncomputable def oS:MapK Tryz.prog Int (Option Nat) where
 t:=153
 kt:=5
 et:=150
 dec:=inferInstance
 enc:=fun x=> .int .u8 x
 encv:=fnV
 zv:=none
 ht:=by kernel_rfl
 hz:=by kernel_rfl
 chk:=fun e a w=>by
  unfold Instr.checkKey
  simp only[Sem.run_bind,run_underlying (show Tryz.prog.underlying 5=some (.int .u8) by kernel_rfl),Result.andThen_ok]
  rfl
 find:=qL (d:= .int .u8) (by kernel_rfl) fun a b=>congrArg some (show(a==b)=decide (a=b) by by_cases h:a=b<;>simp[h])
 bits:=fun a=>by unfold Instr.sameBits;simp
def yZ:List (Int×Option Nat):=[(1,some 67),(2,some 68),(3,some 69),(4,some 70),(5,some 71),(6,some 72),(7,some 73)]
def kL:Value→Nat| .map (some b)=>b|_=>0
theorem aNj:oS.put (oS.put (oS.put (oS.put (oS.put (oS.put (oS.put [] 1 (some 67)) 2 (some 68)) 3 (some 69)) 4 (some 70)) 5 (some 71)) 6 (some 72)) 7 (some 73)=yZ:=by rfl
theorem lT{x:KAct}(h:x.formed=true):(x.kind.toNat:Int)=1∨(x.kind.toNat:Int)=2∨(x.kind.toNat:Int)=3∨(x.kind.toNat:Int)=4∨(x.kind.toNat:Int)=5∨(x.kind.toNat:Int)=6∨(x.kind.toNat:Int)=7:=by
 unfold KAct.formed KAct.plain at h
 by_cases h1:(x.kind.toNat:Int)=1
 ·exact .inl h1
 by_cases h2:(x.kind.toNat:Int)=2
 ·exact .inr (.inl h2)
 by_cases h3:(x.kind.toNat:Int)=3
 ·exact .inr (.inr (.inl h3))
 by_cases h4:(x.kind.toNat:Int)=4
 ·exact .inr (.inr (.inr (.inl h4)))
 by_cases h5:(x.kind.toNat:Int)=5
 ·exact .inr (.inr (.inr (.inr (.inl h5))))
 by_cases h6:(x.kind.toNat:Int)=6
 ·exact .inr (.inr (.inr (.inr (.inr (.inl h6)))))
 by_cases h7:(x.kind.toNat:Int)=7
 ·exact .inr (.inr (.inr (.inr (.inr (.inr h7)))))
 ·simp[h1,h2,h3,h4,h5,h6,h7]at h
theorem cX{x:KAct}(h:x.formed=true):x.a.within=true:=by
 unfold KAct.formed at h
 split at h
 ·simp at h;exact h.2
 ·split at h
  ·simp at h;exact h.2
  ·split at h
   ·simp at h;rw[h.2];exact oF
   ·split at h
    ·simp at h;rw[h.2];exact oF
    ·cases h
theorem aNd{x:KAct}(h:x.formed=true):x.a.bd 4611686018427387903:=nR (mR (cX h)) (by decide)
abbrev stL(zb mp mh mm:Nat)(s:KSt):List bU:=[pt zb (.cells (vO mp mh mm s.last s.su) 88),bB cC mp s.ps,bB bL mh s.hs]
theorem aPg(x:KAct)(hx:x.formed=true):∃gg,(oS.look yZ (x.kind.toNat:Int)).getD none=some gg∧cfB Tryz.prog gg=true∧∀(β:Base) (w:World) (zb mp mh mm:Nat) (s:KSt),St β (stL zb mp mh mm s) w→okP s.ps→okH s.hs→s.su.bd 4611686018427387903→-4611686018427387903≤s.last∧s.last≤4611686018427387903→
  Calls Tryz.prog gg #[.pointer (some ⟨zb,0,none⟩),.agg (xH x).toArray] w fun r w'=>r= .returned (.tuple #[Ix (dB s x).2.1,Ix (dB s x).2.2])∧St β (stL zb mp mh mm (dB s x).1) w':=by
 have hb:=aNd hx
 rcases lT hx with h|h|h|h|h|h|h
 ·exact⟨67,by rw[h];rfl,by kernel_rfl,fun β w zb mp mh mm s hw hP hH hs hl=>by rw[show dB s x=mF s x by unfold dB;rw[h];rfl];exact aXa β w zb mp mh mm s hw hP hH hs hl x hb⟩
 ·exact⟨68,by rw[h];rfl,by kernel_rfl,fun β w zb mp mh mm s hw hP hH hs hl=>by rw[show dB s x=mD s x by unfold dB;rw[h];rfl];exact aVj β w zb mp mh mm s hw hP hH hs hl x hb⟩
 ·exact⟨69,by rw[h];rfl,by kernel_rfl,fun β w zb mp mh mm s hw hP hH hs hl=>by rw[show dB s x=lA s x by unfold dB;rw[h];rfl];exact aXd β w zb mp mh mm s hw hP hH hs hl x hb⟩
 ·exact⟨70,by rw[h];rfl,by kernel_rfl,fun β w zb mp mh mm s hw hP hH hs hl=>by rw[show dB s x=kI s x by unfold dB;rw[h];rfl];exact aWl β w zb mp mh mm s hw hP hH hs hl x hb⟩
 ·exact⟨71,by rw[h];rfl,by kernel_rfl,fun β w zb mp mh mm s hw hP hH hs hl=>by rw[show dB s x=eD s x.hold (mM s.hs x.hold).owner by unfold dB;rw[h];rfl];exact aWi β w zb mp mh mm s hw hP hH hs hl x hb⟩
 ·exact⟨72,by rw[h];rfl,by kernel_rfl,fun β w zb mp mh mm s hw hP hH hs hl=>by rw[show dB s x=eD s x.hold x.other by unfold dB;rw[h];rfl];exact aSo β w zb mp mh mm s hw hP hH hs hl x hb⟩
 ·exact⟨73,by rw[h];rfl,by kernel_rfl,fun β w zb mp mh mm s hw hP hH hs hl=>by rw[show dB s x=nC s x by unfold dB;rw[h];rfl];exact aXg β w zb mp mh mm s hw hP hH hs hl x hb⟩
end Go.Proofs
namespace Go.Td
open Go Go.Sl Go.Proofs
theorem aCg{s0:KSt}:∀{xs:List KAct} {s:KSt} {made:List Int} {k:Nat},(jY s0 s made k xs).2.holds.length≤made.length+xs.length
 |[],_,_,_=>by simp[jY]
 |x::xs,s,made,k=>by
  unfold jY
  split
  ·refine Nat.le_trans (aCg) ?_
   split<;>simp<;>omega
  ·simp
theorem aFh{s:KSt}{xs:List KAct}:(aE s xs).2.holds.length≤xs.length:=by
 have:=aCg (s0:=s) (xs:=xs) (s:=s) (made:=[]) (k:=0)
 simpa[aE]using this
structure KHs where
 s:KSt
 done:Int→Option KMem
def dR:KRes:=⟨false,0,0,[]⟩
noncomputable def sH (h:KHs) (au nu:Int) (al:List KAct):KHs×KRes×Int:=
 if cO au nu al=false then(h,dR,2)
 else match h.done au with
 |some m=>
  if m.d.number=nu then(if m.d.acts=al then(h,m.r,0)else(h,dR,331))
  else if nu<m.d.number then(h,dR,332)
  else(⟨(aE h.s al).1,fun a=>if a=au then some ⟨⟨au,nu,al⟩,(aE h.s al).2⟩else h.done a⟩,(aE h.s al).2,0)
 |none=>(⟨(aE h.s al).1,fun a=>if a=au then some ⟨⟨au,nu,al⟩,(aE h.s al).2⟩else h.done a⟩,(aE h.s al).2,0)
open Go Go.Sl Go.Proofs
section
variable {P:Program}{κ ν:Type}{K:MapK P κ ν}{ks:List (κ×ν)}
theorem kJ(p:κ×ν)(k:κ):K.look (p::ks) k=if(letI:=K.dec;decide (p.1=k))=true then some p.2 else K.look ks k:=by
 letI:=K.dec
 unfold MapK.look
 rw[List.find?_cons]
 by_cases h:p.1=k
 ·simp[h]
 ·simp[h]
theorem aGk(a:κ)(v:ν):∀ks:List (κ×ν),(K.look ks a).isSome=true→K.look (ks.map fun p=> @ite _ (p.1=a) (K.dec _ _) (a,v) p) a=some v
 |[],h=>by simp[MapK.look]at h
 |p::ks,h=>by
  letI:=K.dec
  rw[List.map_cons,kJ]
  rw[kJ]at h
  by_cases e:p.1=a
  ·simp[e]
  ·simp[e]at h
   simp only[e,if_false,decide_false,Bool.false_eq_true]
   exact aGk a v ks h
theorem aRu{a b:κ}(hb:b≠a)(v:ν):∀ks:List (κ×ν),K.look (ks.map fun p=> @ite _ (p.1=a) (K.dec _ _) (a,v) p) b=K.look ks b
 |[]=>rfl
 |p::ks=>by
  letI:=K.dec
  rw[List.map_cons,kJ,kJ,aRu hb v ks]
  by_cases e:p.1=a
  ·have h1:¬a=b:=fun q=>hb q.symm
   have h2:¬p.1=b:=fun q=>h1 (e.symm.trans q)
   simp[e,h1]
  ·simp[e]
theorem zD{a b:κ}(v:ν):∀ks:List (κ×ν),K.look (ks++[(a,v)]) b=match K.look ks b with|some u=>some u|none=>if(letI:=K.dec;decide (a=b))=true then some v else none
 |[]=>by
  rw[List.nil_append,kJ];rfl
 |p::ks=>by
  letI:=K.dec
  rw[List.cons_append,kJ,kJ,zD v ks]
  by_cases e:p.1=b
  ·simp[e]
  ·simp[e]
theorem zM(a:κ)(v:ν):K.look (K.put ks a v) a=some v:=by
 letI:=K.dec
 unfold MapK.put
 split
 ·rename_i h;exact aGk a v ks h
 ·rename_i h
  rw[zD]
  have:K.look ks a=none:=by cases q:K.look ks a with|none=>rfl|some u=>rw[q]at h;exact absurd rfl h
  rw[this];simp
theorem aSv{a b:κ}(hb:b≠a)(v:ν):K.look (K.put ks a v) b=K.look ks b:=by
 letI:=K.dec
 unfold MapK.put
 split
 ·exact aRu hb v ks
 ·rw[zD]
  have h1:¬a=b:=fun q=>hb q.symm
  cases q:K.look ks b with
  |none=>simp[h1]
  |some u=>rfl
end
open Go Go.Sl Go.Proofs
section
variable {P:Program}{κ ν:Type}{K:MapK P κ ν}{ks ls:List (κ×ν)}
theorem kK{k:κ}{v:ν}(hn:(ks.map (·.1)).Nodup)(h:(k,v)∈ks):K.look ks k=some v:=by
 obtain⟨j,hj,e⟩:=List.getElem_of_mem h
 exact aDm hn (j:=j) (by rw[List.getElem?_eq_getElem hj,e])
theorem nD(hp:ks.Perm ls)(hn:(ks.map (·.1)).Nodup):(ls.map (·.1)).Nodup:=(hp.map _).nodup_iff.1 hn
theorem pF(hp:ks.Perm ls)(hn:(ks.map (·.1)).Nodup)(k:κ):K.look ks k=K.look ls k:=by
 cases e:K.look ks k with
 |none=>
  symm
  rw[iM]at e⊢
  exact fun h=>e ((hp.map _).mem_iff.2 h)
 |some v=>exact(kK (nD hp hn) (hp.mem_iff.1 (kS e))).symm
theorem vD(hp:ks.Perm ls)(hn:(ks.map (·.1)).Nodup)(k:κ)(v:ν):(K.put ks k v).Perm (K.put ls k v):=by
 unfold MapK.put
 rw[pF hp hn]
 split
 ·exact hp.map _
 ·exact hp.append_right _
theorem vC(k:κ)(v:ν)(h:(K.look ks k).isSome=true):(K.put ks k v).map (·.1)=ks.map (·.1):=by
 unfold MapK.put
 rw[if_pos h,List.map_map]
 refine List.map_congr_left fun p _=> ?_
 letI:=K.dec
 show(if p.1=k then(k,v)else p).1=p.1
 split
 ·rename_i e;exact e.symm
 ·rfl
theorem jP(hn:(ks.map (·.1)).Nodup)(k:κ)(v:ν):((K.put ks k v).map (·.1)).Nodup:=by
 by_cases h:(K.look ks k).isSome=true
 ·rw[vC k v h];exact hn
 ·have e:K.look ks k=none:=by cases q:K.look ks k with|none=>rfl|some u=>rw[q]at h;exact absurd rfl h
  unfold MapK.put
  rw[if_neg h,List.map_append]
  refine List.nodup_append.2 ⟨hn,by simp,fun a ha b hb=> ?_⟩
  have:b=k:=by simpa using hb
  rw[this];rintro rfl
  exact iM.1 e ha
theorem oC{k:κ}{v:ν}(h:K.look ks k=none):K.put ks k v=ks++[(k,v)]:=by unfold MapK.put;rw[h];rfl
theorem oV(hp:ks.Perm ls)(k:κ):(K.del ks k).Perm (K.del ls k):=hp.filter _
theorem sG(hn:(ks.map (·.1)).Nodup)(k:κ):((K.del ks k).map (·.1)).Nodup:=by
 unfold MapK.del
 exact List.Nodup.sublist (List.Sublist.map _ List.filter_sublist) hn
end
structure EqS(s t:KSt):Prop where
 p:s.ps.Perm t.ps
 h:s.hs.Perm t.hs
 l:s.last=t.last
 u:s.su=t.su
 np:(s.ps.map (·.1)).Nodup
 nh:(s.hs.map (·.1)).Nodup
theorem EqS.symm{s t:KSt}(h:EqS s t):EqS t s:=⟨h.p.symm,h.h.symm,h.l.symm,h.u.symm,nD h.p h.np,nD h.h h.nh⟩
theorem EqS.trans{s t r:KSt}(h:EqS s t)(g:EqS t r):EqS s r:=⟨h.p.trans g.p,h.h.trans g.h,h.l.trans g.l,h.u.trans g.u,h.np,h.nh⟩
section
variable {ps qs:List (Int×KAm)}(hp:ps.Perm qs)(hn:(ps.map (·.1)).Nodup)(n:Int)(a:KAm)
include hp hn
theorem rQ:iS ps n=iS qs n:=by unfold iS;rw[pF hp hn]
theorem aAz:addX ps n a=addX qs n a:=by unfold addX;rw[rQ hp hn,pF hp hn,hp.length_eq]
theorem aAe:iW ps n a=iW qs n a:=by unfold iW;rw[rQ hp hn]
theorem vU:hO ps n a=hO qs n a:=by unfold hO;rw[aAz hp hn]
theorem qR:eI ps n a=eI qs n a:=by unfold eI;rw[aAe hp hn]
theorem vX:(iI ps n a).Perm (iI qs n a)∧((iI ps n a).map (·.1)).Nodup:=by
 unfold iI
 rw[←aAz hp hn,←rQ hp hn]
 split
 ·exact⟨hp,hn⟩
 ·split
  ·exact⟨hp,hn⟩
  ·exact⟨vD hp hn _ _,jP hn _ _⟩
theorem aJe:(dQ ps n a).Perm (dQ qs n a)∧((dQ ps n a).map (·.1)).Nodup:=by
 unfold dQ
 rw[←aAe hp hn,←rQ hp hn]
 split
 ·exact⟨hp,hn⟩
 ·split
  ·exact⟨oV (vD hp hn _ _) _,sG (jP hn _ _) _⟩
  ·exact⟨vD hp hn _ _,jP hn _ _⟩
end
theorem yX{hs gs:List (Int×KHo)}(hp:hs.Perm gs)(hn:(hs.map (·.1)).Nodup)(n:Int):mM hs n=mM gs n:=by unfold mM;rw[pF hp hn]
theorem aLe{s t:KSt}(h:EqS s t)(q o:Int):EqS (eD s q o).1 (eD t q o).1∧(eD s q o).2=(eD t q o).2:=by
 unfold eD
 rw[←pF h.h h.nh,←yX h.h h.nh]
 split
 ·obtain⟨h1,h2⟩:=vX h.p h.np o (mM s.hs q).a
  exact⟨⟨h1,oV h.h _,h.l,h.u,h2,sG h.nh _⟩,by simp only[vU h.p h.np]⟩
 ·exact⟨h,rfl⟩
theorem aVa{s t:KSt}(h:EqS s t)(x:KAct):EqS (dB s x).1 (dB t x).1∧(dB s x).2=(dB t x).2:=by
 have ha:=vX h.p h.np x.owner x.a
 have ht:=aJe h.p h.np x.owner x.a
 unfold dB
 rw[yX h.h h.nh]
 split
 ·unfold mF
  rw[vU h.p h.np,h.u]
  exact⟨⟨ha.1,h.h,h.l,rfl,ha.2,h.nh⟩,rfl⟩
 ·split
  ·unfold mD
   rw[qR h.p h.np,h.u]
   exact⟨⟨ht.1,h.h,h.l,rfl,ht.2,h.nh⟩,rfl⟩
  ·split
   ·unfold lA
    rw[qR h.p h.np]
    split
    ·obtain⟨h1,h2⟩:=vX ht.1 ht.2 x.other x.a
     exact⟨⟨h1,h.h,h.l,h.u,h2,h.nh⟩,by simp only[vU ht.1 ht.2]⟩
    ·exact⟨⟨ht.1,h.h,h.l,h.u,ht.2,h.nh⟩,rfl⟩
   ·split
    ·unfold kI
     rw[qR h.p h.np,h.h.length_eq,h.l]
     split
     ·split
      ·exact⟨⟨ht.1,h.h,rfl,h.u,ht.2,h.nh⟩,rfl⟩
      ·exact⟨⟨ht.1,vD h.h h.nh _ _,rfl,h.u,ht.2,jP h.nh _ _⟩,rfl⟩
     ·exact⟨⟨ht.1,h.h,rfl,h.u,ht.2,h.nh⟩,rfl⟩
    ·split
     ·exact aLe h _ _
     ·split
      ·exact aLe h _ _
      ·unfold nC
       exact⟨h,by simp only[qR h.p h.np]⟩
theorem aTr{s0 t0:KSt}(h0:EqS s0 t0):∀{xs:List KAct} {s t:KSt} {made:List Int} {k:Nat},EqS s t→EqS (jY s0 s made k xs).1 (jY t0 t made k xs).1∧(jY s0 s made k xs).2=(jY t0 t made k xs).2
 |[],s,t,made,k,h=>⟨h,rfl⟩
 |x::xs,s,t,made,k,h=>by
  obtain⟨h1,h2⟩:=aVa h x
  unfold jY
  rw[h2]
  split
  ·exact aTr h0 h1
  ·exact⟨h0,rfl⟩
theorem yK{s t:KSt}(h:EqS s t)(xs:List KAct):EqS (aE s xs).1 (aE t xs).1∧(aE s xs).2=(aE t xs).2:=aTr h h
def KAm.add(a b:KAm):KAm:=⟨a.a0+b.a0,a.a1+b.a1,a.a2+b.a2,a.a3+b.a3⟩
def vP:List KAm→KAm
 |[]=>zeroA
 |a::l=>a.add (vP l)
theorem tJ{a b:KAm}(h0:a.a0=b.a0)(h1:a.a1=b.a1)(h2:a.a2=b.a2)(h3:a.a3=b.a3):a=b:=by cases a;cases b;simp_all
theorem vY(a b:KAm):a.add b=b.add a:=tJ (Int.add_comm _ _) (Int.add_comm _ _) (Int.add_comm _ _) (Int.add_comm _ _)
theorem jG(a b c:KAm):(a.add b).add c=a.add (b.add c):=tJ (Int.add_assoc _ _ _) (Int.add_assoc _ _ _) (Int.add_assoc _ _ _) (Int.add_assoc _ _ _)
theorem aCt(a:KAm):zeroA.add a=a:=tJ (Int.zero_add _) (Int.zero_add _) (Int.zero_add _) (Int.zero_add _)
theorem add_zero'(a:KAm):a.add zeroA=a:=tJ (Int.add_zero _) (Int.add_zero _) (Int.add_zero _) (Int.add_zero _)
theorem aGo(a b:KAm):a.plus b 1=a.add b:=by unfold KAm.plus KAm.add;simp only[Int.one_mul]
theorem pP{l m:List KAm}(h:l.Perm m):vP l=vP m:=by
 induction h with
 |nil=>rfl
 |cons x _ ih=>show x.add _=x.add _;rw[ih]
 |swap x y l=>show KAm.add y (KAm.add x (vP l))=KAm.add x (KAm.add y (vP l));rw[←jG,←jG,vY y x]
 |trans _ _ h1 h2=>exact h1.trans h2
section
variable {P:Program}{ν:Type}{K:MapK P Int ν}(f:ν→KAm)
def nK(ks:List (Int×ν)):KAm:=vP (ks.map fun p=>f p.2)
theorem tB{ks:List (Int×ν)}(hn:(ks.map (·.1)).Nodup){k:Int}{v:ν}(h:K.look ks k=some v):ks.Perm ((k,v)::K.del ks k):=by
 induction ks with
 |nil=>simp[MapK.look]at h
 |cons p ks ih=>
  rw[kJ]at h
  rw[List.map_cons,List.nodup_cons]at hn
  letI:=K.dec
  by_cases e:p.1=k
  ·simp[e]at h
   subst h
   have hd:K.del ks k=ks:=oU (iM.2 (by rw[←e];exact hn.1))
   have:K.del (p::ks) k=ks:=by
    conv=>rhs;rw[←hd]
    unfold MapK.del
    rw[List.filter_cons];simp[e]
   rw[this,show(k,p.2)=p by rw[←e]]
  ·simp[e]at h
   have:K.del (p::ks) k=p::K.del ks k:=by unfold MapK.del;rw[List.filter_cons];simp[e]
   rw[this]
   exact((ih hn.2 h).cons p).trans (List.Perm.swap _ _ _)
theorem aLv{ks:List (Int×ν)}(hn:(ks.map (·.1)).Nodup){k:Int}{v:ν}(h:K.look ks k=some v):nK f ks=(f v).add (nK f (K.del ks k)):=by
 have:=pP ((tB hn h).map fun p=>f p.2)
 rwa [List.map_cons]at this
theorem iG{ks:List (Int×ν)}(hn:(ks.map (·.1)).Nodup)(k:Int)(v:ν):(K.put ks k v).Perm ((k,v)::K.del ks k):=by
 cases h:K.look ks k with
 |none=>
  rw[oC h,oU h]
  exact List.perm_append_comm
 |some u=>
  have h1:=tB (jP hn k v) (zM (K:=K) k v)
  have h2:K.del (K.put ks k v) k=K.del ks k:=by
   letI:=K.dec
   unfold MapK.put MapK.del
   rw[h,if_pos (show(some u).isSome=true from rfl),List.filter_map]
   clear h1 h hn
   induction ks with
   |nil=>rfl
   |cons p ks ih=>
    rw[List.filter_cons,List.filter_cons]
    by_cases e:p.1=k
    ·simp only[Function.comp_def,e,if_true,decide_true,Bool.not_true,Bool.false_eq_true,if_false]
     exact ih
    ·simp only[Function.comp_def,e,if_false,decide_false,Bool.not_false,if_true,List.map_cons]
     exact congrArg _ ih
  rwa [h2]at h1
theorem aEj{ks:List (Int×ν)}(hn:(ks.map (·.1)).Nodup)(k:Int)(v:ν):nK f (K.put ks k v)=(f v).add (nK f (K.del ks k)):=by
 have:=pP ((iG (K:=K) hn k v).map fun p=>f p.2)
 rwa [List.map_cons]at this
end
theorem oE{a:KAm}:a.within=true↔((0≤a.a0∧a.a0≤2147483647)∧(0≤a.a1∧a.a1≤2147483647))∧((0≤a.a2∧a.a2≤2147483647)∧(0≤a.a3∧a.a3≤2147483647)):=by
 unfold KAm.within inA
 simp only[Bool.and_eq_true,decide_eq_true_eq]
 omega
theorem uG{a:KAm}:a=zeroA↔a.a0=0∧a.a1=0∧a.a2=0∧a.a3=0:=⟨fun h=>by rw[h];exact⟨rfl,rfl,rfl,rfl⟩,fun h=>tJ h.1 h.2.1 h.2.2.1 h.2.2.2⟩
structure PsOk(ps:List (Int×KAm)):Prop where
 np:(ps.map (·.1)).Nodup
 pn:ps.length≤256
 pk:∀p∈ps,fE p.1=true∧p.2.within=true∧p.2≠zeroA
theorem PsOk.at{ps:List (Int×KAm)}(h:PsOk ps)(n:Int):(iS ps n).within=true:=aSl (fun p hp=>(h.pk p hp).2.1) n
theorem aEi{ps:List (Int×KAm)}(hn:(ps.map (·.1)).Nodup)(n:Int):nK id ps=(iS ps n).add (nK id (cC.del ps n)):=by
 unfold iS
 cases e:cC.look ps n with
 |none=>rw[oU e];exact(aCt _).symm
 |some v=>exact aLv id hn e
theorem vW{ps:List (Int×KAm)}(h:PsOk ps){n:Int}{a:KAm}(hn:fE n=true)(ha:a.within=true)(hx:addX ps n a=false):PsOk (iI ps n a)∧nK id (iI ps n a)=(nK id ps).add a:=by
 have hw:=oE.1 (h.at n);have hb:=oE.1 ha
 unfold iI
 rw[hx,if_neg (by decide)]
 unfold addX at hx
 rw[Bool.or_eq_false_iff]at hx
 split
 ·rename_i hz
  rw[uG]at hz
  simp only[KAm.plus]at hz
  have:a=zeroA:=uG.2 (by omega)
  rw[this]
  exact⟨h,(add_zero' _).symm⟩
 ·rename_i hz
  refine⟨⟨jP h.np _ _,?_,?_⟩,?_⟩
  ·cases e:cC.look ps n with
   |none=>
    rw[oC e]
    have:=hx.2
    rw[e]at this
    simp[hz]at this
    simp;omega
   |some v=>
    have:=congrArg List.length (vC (K:=cC) (ks:=ps) n ((iS ps n).plus a 1) (by rw[e];rfl))
    simp only[List.length_map]at this
    rw[this];exact h.pn
  ·intro p hp
   have:=(iG (K:=cC) h.np n ((iS ps n).plus a 1)).mem_iff.1 hp
   rcases List.mem_cons.1 this with rfl|hp'
   ·exact⟨hn,by simpa using hx.1,hz⟩
   ·exact h.pk p (List.mem_filter.1 hp').1
  ·rw[aEj id h.np,aEi h.np n]
   show((iS ps n).plus a 1).add _=_
   rw[aGo,jG,jG,vY a]
theorem qS{ps:List (Int×KAm)}(h:PsOk ps){n:Int}{a:KAm}(hn:fE n=true)(ha:a.within=true)(hx:iW ps n a=false):PsOk (dQ ps n a)∧(nK id (dQ ps n a)).add a=nK id ps:=by
 have key:∀x:KAm,((((iS ps n).plus a (-1)).add x).add a)=(iS ps n).add x:=fun x=>by
  apply tJ<;>simp only[KAm.add,KAm.plus]<;>omega
 unfold dQ
 rw[hx,if_neg (by decide)]
 unfold iW at hx
 split
 ·rename_i hz
  have h1:=iG (K:=cC) h.np n ((iS ps n).plus a (-1))
  have h2:(cC.del (cC.put ps n ((iS ps n).plus a (-1))) n).Perm (cC.del ps n):=by
   have:=oV (K:=cC) h1 n
   refine this.trans ?_
   have e3:cC.del ((n,(iS ps n).plus a (-1))::cC.del ps n) n=cC.del ps n:=by
    unfold MapK.del
    rw[List.filter_cons]
    simp
   rw[e3]
  have h3:(cC.del ps n).length≤ps.length:=List.length_filter_le _ _
  refine⟨⟨sG (jP h.np _ _) _,by rw[h2.length_eq];have:=h.pn;omega,fun p hp=>h.pk p (List.mem_filter.1 (h2.mem_iff.1 hp)).1⟩,?_⟩
  rw[show nK id (cC.del (cC.put ps n ((iS ps n).plus a (-1))) n)=nK id (cC.del ps n)from pP (h2.map fun p=>id p.2),aEi h.np n,←key,hz,aCt]
 ·rename_i hz
  refine⟨⟨jP h.np _ _,?_,?_⟩,?_⟩
  ·cases e:cC.look ps n with
   |none=>
    have hp0:iS ps n=zeroA:=by unfold iS;rw[e];rfl
    exfalso
    apply hz
    have hw:((iS ps n).plus a (-1)).within=true:=by simpa using hx
    rw[uG]
    have h1:=oE.1 hw
    have h2:=oE.1 ha
    rw[hp0]at h1⊢
    simp only[KAm.plus,zeroA]at h1⊢
    omega
   |some v=>
    have:=congrArg List.length (vC (K:=cC) (ks:=ps) n ((iS ps n).plus a (-1)) (by rw[e];rfl))
    simp only[List.length_map]at this
    rw[this];exact h.pn
  ·intro p hp
   have:=(iG (K:=cC) h.np n ((iS ps n).plus a (-1))).mem_iff.1 hp
   rcases List.mem_cons.1 this with rfl|hp'
   ·exact⟨hn,by simpa using hx,hz⟩
   ·exact h.pk p (List.mem_filter.1 hp').1
  ·rw[aEj id h.np,aEi h.np n]
   exact key _
structure HsOk(hs:List (Int×KHo))(last:Int):Prop where
 nh:(hs.map (·.1)).Nodup
 hn:hs.length≤128
 hk:∀p∈hs,p.2.number=p.1∧1≤p.1∧p.1≤last∧fE p.2.owner=true∧p.2.a.within=true
structure Good2(s:KSt):Prop where
 p:PsOk s.ps
 h:HsOk s.hs s.last
 l0:0≤s.last
 su:s.su=(nK id s.ps).add (nK KHo.a s.hs)
theorem HsOk.at{hs:List (Int×KHo)}{l:Int}(h:HsOk hs l){n:Int}{v:KHo}(e:bL.look hs n=some v):v.number=n∧1≤n∧n≤l∧fE v.owner=true∧v.a.within=true:=h.hk _ (kS e)
theorem vV{ps:List (Int×KAm)}{n:Int}{a:KAm}(h:hO ps n a=0):addX ps n a=false:=by
 unfold hO at h
 cases e:addX ps n a with
 |false=>rfl
 |true=>rw[e]at h;simp at h
theorem tW{ps:List (Int×KAm)}{n:Int}{a:KAm}(h:eI ps n a=0):iW ps n a=false:=by
 unfold eI at h
 cases e:iW ps n a with
 |false=>rfl
 |true=>rw[e]at h;simp at h
theorem aNr{s:KSt}(h:Good2 s){q o:Int}(ho:∀v,bL.look s.hs q=some v→fE o=true)(he:(eD s q o).2.2=0):Good2 (eD s q o).1∧(eD s q o).1.last=s.last∧(eD s q o).1.su=s.su∧(eD s q o).2.1=0:=by
 unfold eD at he⊢
 cases e:bL.look s.hs q with
 |none=>rw[e]at he;simp at he
 |some v=>
  rw[e]at he
  rw[if_pos (show(some v).isSome=true from rfl)]at he
  rw[if_pos (show(some v).isSome=true from rfl)]
  have hv:=h.h.at e
  have hx:=vV he
  have ha:(mM s.hs q)=v:=by unfold mM;rw[e];rfl
  rw[ha]at hx⊢
  obtain⟨h1,h2⟩:=vW h.p (ho v e) hv.2.2.2.2 hx
  refine⟨⟨h1,⟨sG h.h.nh _,Nat.le_trans (List.length_filter_le _ _) h.h.hn,fun p hp=>h.h.hk p (List.mem_filter.1 hp).1⟩,h.l0,?_⟩,rfl,rfl,rfl⟩
  show s.su=_
  rw[h.su,h2,aLv KHo.a h.h.nh e,jG]
noncomputable def bCt (x:KAct) (su:KAm):KAm:=if(x.kind.toNat:Int)=1 then su.plus x.a 1 else if(x.kind.toNat:Int)=2 then su.plus x.a (-1)else su
theorem tI{s:KSt}{x:KAct}(h:Good2 s)(hf:x.formed=true)(he:(dB s x).2.2=0):Good2 (dB s x).1∧(dB s x).1.last≤s.last+1∧s.last≤(dB s x).1.last∧(dB s x).1.su=bCt x s.su∧0≤(dB s x).2.1∧(dB s x).2.1≤(dB s x).1.last:=by
 have hw:=cX hf
 have l0:=h.l0
 have hk:=lT hf
 unfold KAct.formed KAct.plain at hf
 unfold dB at he⊢
 unfold bCt
 by_cases k1:(x.kind.toNat:Int)=1
 ·rw[if_pos k1]at he⊢
  rw[if_pos k1]
  have ho:fE x.owner=true:=by simp[k1]at hf;exact hf.1.1.1
  obtain⟨h1,h2⟩:=vW h.p ho hw (vV he)
  have he':hO s.ps x.owner x.a=0:=he
  refine⟨⟨h1,h.h,l0,?_⟩,by show s.last≤_;omega,Int.le_refl _,by show(if _ then _ else _)=_;rw[if_pos he'],Int.le_refl _,l0⟩
  show(if _ then _ else _)=_
  rw[if_pos he',aGo,h.su]
  show _=(nK id (iI s.ps x.owner x.a)).add (nK KHo.a s.hs)
  rw[h2,jG,jG,vY x.a]
 ·by_cases k2:(x.kind.toNat:Int)=2
  ·rw[if_neg k1,if_pos k2]at he⊢
   rw[if_neg k1,if_pos k2]
   have ho:fE x.owner=true:=by simp[k2]at hf;exact hf.1.1.1
   have he':eI s.ps x.owner x.a=0:=he
   obtain⟨h1,h2⟩:=qS h.p ho hw (tW he')
   refine⟨⟨h1,h.h,l0,?_⟩,by show s.last≤_;omega,Int.le_refl _,by show(if _ then _ else _)=_;rw[if_pos he'],Int.le_refl _,l0⟩
   show(if _ then _ else _)=_
   rw[if_pos he',h.su,←h2]
   show _=(nK id (dQ s.ps x.owner x.a)).add (nK KHo.a s.hs)
   apply tJ<;>simp only[KAm.add,KAm.plus]<;>omega
  ·rw[if_neg k1,if_neg k2]
   rw[if_neg k1,if_neg k2]at he⊢
   by_cases k3:(x.kind.toNat:Int)=3
   ·rw[if_pos k3]at he⊢
    have ho:fE x.owner=true∧fE x.other=true:=by simp[k3]at hf;exact⟨hf.1.1.1.1,hf.1.1.1.2⟩
    unfold lA at he⊢
    by_cases ht:eI s.ps x.owner x.a=0
    ·rw[if_pos ht]at he⊢
     obtain⟨h1,h2⟩:=qS h.p ho.1 hw (tW ht)
     obtain⟨h3,h4⟩:=vW h1 ho.2 hw (vV he)
     refine⟨⟨h3,h.h,l0,?_⟩,by show s.last≤_;omega,Int.le_refl _,rfl,Int.le_refl _,l0⟩
     show s.su=_
     rw[h.su,h4,h2]
    ·rw[if_neg ht]at he;exact absurd he ht
   ·rw[if_neg k3]at he⊢
    by_cases k4:(x.kind.toNat:Int)=4
    ·rw[if_pos k4]at he⊢
     have ho:fE x.owner=true:=by simp[k4]at hf;exact hf.1.1.1
     unfold kI at he⊢
     by_cases ht:eI s.ps x.owner x.a=0
     ·rw[if_pos ht]at he⊢
      obtain⟨h1,h2⟩:=qS h.p ho hw (tW ht)
      by_cases h128:(128:Int)≤(s.hs.length:Int)
      ·rw[if_pos h128]at he;simp at he
      ·rw[if_neg h128]
       have hl:bL.look s.hs (s.last+1)=none:=by
        cases e:bL.look s.hs (s.last+1)with
        |none=>rfl
        |some v=>have:=h.h.at e;omega
       refine⟨⟨h1,⟨jP h.h.nh _ _,by rw[oC hl];simp;omega,fun p hp=> ?_⟩,by show 0≤s.last+1;omega,?_⟩,Int.le_refl _,by show s.last≤s.last+1;omega,rfl,by show 0≤s.last+1;omega,Int.le_refl _⟩
       ·show _∧_∧p.1≤s.last+1∧_
        have hp:p∈bL.put s.hs (s.last+1) ⟨s.last+1,x.owner,x.a⟩:=hp
        rw[oC hl]at hp
        rcases List.mem_append.1 hp with hp|hp
        ·have:=h.h.hk p hp
         exact⟨this.1,this.2.1,by omega,this.2.2.2.1,this.2.2.2.2⟩
        ·rw[List.mem_singleton.1 hp]
         exact⟨rfl,by show 1≤s.last+1;omega,Int.le_refl _,ho,hw⟩
       ·show s.su=(nK id (dQ s.ps x.owner x.a)).add (nK KHo.a (bL.put s.hs (s.last+1) ⟨s.last+1,x.owner,x.a⟩))
        rw[h.su,←h2,aEj KHo.a h.h.nh,oU hl,jG]
     ·rw[if_neg ht]at he;exact absurd he ht
    ·rw[if_neg k4]at he⊢
     have fin:∀o,(∀v,bL.look s.hs x.hold=some v→fE o=true)→(eD s x.hold o).2.2=0→Good2 (eD s x.hold o).1∧(eD s x.hold o).1.last≤s.last+1∧s.last≤(eD s x.hold o).1.last∧(eD s x.hold o).1.su=s.su∧0≤(eD s x.hold o).2.1∧(eD s x.hold o).2.1≤(eD s x.hold o).1.last:=fun o ho he=>by
      obtain⟨h1,h2,h3,h4⟩:=aNr h ho he
      exact⟨h1,by omega,by omega,h3,by omega,by omega⟩
     by_cases k5:(x.kind.toNat:Int)=5
     ·rw[if_pos k5]at he⊢
      refine fin _ (fun v e=> ?_) he
      have:mM s.hs x.hold=v:=by unfold mM;rw[e];rfl
      rw[this];exact(h.h.at e).2.2.2.1
     ·rw[if_neg k5]at he⊢
      by_cases k6:(x.kind.toNat:Int)=6
      ·rw[if_pos k6]at he⊢
       refine fin _ (fun v e=> ?_) he
       simp[k6]at hf
       exact hf.1.1.2
      ·rw[if_neg k6]at he⊢
       exact⟨h,by show s.last≤_;omega,Int.le_refl _,rfl,Int.le_refl _,l0⟩
structure ResOk(r:KRes)(last:Int):Prop where
 dn:r.done=decide (r.e=0)
 at0:0≤r.at_∧r.at_<16
 e:0≤r.e∧r.e<65536
 hn:r.holds.length≤16
 hk:∀n∈r.holds,1≤n∧n≤last
theorem ResOk.le{r:KRes}{l m:Int}(h:ResOk r l)(hl:l≤m):ResOk r m:=⟨h.dn,h.at0,h.e,h.hn,fun n hn=>⟨(h.hk n hn).1,by have:=(h.hk n hn).2;omega⟩⟩
theorem c5_:(0:Int)≤5∧(5:Int)<65536:=by decide
theorem c6_:(0:Int)≤6∧(6:Int)<65536:=by decide
theorem c0_:(0:Int)≤0∧(0:Int)<65536:=by decide
theorem bHz:(0:Int)≤0∧(0:Int)<16:=by decide
theorem aPf(s:KSt)(x:KAct):0≤(dB s x).2.2∧(dB s x).2.2<65536:=by
 have ha:∀ps n a,0≤hO ps n a∧hO ps n a<65536:=fun ps n a=>by unfold hO;split<;>omega
 have ht:∀ps n a,0≤eI ps n a∧eI ps n a<65536:=fun ps n a=>by unfold eI;split<;>omega
 have hp:∀q o,0≤(eD s q o).2.2∧(eD s q o).2.2<65536:=fun q o=>by
  unfold eD;split
  ·exact ha _ _ _
  ·exact c6_
 unfold dB
 split
 ·exact ha _ _ _
 ·split
  ·exact ht _ _ _
  ·split
   ·unfold lA;split
    ·exact ha _ _ _
    ·exact ht _ _ _
   ·split
    ·unfold kI;split
     ·split
      ·exact c5_
      ·exact c0_
     ·exact ht _ _ _
    ·split
     ·exact hp _ _
     ·split
      ·exact hp _ _
      ·exact ht _ _ _
noncomputable def bCu:List KAct→KAm→KAm
 |[],su=>su
 |x::l,su=>bCu l (bCt x su)
theorem aCf{s0:KSt}(h0:Good2 s0):∀{xs:List KAct} {s:KSt} {made:List Int} {k:Nat},Good2 s→s0.last≤s.last→(∀x∈xs,x.formed=true)→k+xs.length≤16→made.length≤k→(∀n∈made,1≤n∧n≤s.last)→
  Good2 (jY s0 s made k xs).1∧(jY s0 s made k xs).1.last≤s.last+xs.length∧s0.last≤(jY s0 s made k xs).1.last∧ResOk (jY s0 s made k xs).2 (jY s0 s made k xs).1.last∧
  (jY s0 s made k xs).1.su=if(jY s0 s made k xs).2.done then bCu xs s.su else s0.su
 |[],s,made,k,h,hl,_,hk,hm,hh=>⟨h,by show s.last≤_;simp,hl,⟨rfl,bHz,c0_,by show made.length≤16;omega,hh⟩,rfl⟩
 |x::xs,s,made,k,h,hl,hf,hk,hm,hh=>by
  rw[List.length_cons]at hk⊢
  unfold jY
  by_cases e:(dB s x).2.2=0
  ·rw[if_pos e]
   obtain⟨h1,h2,h3,h4,h5,h6⟩:=tI h (hf x (by simp)) e
   have:=aCf h0 (xs:=xs) (s:=(dB s x).1) (made:=if 0<(dB s x).2.1 then made++[(dB s x).2.1]else made) (k:=k+1) h1 (by omega) (fun y hy=>hf y (by simp[hy])) (by omega) (by split<;>(try rw[List.length_append,List.length_singleton])<;>omega) (fun n hn=>by
    split at hn
    ·rcases List.mem_append.1 hn with hn|hn
     ·have:=hh n hn;omega
     ·rw[List.mem_singleton.1 hn];omega
    ·have:=hh n hn;omega)
   obtain⟨g1,g2,g3,g4,g5⟩:=this
   refine⟨g1,by push_cast;omega,g3,g4,?_⟩
   rw[g5,h4];rfl
  ·rw[if_neg e]
   have he:=aPf s x
   exact⟨h0,by push_cast;show s0.last≤_;omega,Int.le_refl _,⟨by show false=decide _;simp[e],⟨by show(0:Int)≤(k:Int);omega,by show(k:Int)<16;omega⟩,he,by simp,fun n hn=>by cases hn⟩,rfl⟩
theorem aFg{s:KSt}(h:Good2 s){xs:List KAct}(hf:∀x∈xs,x.formed=true)(hl:xs.length≤16):
  Good2 (aE s xs).1∧(aE s xs).1.last≤s.last+xs.length∧s.last≤(aE s xs).1.last∧ResOk (aE s xs).2 (aE s xs).1.last∧(aE s xs).1.su=if(aE s xs).2.done then bCu xs s.su else s.su:=
 aCf h (made:=[]) h (Int.le_refl _) hf (by omega) (by simp) (fun n hn=>by cases hn)
theorem aJd:∀{l:List KAm},(∀a∈l,a.within=true)→(vP l).bd (l.length*2147483647)∧(0≤(vP l).a0∧0≤(vP l).a1∧0≤(vP l).a2∧0≤(vP l).a3)
 |[],_=>by unfold vP KAm.bd zeroA;simp
 |a::l,h=>by
  obtain⟨h1,h2⟩:=aJd (l:=l) fun b hb=>h b (by simp[hb])
  have hw:=oE.1 (h a (by simp))
  unfold KAm.bd at h1⊢
  rw[List.length_cons]
  push_cast
  simp only[vP,KAm.add]
  omega
theorem Good2.sup{s:KSt}(h:Good2 s):(0≤s.su.a0∧s.su.a0<1099511627776)∧(0≤s.su.a1∧s.su.a1<1099511627776)∧(0≤s.su.a2∧s.su.a2<1099511627776)∧(0≤s.su.a3∧s.su.a3<1099511627776):=by
 have h1:=aJd (l:=s.ps.map fun p=>id p.2) (fun a ha=>by obtain⟨p,hp,rfl⟩:=List.mem_map.1 ha;exact(h.p.pk p hp).2.1)
 have h2:=aJd (l:=s.hs.map fun p=>p.2.a) (fun a ha=>by obtain⟨p,hp,rfl⟩:=List.mem_map.1 ha;exact(h.h.hk p hp).2.2.2.2)
 rw[List.length_map]at h1 h2
 have p1:=h.p.pn;have p2:=h.h.hn
 have e:=h.su
 unfold KAm.bd at h1 h2
 rw[e]
 unfold nK
 simp only[KAm.add]
 omega
theorem Good2.good{s:KSt}(h:Good2 s){M:Int}(hM:s.last≤M)(hM2:1099511627776≤M):GoodS s M:=by
 have:=h.sup
 exact⟨fun p hp=>(h.p.pk p hp).2.1,fun p hp=>(h.h.hk p hp).2.2.2.2,by unfold KAm.bd;omega,h.l0,hM⟩
theorem EqS.good2{s t:KSt}(h:EqS s t)(g:Good2 t):Good2 s:=by
 refine⟨⟨h.np,by rw[h.p.length_eq];exact g.p.pn,fun p hp=>g.p.pk p (h.p.mem_iff.1 hp)⟩,⟨h.nh,by rw[h.h.length_eq];exact g.h.hn,fun p hp=>by rw[h.l];exact g.h.hk p (h.h.mem_iff.1 hp)⟩,by rw[h.l];exact g.l0,?_⟩
 rw[h.u,g.su]
 unfold nK
 rw[pP (h.p.symm.map fun p=>id p.2),pP (h.h.symm.map fun p=>KHo.a p.2)]
theorem Good2.refl{s:KSt}(g:Good2 s):EqS s s:=⟨List.Perm.refl _,List.Perm.refl _,rfl,rfl,g.p.np,g.h.nh⟩
end Go.Td
namespace Go.Sl
theorem aPr(x:UInt8)(s:Nat)(hs:s<8):IntKind.u8.wrap ((x.toNat:Int)*2^(min ((s:Int)).toNat IntKind.u8.bits))=((x<<<UInt8.ofNat s).toNat:Int):=by
 have e:(UInt8.ofNat s).toNat%8=s:=by simp;omega
 have hm:min ((s:Int)).toNat IntKind.u8.bits=s:=by simp[IntKind.bits];omega
 rw[hm,u8w,UInt8.toNat_shiftLeft,e,Nat.shiftLeft_eq]
 simp
theorem aJq(x:UInt8):BitVec.ofInt IntKind.u8.bits (x.toNat:Int)=x.toBitVec:=by
 show BitVec.ofInt 8 (x.toNat:Int)=x.toBitVec
 apply BitVec.eq_of_toNat_eq
 have h:=x.toNat_lt
 simp only[BitVec.toNat_ofInt,UInt8.toNat_toBitVec]
 omega
theorem aZt(x y:UInt8):IntKind.u8.wrap ((BitVec.ofInt IntKind.u8.bits (x.toNat:Int)|||BitVec.ofInt IntKind.u8.bits (y.toNat:Int)).toNat:Int)=((x|||y).toNat:Int):=by
 rw[aJq,aJq,u8w]
 have h:=(x|||y).toNat_lt
 show(((x|||y).toNat:Nat):Int)%256=_
 omega
end Go.Sl
namespace Go.Td
open Go.Sl
def aHv(v:UInt64)(j n:Nat):UInt8:=((v>>>UInt64.ofNat j)&&&(1:UInt64)).toUInt8<<<UInt8.ofNat (7-n%8)
def qW(xs:List UInt8)(n:Nat):List UInt8:=if n%8=0 then xs++[0]else xs
def vB(xs:List UInt8)(n:Nat)(b:UInt8):List UInt8:=(qW xs n).set (n/8) (((qW xs n).getD (n/8) 0)|||b)
def fB(v:UInt64):Nat→List UInt8→Nat→List UInt8
 |0,xs,_=>xs
 |j+1,xs,n=>fB v j (vB xs n (aHv v j n)) (n+1)
theorem aGq{v:UInt64}{k i n:Nat}{ys zs:List UInt8}{x:UInt8}(hi:i<k)(hg:qW ys (n+i)=zs)(hx:zs[(n+i)/8]? =some x):
  fB v (k-i) ys (n+i)=fB v (k-(i+1)) (zs.set ((n+i)/8) (x|||(((v>>>UInt64.ofNat ((k-1)-i))&&&(1:UInt64)).toUInt8<<<UInt8.ofNat (7-((n+i)%8))))) (n+(i+1)):=by
 rw[show k-i=(k-(i+1))+1 by omega,show(k-1)-i=k-(i+1) by omega]
 show fB v _ (vB _ _ _) _=_
 unfold vB
 rw[hg,List.getD_eq_getElem?_getD,hx]
 rfl
theorem aQx{xs:List UInt8}{n:Nat}(h:n%8=0):qW xs n=xs++[0]:=if_pos h
theorem aWk{xs:List UInt8}{n:Nat}(h:¬n%8=0):qW xs n=xs:=if_neg h
theorem aGp{xs:List UInt8}{n:Nat}{b:UInt8}(h:xs.length=(n+7)/8):(vB xs n b).length=(n+1+7)/8:=by
 unfold vB qW
 split<;>simp<;>omega
theorem dI{v:UInt64}:∀{k:Nat} {xs:List UInt8} {n:Nat},xs.length=(n+7)/8→(fB v k xs n).length=(n+k+7)/8
 |0,_,_,h=>h
 |k+1,xs,n,h=>by
  have:=dI (v:=v) (k:=k) (aGp (b:=aHv v k n) h)
  rw[show n+(k+1)=n+1+k by omega]
  exact this
theorem aPc{v:Int}{k:Nat}(hv:k=64∨(0≤v∧v<2^k∧k<64)):k=64∨(U v).toNat<2^k:=by
 refine hv.imp id fun⟨h0,h1,hk⟩=> ?_
 have hp:(2:Int)^k≤2^63:=by exact_mod_cast Nat.pow_le_pow_right (by decide) (by omega:k≤63)
 unfold U
 have e:(v%18446744073709551616).toNat=v.toNat:=by
  rw[Int.emod_eq_of_lt h0 (by omega)]
 rw[e,UInt64.toNat_ofNat_of_lt' (by show v.toNat<2^64;omega)]
 have:((v.toNat:Nat):Int)<((2^k:Nat):Int):=by push_cast;omega
 exact_mod_cast this
def amB(a:KAm)(k:Nat)(xs:List UInt8)(n:Nat):List UInt8:=fB (U a.a3) k (fB (U a.a2) k (fB (U a.a1) k (fB (U a.a0) k xs n) (n+k)) (n+k+k)) (n+k+k+k)
theorem aVc{a:KAm}{k:Nat}{xs:List UInt8}{n:Nat}(h:xs.length=(n+7)/8):(amB a k xs n).length=(n+k+k+k+k+7)/8:=dI (dI (dI (dI h)))
def aPd(x:KAct)(xs:List UInt8)(n:Nat):List UInt8:=amB x.a 31 (fB (U x.hold) 64 (fB (U x.other) 17 (fB (U x.owner) 17 (fB (U ((x.kind.toNat:Nat):Int)) 3 xs n) (n+3)) (n+3+17)) (n+3+17+17)) (n+3+17+17+64)
theorem aEv{x:KAct}{xs:List UInt8}{n:Nat}(h:xs.length=(n+7)/8):(aPd x xs n).length=(n+225+7)/8:=aVc (dI (dI (dI (dI h))))
def uE:List KAct→List UInt8→Nat→List UInt8
 |[],xs,_=>xs
 |x::l,xs,n=>uE l (aPd x xs n) (n+225)
def fI(au nu:Int)(acts:List KAct)(xs:List UInt8)(n:Nat):List UInt8:=uE acts (fB (U (acts.length:Int)) 9 (fB (U nu) 41 (fB (U au) 7 xs n) (n+7)) (n+7+41)) (n+7+41+9)
theorem aAx:∀{l:List KAct} {xs:List UInt8} {n:Nat},xs.length=(n+7)/8→(uE l xs n).length=(n+225*l.length+7)/8
 |[],_,_,h=>h
 |x::l,xs,n,h=>by
  have:=aAx (l:=l) (aEv (x:=x) h)
  rw[List.length_cons,show n+225*(l.length+1)=n+225+225*l.length by omega]
  exact this
theorem aBg{au nu:Int}{l:List KAct}{xs:List UInt8}{n:Nat}(h:xs.length=(n+7)/8):(fI au nu l xs n).length=(n+57+225*l.length+7)/8:=aAx (dI (dI (dI h)))
theorem aMe{l:List KAct}{k:Nat}{x:KAct}{ys:List UInt8}{m:Nat}(hx:l[k]? =some x):uE (l.drop k) ys m=uE (l.drop (k+1)) (aPd x ys m) (m+225):=by
 obtain⟨hk,rfl⟩:=List.getElem?_eq_some_iff.1 hx
 rw[List.drop_eq_getElem_cons hk];rfl
open Go.Sl
def nS(xs:List UInt8)(i:Nat):Bool:=(xs.getD (i/8) 0).toNat.testBit (7-i%8)
def aM(v:UInt64)(k:Nat):List Bool:=(List.range k).map fun j=>v.toNat.testBit (k-1-j)
theorem dF(v:UInt64)(k:Nat):(aM v k).length=k:=by simp[aM]
theorem aPp{v:UInt64}{k i:Nat}(h:i<k):(aM v k)[i]? =some (v.toNat.testBit (k-1-i)):=by
 unfold aM
 rw[List.getElem?_map,List.getElem?_range h];rfl
theorem aHw(v:UInt64)(k:Nat):aM v (k+1)=v.toNat.testBit k::aM v k:=by
 unfold aM
 rw[List.range_succ_eq_map,List.map_cons,List.map_map]
 rw[show v.toNat.testBit (k+1-1-0)=v.toNat.testBit k from rfl]
 refine congrArg _ (List.map_congr_left fun j _=> ?_)
 show v.toNat.testBit (k+1-1-(j+1))=_
 rw[show k+1-1-(j+1)=k-1-j by omega]
structure Wr(xs:List UInt8)(n:Nat)(l:List Bool):Prop where
 len:xs.length=(n+7)/8
 num:l.length=n
 bit:∀i,nS xs i=l.getD i false
theorem aJn:Wr [] 0 []:=⟨rfl,rfl,fun i=>by simp[nS]⟩
theorem aMj(v:UInt64)(j n i:Nat)(hj:j<64)(hi:i<8):(aHv v j n).toNat.testBit (7-i)=(decide (i=n%8)&&v.toNat.testBit j):=by
 have hb:((v>>>UInt64.ofNat j)&&&(1:UInt64)).toUInt8.toNat=(v.toNat.testBit j).toNat:=by
  have e:(UInt64.ofNat j).toNat%64=j:=by simp;omega
  rw[UInt64.toNat_toUInt8,UInt64.toNat_and,UInt64.toNat_shiftRight,e]
  show(v.toNat>>>j&&&1)%256=_
  rw[Nat.and_one_is_mod,Nat.testBit_eq_decide_div_mod_eq,Nat.shiftRight_eq_div_pow]
  rcases Nat.mod_two_eq_zero_or_one (v.toNat/2^j)with h|h<;>simp[h]
 have h8:(UInt8.ofNat (7-n%8)).toNat%8=7-n%8:=by simp;omega
 unfold aHv
 rw[UInt8.toNat_shiftLeft,h8,hb]
 show((v.toNat.testBit j).toNat<<<(7-n%8)%2^8).testBit (7-i)=_
 rw[Nat.testBit_mod_two_pow,Nat.testBit_shiftLeft]
 cases v.toNat.testBit j
 ·simp
 ·have e1:decide (7-i<8)=true:=by simp;omega
  rw[e1,Bool.true_and,Bool.and_true]
  by_cases hi':i=n%8
  ·subst hi'
   simp
  ·by_cases hg:7-n%8≤7-i
   ·have e2:(true.toNat).testBit (7-i-(7-n%8))=false:=by
     have e3:7-i-(7-n%8)=(7-i-(7-n%8)-1)+1:=by omega
     rw[e3];show Nat.testBit 1 _=false
     rw[Nat.testBit_succ];simp
    rw[e2];simp[hi']
   ·simp[hg,hi']
theorem aNe(xs:List UInt8)(n i:Nat):nS (qW xs n) i=nS xs i:=by
 unfold qW
 split
 ·unfold nS
  by_cases h:i/8<xs.length
  ·rw[List.getD_eq_getElem?_getD,List.getD_eq_getElem?_getD,List.getElem?_append_left h]
  ·rw[List.getD_eq_getElem?_getD,List.getD_eq_getElem?_getD,List.getElem?_append_right (by omega),List.getElem?_eq_none (l:=xs) (by omega)]
   cases e:([0]:List UInt8)[i/8-xs.length]? with
   |none=>rfl
   |some y=>
    obtain⟨h1,h2⟩:=List.getElem?_eq_some_iff.1 e
    have:y=0:=by
     rw[←h2];simp at h1
     simp[h1]
    rw[this];rfl
 ·rfl
theorem aSu{xs:List UInt8}{n:Nat}{v:UInt64}{j:Nat}(hl:xs.length=(n+7)/8)(hj:j<64)(i:Nat):nS (vB xs n (aHv v j n)) i=(nS xs i||(decide (i=n)&&v.toNat.testBit j)):=by
 have hg:n/8<(qW xs n).length:=by unfold qW;split<;>(try rw[List.length_append,List.length_singleton])<;>omega
 have hx:=aNe xs n i
 unfold nS at hx
 unfold vB nS
 by_cases h:i/8=n/8
 ·rw[List.getD_eq_getElem?_getD,h,List.getElem?_set_self hg]
  rw[h]at hx
  simp only[Option.getD_some]
  rw[UInt8.toNat_or,Nat.testBit_or,aMj v j n (i%8) hj (Nat.mod_lt _ (by decide)),hx]
  congr 2
  exact decide_eq_decide.2 ⟨fun e=>by omega,fun e=>by rw[e]⟩
 ·rw[List.getD_eq_getElem?_getD,List.getElem?_set_ne (by omega),←List.getD_eq_getElem?_getD,hx]
  have:¬i=n:=fun e=>h (by rw[e])
  simp[this]
theorem aLh{xs:List UInt8}{n:Nat}{l:List Bool}{v:UInt64}{j:Nat}(h:Wr xs n l)(hj:j<64):Wr (vB xs n (aHv v j n)) (n+1) (l++[v.toNat.testBit j]):=by
 refine⟨aGp h.len,by simp[h.num],fun i=> ?_⟩
 rw[aSu h.len hj,h.bit]
 have hn:=h.num
 rcases Nat.lt_trichotomy i n with h1|h1|h1
 ·rw[List.getD_eq_getElem?_getD,List.getD_eq_getElem?_getD,List.getElem?_append_left (by omega)]
  simp[Nat.ne_of_lt h1]
 ·subst h1
  rw[List.getD_eq_getElem?_getD,List.getD_eq_getElem?_getD,List.getElem?_append_right (by omega),List.getElem?_eq_none (by omega),hn]
  simp
 ·rw[List.getD_eq_getElem?_getD,List.getD_eq_getElem?_getD,List.getElem?_eq_none (by omega),List.getElem?_eq_none (by simp;omega)]
  simp[Nat.ne_of_gt h1]
theorem jO{v:UInt64}:∀{k:Nat} {xs:List UInt8} {n:Nat} {l:List Bool},k≤64→Wr xs n l→Wr (fB v k xs n) (n+k) (l++aM v k)
 |0,_,_,_,_,h=>by
  rw[show ∀l:List Bool,l++aM v 0=l from fun l=>List.append_nil l];exact h
 |k+1,xs,n,l,hk,h=>by
  have:=jO (v:=v) (k:=k) (by omega) (aLh (v:=v) (j:=k) h (by omega))
  rw[aHw,show n+(k+1)=n+1+k by omega,show l++v.toNat.testBit k::aM v k=l++[v.toNat.testBit k]++aM v k by simp]
  exact this
def lZ(a:KAm)(k:Nat):List Bool:=aM (U a.a0) k++(aM (U a.a1) k++(aM (U a.a2) k++aM (U a.a3) k))
def aCv(x:KAct):List Bool:=aM (U ((x.kind.toNat:Nat):Int)) 3++(aM (U x.owner) 17++(aM (U x.other) 17++(aM (U x.hold) 64++lZ x.a 31)))
def uF:List KAct→List Bool
 |[]=>[]
 |x::l=>aCv x++uF l
def kR(au nu:Int)(al:List KAct):List Bool:=aM (U au) 7++(aM (U nu) 41++(aM (U (al.length:Int)) 9++uF al))
theorem aPh{a:KAm}{k:Nat}{xs:List UInt8}{n:Nat}{l:List Bool}(hk:k≤64)(h:Wr xs n l):Wr (amB a k xs n) (n+k+k+k+k) (l++lZ a k):=by
 have:=jO (v:=U a.a3) hk (jO (v:=U a.a2) hk (jO (v:=U a.a1) hk (jO (v:=U a.a0) hk h)))
 simpa only[List.append_assoc,lZ,amB]using this
theorem aUx{x:KAct}{xs:List UInt8}{n:Nat}{l:List Bool}(h:Wr xs n l):Wr (aPd x xs n) (n+225) (l++aCv x):=by
 have:=aPh (a:=x.a) (k:=31) (by decide) (jO (v:=U x.hold) (k:=64) (by decide) (jO (v:=U x.other) (k:=17) (by decide) (jO (v:=U x.owner) (k:=17) (by decide) (jO (v:=U ((x.kind.toNat:Nat):Int)) (k:=3) (by decide) h))))
 rw[show n+225=n+3+17+17+64+31+31+31+31 by omega]
 simpa only[List.append_assoc,aCv,aPd]using this
theorem aEx:∀{al:List KAct} {xs:List UInt8} {n:Nat} {l:List Bool},Wr xs n l→Wr (uE al xs n) (n+225*al.length) (l++uF al)
 |[],_,_,_,h=>by simpa[uE,uF]using h
 |x::al,xs,n,l,h=>by
  have:=aEx (al:=al) (aUx (x:=x) h)
  rw[List.length_cons,show n+225*(al.length+1)=n+225+225*al.length by omega]
  simpa only[List.append_assoc,uF,uE]using this
theorem aFs{au nu:Int}{al:List KAct}{xs:List UInt8}{n:Nat}{l:List Bool}(h:Wr xs n l):Wr (fI au nu al xs n) (n+(57+225*al.length)) (l++kR au nu al):=by
 have:=aEx (al:=al) (jO (v:=U (al.length:Int)) (k:=9) (by decide) (jO (v:=U nu) (k:=41) (by decide) (jO (v:=U au) (k:=7) (by decide) h)))
 rw[show n+(57+225*al.length)=n+7+41+9+225*al.length by omega]
 simpa only[List.append_assoc,kR,fI]using this
structure Rd(xs:List UInt8)(n:Nat)(l:List Bool):Prop where
 pad:n+l.length≤8*xs.length∧8*xs.length≤n+l.length+7
 bit:∀i,nS xs (n+i)=l.getD i false
theorem Wr.rd{xs:List UInt8}{n:Nat}{l:List Bool}(h:Wr xs n l):Rd xs 0 l:=by
 have h1:=h.len;have h2:=h.num
 exact⟨by omega,fun i=>by rw[Nat.zero_add];exact h.bit i⟩
theorem Rd.drop{xs:List UInt8}{n:Nat}{a l:List Bool}(h:Rd xs n (a++l)):Rd xs (n+a.length) l:=by
 have h1:=h.pad
 rw[List.length_append]at h1
 refine⟨by omega,fun i=> ?_⟩
 rw[Nat.add_assoc,h.bit,List.getD_eq_getElem?_getD,List.getD_eq_getElem?_getD,List.getElem?_append_right (by omega),show a.length+i-a.length=i by omega]
def aBb(xs:List UInt8)(i:Nat):UInt64:=((xs.getD (i/8) 0)>>>UInt8.ofNat (7-i%8)&&&(1:UInt8)).toUInt64
def zR(xs:List UInt8)(n:Nat):Nat→UInt64
 |0=>0
 |j+1=>(zR xs n j<<<(1:UInt64))|||aBb xs (n+j)
theorem aBc(xs:List UInt8)(i:Nat):(aBb xs i).toNat=(nS xs i).toNat:=by
 unfold aBb nS
 have h8:(UInt8.ofNat (7-i%8)).toNat%8=7-i%8:=by simp;omega
 rw[UInt8.toNat_toUInt64,UInt8.toNat_and,UInt8.toNat_shiftRight,h8]
 show((xs.getD (i/8) 0).toNat>>>(7-i%8)&&&1)=_
 rw[Nat.and_one_is_mod,Nat.testBit_eq_decide_div_mod_eq,Nat.shiftRight_eq_div_pow]
 generalize (xs.getD (i/8) 0).toNat/2^(7-i%8)=z
 rcases Nat.mod_two_eq_zero_or_one z with h|h<;>simp[h]
theorem aLi{xs:List UInt8}{n k:Nat}{v:UInt64}(hk:k≤64)(hv:k=64∨v.toNat<2^k)(h:∀i,i<k→nS xs (n+i)=v.toNat.testBit (k-1-i)):∀j,j≤k→(zR xs n j).toNat=v.toNat>>>(k-j)
 |0,_=>by
  have hv':v.toNat<2^k:=by
   rcases hv with rfl|h
   ·exact v.toNat_lt
   ·exact h
  rw[Nat.sub_zero,Nat.shiftRight_eq_div_pow,Nat.div_eq_of_lt hv'];rfl
 |j+1,hj=>by
  have ih:=aLi hk hv h j (by omega)
  have hv':v.toNat<2^64:=v.toNat_lt
  unfold zR
  rw[UInt64.toNat_or,UInt64.toNat_shiftLeft,ih,aBc,h j (by omega)]
  have e1:(1:UInt64).toNat%64=1:=rfl
  rw[e1]
  have e2:v.toNat>>>(k-j)<<<1%2^64=v.toNat>>>(k-j)<<<1:=by
   refine Nat.mod_eq_of_lt ?_
   rw[Nat.shiftLeft_eq,Nat.shiftRight_eq_div_pow]
   have h1:2^1≤2^(k-j):=Nat.pow_le_pow_right (by decide) (by omega)
   have h2:v.toNat/2^(k-j)≤v.toNat/2^1:=Nat.div_le_div_left h1 (by decide)
   omega
  rw[e2]
  apply Nat.eq_of_testBit_eq
  intro i
  rw[Nat.testBit_or,Nat.testBit_shiftLeft,Nat.testBit_shiftRight,Nat.testBit_shiftRight]
  cases i with
  |zero=>
   have:k-1-j=k-(j+1)+0:=by omega
   rw[←this]
   cases v.toNat.testBit (k-1-j)<;>rfl
  |succ i=>
   have:k-j+(i+1-1)=k-(j+1)+(i+1):=by omega
   rw[this]
   have e3:((v.toNat.testBit (k-1-j)).toNat).testBit (i+1)=false:=by cases v.toNat.testBit (k-1-j)<;>simp[Nat.testBit_succ]
   rw[e3];simp
theorem Rd.get{xs:List UInt8}{n k:Nat}{v:UInt64}{l:List Bool}(h:Rd xs n (aM v k++l))(hk:k≤64)(hv:k=64∨v.toNat<2^k):zR xs n k=v∧Rd xs (n+k) l∧n+k≤8*xs.length:=by
 have hd:=h.drop
 have hp:=h.pad
 rw[List.length_append,dF]at hp
 rw[dF]at hd
 refine⟨UInt64.toNat_inj.1 ?_,hd,by omega⟩
 have:=aLi (xs:=xs) (n:=n) hk hv (fun i hi=>by
  rw[h.bit,List.getD_eq_getElem?_getD,List.getElem?_append_left (by rw[dF];exact hi),aPp hi];rfl) k (Nat.le_refl _)
 rw[this,Nat.sub_self];rfl
theorem Rd.end_{xs:List UInt8}{n:Nat}(h:Rd xs n []):zR xs n (8*xs.length-n)=0∧n≤8*xs.length∧8*xs.length≤n+7:=by
 have hp:=h.pad
 simp only[List.length_nil,Nat.add_zero]at hp
 refine⟨?_,hp.1,hp.2⟩
 have hz:∀j,zR xs n j=0:=by
  intro j
  induction j with
  |zero=>rfl
  |succ j ih=>
   unfold zR
   rw[ih]
   have:aBb xs (n+j)=0:=by
    apply UInt64.toNat_inj.1
    rw[aBc,h.bit];rfl
   rw[this];rfl
 exact hz _
open Go Go.Sl
structure MOk(h:bQ)(z:KMh×KMem):Prop where
 au:z.1.author=z.2.d.author
 nu:z.1.number=z.2.d.number
 dn:z.1.done=z.2.r.done
 at_:z.1.at_=z.2.r.at_
 e:z.1.e=z.2.r.e
 acts:Sl cJ.R h (.slice z.1.p z.1.n z.1.c) z.2.d.acts
 holds:Sl aZ.R h (.slice z.1.q z.1.m z.1.k) z.2.r.holds
theorem MOk.mono{h h':bQ}{z:KMh×KMem}(s:jF h h')(m:MOk h z):MOk h' z:=⟨m.au,m.nu,m.dn,m.at_,m.e,Sl.mono _ _ _ _ _ s m.acts,Sl.mono _ _ _ _ _ s m.holds⟩
def dG(zs:List (KMh×KMem)):bU:=fun h=>∀z∈zs,MOk h z
theorem dG.mono(zs:List (KMh×KMem)):rH (dG zs):=fun _ _ s h z hz=>(h z hz).mono s
theorem zG:dG [] fun _=>none:=fun z hz=>by cases hz
theorem uU{T T2 c k:Nat}{p q:Option Addr}{zs:List (KMh×KMem)}{au nu at_ e:Int}{dn:Bool}{acts:List KAct}{holds:List Int}:
  ∀a,jE [aK cJ T p c acts,aK aZ T2 q k holds,dG zs] a→dG (zs++[(⟨au,nu,p,acts.length,c,dn,at_,e,q,holds.length,k⟩,⟨⟨au,nu,acts⟩,⟨dn,at_,e,holds⟩⟩)]) a:=fun a ha=>by
 obtain⟨a1,b1,d1,s1,s2,h1,a2,b2,d2,s3,s4,h2,a3,b3,d3,s5,s6,h3,_⟩:=ha
 intro z hz
 rcases List.mem_append.1 hz with hz|hz
 ·exact(h3 z hz).mono (fun b o hb=>s2 b o (s4 b o (s5 b o hb)))
 ·rw[List.mem_singleton.1 hz]
  exact⟨rfl,rfl,rfl,rfl,rfl,Sl.mono _ _ _ _ _ s1 (jC h1),Sl.mono _ _ _ _ _ (fun b o hb=>s2 b o (s3 b o hb)) (jC h2)⟩
section
variable {β:Base}{L:List bU}{zs:List (KMh×KMem)}{z:KMh×KMem}
theorem bBz(i:Nat)(hi:L[i]? =some (dG zs))(hz:z∈zs):bH β L (fun h=>Sl cJ.R h (.slice z.1.p z.1.n z.1.c) z.2.d.acts):=bH.of_res i hi (Sl.mono _ _ _) fun _ h=>(h z hz).acts
theorem bCa(i:Nat)(hi:L[i]? =some (dG zs))(hz:z∈zs):bH β L (fun h=>Sl aZ.R h (.slice z.1.q z.1.m z.1.k) z.2.r.holds):=bH.of_res i hi (Sl.mono _ _ _) fun _ h=>(h z hz).holds
end
end Go.Td
namespace Go.Jn
open Go.Sl
theorem lK{n:Nat}(h:n<18446744073709551616):(U (n:Int)).toNat=n:=by
 have h1:=tG (n:Int)
 rw[aEq]at h1
 omega
open Go.Sl
theorem tk{a b:Bs}{k:Nat}(h:a.length=k):(a++b).take k=a:=by rw[←h];simp
theorem dr{a b:Bs}{k:Nat}(h:a.length=k):(a++b).drop k=b:=by rw[←h];simp
theorem aNw{A B C p D rest:Bs}(hA:A.length=4)(hB:B.length=4)(hC:C.length=8)(hD:D.length=8):
  rsz (A++B++C++p++D++rest)=bW A∧rin (A++B++C++p++D++rest)=bW B∧rno (A++B++C++p++D++rest)=bW C∧
  ((bW A).toNat=p.length→rpl (A++B++C++p++D++rest)=p∧aYa (A++B++C++p++D++rest)=bW D):=by
 have e0:(A++B++C++p++D++rest).take 4=A:=by simp only[List.append_assoc];exact tk hA
 have e1:rsz (A++B++C++p++D++rest)=bW A:=by rw[rsz,e0]
 refine⟨e1,?_,?_,fun hl=>⟨?_,?_⟩⟩
 ·rw[rin,List.drop_take,show(8:Nat)-4=4 from rfl]
  simp only[List.append_assoc]
  rw[dr hA,tk hB]
 ·rw[rno,List.drop_take,show(16:Nat)-8=8 from rfl]
  rw[show A++B++C++p++D++rest=(A++B)++(C++(p++(D++rest))) by simp,dr (by simp[hA,hB]),tk hC]
 ·rw[rpl,e1,hl,List.drop_take,show 16+p.length-16=p.length by omega]
  rw[show A++B++C++p++D++rest=(A++B++C)++(p++(D++rest)) by simp,dr (by simp[hA,hB,hC]),tk rfl]
 ·rw[aYa,e1,hl,List.drop_take,show 24+p.length-(16+p.length)=8 by omega]
  rw[show A++B++C++p++D++rest=(A++B++C++p)++(D++rest) by simp,dr (by simp[hA,hB,hC];omega),tk hD]
theorem aWh(e n:Int)(p:Bs):bR e n p=be 4 (U (p.length:Int))++be 4 (~~~(U (p.length:Int)))++be 8 (U n)++p++be 8 (aDf e n p):=rfl
theorem aGu{e:Int}{n:Nat}{p rest:Bs}(hp:p.length≤65536)(hn:n≤4611686018427387904):kD e (bR e n p++rest)=true∧iE (bR e n p++rest)=n∧bP (bR e n p++rest)=p:=by
 have hU:(U (p.length:Int)).toNat=p.length:=lK (by omega)
 have hs:bW (be 4 (U (p.length:Int)))=U (p.length:Int):=by
  apply UInt64.toNat_inj.1
  rw[wS,hU];omega
 have h:=aNw (A:=be 4 (U (p.length:Int))) (B:=be 4 (~~~(U (p.length:Int)))) (C:=be 8 (U n)) (p:=p) (D:=be 8 (aDf e n p)) (rest:=rest) (bX _ _) (bX _ _) (bX _ _) (bX _ _)
 rw[←aWh]at h
 obtain⟨h1,h2,h3,h4⟩:=h
 obtain⟨h5,h6⟩:=h4 (by rw[hs,hU])
 rw[hs]at h1
 rw[pS]at h3 h6
 have hno:(U (n:Int)).toNat=n:=lK (by omega)
 have hok:¬mK (bR e n p++rest):=by
  unfold mK
  rw[h1,h2,h3,hU,hno,aUw (by rw[hU];omega)]
  have hl:(bR e n p++rest).length=24+p.length+rest.length:=by simp[dM]
  rw[hl]
  have h7:((4294967295:UInt64).toNat:Int)=4294967295:=rfl
  omega
 refine⟨?_,?_,?_⟩
 ·rw[kD,if_neg hok,h6,h3,h5,hno];simp
 ·rw[iE,if_neg hok,h3,hno]
 ·rw[bP,if_neg hok,h5]
theorem aTe{e e':Int}{n m:Nat}{p:Bs}(hp:p.length≤65536)(hm:m<24+p.length):kD e' ((bR e n p).take m)=false:=by
 have hb:mK ((bR e n p).take m):=by
  unfold mK
  have hlen:((bR e n p).take m).length=m:=by simp[dM];omega
  rw[hlen]
  by_cases h24:m<24
  ·left;omega
  ·have hU:(U (p.length:Int)).toNat=p.length:=lK (by omega)
   have hs:rsz ((bR e n p).take m)=U (p.length:Int):=by
    rw[rsz,List.take_take,Nat.min_eq_left (by omega)]
    have:(bR e n p).take 4=be 4 (U (p.length:Int)):=by
     simp only[bR,List.append_assoc];exact tk (bX _ _)
    rw[this]
    apply UInt64.toNat_inj.1
    rw[wS,hU];omega
   rw[hs,hU]
   right;right;right;left;omega
 rw[kD,if_pos hb]
theorem yD(e:Int):kD e []=false:=by
 rw[kD,if_pos (.inl (by simp))]
open Go.Sl
def lS(e:Nat):Nat→List Bs→Bs
 |_,[]=>[]
 |n,r::rs=>bR e n r++lS e (n+1) rs
theorem oZ(e n:Nat):lS e n []=[]:=by rw[lS]
theorem oY(e n:Nat)(r:Bs)(rs:List Bs):lS e n (r::rs)=bR e n r++lS e (n+1) rs:=by rw[lS]
theorem nW(e:Nat)(rs:List Bs):∀n:Nat,(lS e n rs).length=bK rs:=by
 induction rs with
 |nil=>intro n;rw[oZ,bK];rfl
 |cons r rs ih=>intro n;rw[oY,List.length_append,dM,ih (n+1),bK]
theorem aNb(e:Nat)(b:Bs)(rs:List Bs):∀n:Nat,lS e n (rs++[b])=lS e n rs++bR e ((n+rs.length:Nat):Int) b:=by
 induction rs with
 |nil=>intro n;rw[List.nil_append,oY,oZ,oZ,List.append_nil,List.nil_append,List.length_nil,Nat.add_zero]
 |cons r rs ih=>intro n;rw[List.cons_append,oY,ih (n+1),oY,List.append_assoc,List.length_cons,show n+1+rs.length=n+(rs.length+1) by omega]
theorem aNq{e n f:Nat}{r tail:Bs}(hr:r.length≤65536)(hn:n<4611686018427387904):oB e (f+1) n (bR e n r++tail)=r::oB e f (n+1) tail:=by
 have h1:=aGu (e:=e) (n:=n) (p:=r) (rest:=tail) hr (by omega)
 have e2:(bR e n r++tail).drop (24+r.length)=tail:=dr (dM _ _ _)
 rw[oB,if_pos ⟨h1.1,h1.2.1,by omega⟩,h1.2.2,e2]
theorem aNp{e:Nat}(rs:List Bs):∀(n f:Nat) (tail:Bs),(∀b∈rs,b.length≤65536)→n+rs.length≤4611686018427387904→kD e tail=false→rs.length<f→oB e f n (lS e n rs++tail)=rs:=by
 induction rs with
 |nil=>
  intro n f tail _ _ ht hf
  obtain⟨f,rfl⟩:∃g,f=g+1:=⟨f-1,by simp at hf;omega⟩
  rw[oZ,List.nil_append,oB,if_neg (by rw[ht];simp)]
 |cons r rs ih=>
  intro n f tail hb hn ht hf
  obtain⟨f,rfl⟩:∃g,f=g+1:=⟨f-1,by simp at hf;omega⟩
  simp only[List.length_cons]at hn hf
  have e1:lS e n (r::rs)++tail=bR e n r++(lS e (n+1) rs++tail):=by rw[oY,List.append_assoc]
  rw[e1,aNq (hb r (by simp)) (by omega),ih (n+1) f tail (fun b hb'=>hb b (by simp[hb'])) (by omega) ht (by omega)]
def qH(i:KI):Bs:=(if i.epoch=0 then []else bR i.epoch ((i.next-i.recs.length:Nat):Int) i.state)++lS i.epoch (i.next-i.recs.length) i.recs
structure WF(i:KI):Prop where
 size:i.size=(qH i).length
 next:i.recs.length≤i.next
 zero:i.epoch=0→i.state=[]∧i.next=i.recs.length
 big:i.next≤4611686018427387904
 state:i.state.length≤65536
 recs:∀b∈i.recs,b.length≤65536
theorem aBz{e n:Nat}{rs:List Bs}{tail:Bs}(hb:∀b∈rs,b.length≤65536)(hn:n+rs.length≤4611686018427387904)(ht:kD e tail=false):nE e n (lS e n rs++tail)=rs:=by
 refine aNp rs n _ tail hb hn ht ?_
 have h1:rs.length≤(lS e n rs).length:=by
  rw[nW]
  clear hb hn ht
  induction rs with
  |nil=>simp
  |cons a l ih=>simp only[List.length_cons,bK];omega
 simp;omega
theorem aTb{k:KS}{i:KI}{tail:Bs}(he:bM k.head=i.epoch)(ha:k.area i.epoch=qH i++tail)(ht:kD i.epoch tail=false)(wf:WF i):pK k=some i:=by
 obtain⟨ep,nx,stt,rs,sz⟩:=i
 obtain⟨w1,w2,w3,w4,w5,w6⟩:=wf
 simp only at*
 unfold pK
 simp only[he,ha]
 by_cases h0:ep=0
 ·subst h0
  obtain⟨z1,z2⟩:=w3 rfl
  subst z1;subst z2
  have e1:qH ⟨0,rs.length,[],rs,sz⟩=lS 0 0 rs:=by simp[qH]
  rw[e1]at w1⊢
  rw[if_pos rfl,aBz w6 (by omega) ht]
  rw[nW]at w1
  rw[w1]
 ·have e1:qH ⟨ep,nx,stt,rs,sz⟩=bR ep ((nx-rs.length:Nat):Int) stt++lS ep (nx-rs.length) rs:=by simp[qH,h0]
  rw[e1]at w1⊢
  rw[List.append_assoc]
  have h1:=aGu (e:=ep) (n:=nx-rs.length) (p:=stt) (rest:=lS ep (nx-rs.length) rs++tail) w5 (by omega)
  have e2:(bR ep ((nx-rs.length:Nat):Int) stt++(lS ep (nx-rs.length) rs++tail)).drop (24+stt.length)=lS ep (nx-rs.length) rs++tail:=dr (dM _ _ _)
  rw[if_neg h0,if_pos h1.1,h1.2.1,h1.2.2,e2,aBz w6 (by omega) ht]
  simp only[List.length_append,dM,nW]at w1
  rw[w1,show nx-rs.length+rs.length=nx by omega]
def hd4(m0:UInt64)(s0:Bs)(m1:UInt64)(s1:Bs):Bs:=be 8 m0++s0++(be 8 m1++s1)
def ok4(j m:UInt64)(s:Bs):Prop:=m<4611686018427387904∧m%2=j∧bW s=eV ((m.toNat:Nat):Int)
instance (j m:UInt64)(s:Bs):Decidable (ok4 j m s):=by unfold ok4;infer_instance
def xI(b j m:UInt64)(s:Bs):UInt64:=if b<m∧ok4 j m s then m else b
theorem nB{m0 m1:UInt64}{s0 s1:Bs}(h0:s0.length=8)(h1:s1.length=8):(hd4 m0 s0 m1 s1).length=32:=by simp[hd4,bX,h0,h1]
theorem lD{m0 m1:UInt64}{s0 s1:Bs}(h0:s0.length=8)(h1:s1.length=8):bM (hd4 m0 s0 m1 s1)=(xI (xI 0 0 m0 s0) 1 m1 s1).toNat:=by
 have hl:=nB (m0:=m0) (m1:=m1) h0 h1
 have b0:=bX 8 m0
 have b1:=bX 8 m1
 have w0:bW (((hd4 m0 s0 m1 s1).take (0*16+8)).drop (0*16))=m0:=by
  simp only[hd4,List.append_assoc]
  rw[show 0*16+8=8 from rfl,tk b0,show 0*16=0 from rfl,List.drop_zero,pS]
 have w1:((hd4 m0 s0 m1 s1).take (0*16+16)).drop (0*16+8)=s0:=by
  rw[List.drop_take]
  simp only[hd4,List.append_assoc]
  rw[show 0*16+8=8 from rfl,dr b0,show 0*16+16-8=8 from rfl,tk h0]
 have w2:bW (((hd4 m0 s0 m1 s1).take (1*16+8)).drop (1*16))=m1:=by
  rw[List.drop_take]
  unfold hd4
  rw[show 1*16=16 from rfl,dr (by simp[b0,h0]),show 16+8-16=8 from rfl,tk b1,pS]
 have w3:((hd4 m0 s0 m1 s1).take (1*16+16)).drop (1*16+8)=s1:=by
  rw[List.drop_take,show hd4 m0 s0 m1 s1=(be 8 m0++s0++be 8 m1)++s1 by simp[hd4]]
  rw[show 1*16+8=24 from rfl,dr (by simp[b0,h0,b1]),show 1*16+16-24=8 from rfl,List.take_of_length_le (by omega)]
 unfold bM
 rw[hl]
 show(eT _ 2).toNat=_
 rw[eT,eT,eT]
 unfold qI
 simp only[w0,w1,w2,w3]
 have u0:U ((0*16/16:Nat):Int)=0:=by decide
 have u1:U ((1*16/16:Nat):Int)=1:=by decide
 rw[u0,u1]
 rfl
theorem aMi:∀m:Fin 256,be 8 (U ((m.val:Nat):Int))=List.replicate 7 0++[UInt8.ofNat m.val]:=by decide+kernel
theorem aZs{m:Nat}(h:m<256):be 8 (U (m:Int))=List.replicate 7 0++[UInt8.ofNat m]:=aMi ⟨m,h⟩
theorem aCk{m e q:Nat}{s t:Bs}(hm:m<256)(he:e<256)(hs:s.length=8)(ht:t.length=8)(hq:q≤16):
  ∃(m':Nat) (s':Bs),m'<256∧s'.length=8∧(be 8 (U (e:Int))++t).take q++(be 8 (U (m:Int))++s).drop q=be 8 (U (m':Int))++s'∧(m'=m∧s'=s∨m'=e)∧(q=16→m'=e∧s'=t):=by
 have b0:=bX 8 (U (e:Int))
 have b1:=bX 8 (U (m:Int))
 by_cases h8:q<8
 ·refine⟨m,s,hm,hs,?_,.inl ⟨rfl,rfl⟩,fun h=>by omega⟩
  rw[List.take_append_of_le_length (by omega),List.drop_append_of_le_length (by omega),aZs hm,aZs he]
  rw[List.take_append_of_le_length (by simp;omega),List.drop_append_of_le_length (by simp;omega),List.take_replicate,List.drop_replicate,←List.append_assoc,←List.append_assoc,List.replicate_append_replicate,Nat.min_eq_left (by omega),show q+(7-q)=7 by omega]
 ·refine⟨e,t.take (q-8)++s.drop (q-8),he,by simp[hs,ht];omega,?_,.inr rfl,fun h=>⟨rfl,?_⟩⟩
  ·rw[List.take_append,List.drop_append,List.take_of_length_le (by omega:(be 8 (U (e:Int))).length≤q),List.drop_of_length_le (by omega:(be 8 (U (m:Int))).length≤q),b0,b1]
   simp
  ·subst h
   rw[List.take_of_length_le (by omega),List.drop_of_length_le (by omega)];simp
theorem aEu:∀{bs xs:Bs} {at_:Nat},at_+bs.length≤xs.length→wr xs at_ bs=xs.take at_++bs++xs.drop (at_+bs.length)
 |[],xs,at_,_=>by simp[wr]
 |b::bs,xs,at_,h=>by
  have hl:at_<xs.length:=by simp at h;omega
  rw[wr,if_pos hl,aEu (by simp at h⊢;omega)]
  simp only[List.length_cons]
  rw[List.drop_set_of_lt (by omega),show at_+1+bs.length=at_+(bs.length+1) by omega]
  congr 1
  rw[List.take_add_one]
  rw[List.getElem?_set_self hl,List.take_set_of_le (by omega)]
  simp
theorem aJm:∀{bs xs:Bs},wr xs xs.length bs=xs++bs
 |[],xs=>by simp[wr]
 |b::bs,xs=>by
  rw[wr,if_neg (by omega)]
  have:=aJm (bs:=bs) (xs:=xs++[b])
  simp only[List.length_append,List.length_cons,List.length_nil]at this
  rw[this];simp
def jU(head:Bs)(e:Nat):Prop:=(head=[]∧e=0)∨∃m0 s0 m1 s1,m0<256∧m1<256∧s0.length=8∧s1.length=8∧head=hd4 (U ((m0:Nat):Int)) s0 (U ((m1:Nat):Int)) s1∧bM head=e
theorem jU.epoch{head:Bs}{e:Nat}(h:jU head e):bM head=e:=by
 rcases h with⟨rfl,rfl⟩|⟨_,_,_,_,_,_,_,_,_,h⟩
 ·rfl
 ·exact h
theorem jU.len{head:Bs}{e:Nat}(h:jU head e):head.length=0∨head.length=32:=by
 rcases h with⟨rfl,rfl⟩|⟨_,_,_,_,_,_,h0,h1,rfl,_⟩
 ·left;rfl
 ·right;exact nB h0 h1
theorem aPa:jU (List.replicate 32 0) 0:= .inr ⟨0,List.replicate 8 0,0,List.replicate 8 0,by decide,by decide,by decide,by decide,by decide+kernel,by decide+kernel⟩
theorem nL{a b:UInt64}:a<b↔a.toNat<b.toNat:=UInt64.lt_iff_toNat_lt
theorem iX(b j m:UInt64)(s:Bs):(xI b j m s=m∧b<m∧ok4 j m s)∨(xI b j m s=b∧¬(b<m∧ok4 j m s)):=by
 unfold xI
 split
 ·rename_i h;exact .inl ⟨rfl,h⟩
 ·rename_i h;exact .inr ⟨rfl,h⟩
theorem aLd{e:Nat}(h:e<256):(U (e:Int))%2=U ((e%2:Nat):Int):=by
 apply UInt64.toNat_inj.1
 rw[UInt64.toNat_mod,lK (by omega),lK (by omega)];rfl
theorem yW{head:Bs}{e q:Nat}(h:jU head e)(hl:head.length=32)(he:e+1<256)(hq:q≤16):
  (jU (wr head ((e+1)%2*16) ((kZ (e+1)).take q)) e∨jU (wr head ((e+1)%2*16) ((kZ (e+1)).take q)) (e+1))∧(q=16→jU (wr head ((e+1)%2*16) ((kZ (e+1)).take q)) (e+1)):=by
 rcases h with⟨rfl,_⟩|⟨m0,s0,m1,s1,hm0,hm1,h0,h1,rfl,hep⟩
 ·simp at hl
 have ht:(be 8 (eV ((e+1:Nat):Int))).length=8:=bX _ _
 have hb:=bX 8 (U ((e+1:Nat):Int))
 have hcl:((kZ (e+1)).take q).length=q:=by simp[kZ,bX];omega
 rw[lD h0 h1]at hep
 have hUe:(U ((e+1:Nat):Int)).toNat=e+1:=lK (by omega)
 have u62:(4611686018427387904:UInt64).toNat=4611686018427387904:=rfl
 have key0:ok4 0 (U ((m0:Nat):Int)) s0→(U ((m0:Nat):Int)).toNat≤e:=by
  intro ho
  rcases iX 0 0 (U ((m0:Nat):Int)) s0 with⟨q1,_⟩|⟨q1,q2⟩
  ·rcases iX (xI 0 0 (U ((m0:Nat):Int)) s0) 1 (U ((m1:Nat):Int)) s1 with⟨r1,r2,_⟩|⟨r1,_⟩
   ·rw[q1]at r2;rw[r1]at hep;have:=nL.1 r2;omega
   ·rw[r1,q1]at hep;omega
  ·have:¬(0:UInt64)<U ((m0:Nat):Int):=fun hlt=>q2 ⟨hlt,ho⟩
   have:=mt nL.2 this
   simp at this
   omega
 have key1:ok4 1 (U ((m1:Nat):Int)) s1→(U ((m1:Nat):Int)).toNat≤e:=by
  intro ho
  rcases iX (xI 0 0 (U ((m0:Nat):Int)) s0) 1 (U ((m1:Nat):Int)) s1 with⟨r1,_⟩|⟨r1,r2⟩
  ·rw[r1]at hep;omega
  ·rw[r1]at hep
   have:¬xI 0 0 (U ((m0:Nat):Int)) s0<U ((m1:Nat):Int):=fun hlt=>r2 ⟨hlt,ho⟩
   have:=mt nL.2 this
   omega
 rcases Nat.mod_two_eq_zero_or_one (e+1)with hp|hp
 ·
  obtain⟨m',s',hm',hs',hpart,hwhat,hall⟩:=aCk (q:=q) hm0 he h0 ht hq
  have hw:wr (hd4 (U ((m0:Nat):Int)) s0 (U ((m1:Nat):Int)) s1) ((e+1)%2*16) ((kZ (e+1)).take q)=hd4 (U ((m':Nat):Int)) s' (U ((m1:Nat):Int)) s1:=by
   rw[aEu (by rw[hcl,hp,nB h0 h1];omega),hp,hcl]
   simp only[Nat.zero_mul,List.take_zero,List.nil_append,Nat.zero_add]
   unfold hd4
   rw[List.drop_append_of_le_length (by simp[bX,h0];omega),←List.append_assoc,kZ,hpart]
  rw[hw]
  have hq16:q=16→bM (hd4 (U ((m':Nat):Int)) s' (U ((m1:Nat):Int)) s1)=e+1:=by
   intro h16
   obtain⟨rfl,rfl⟩:=hall h16
   rw[lD ht h1]
   have o0:ok4 0 (U ((e+1:Nat):Int)) (be 8 (eV ((e+1:Nat):Int))):=⟨nL.2 (by rw[hUe,u62];omega),by rw[aLd he,hp];rfl,by rw[pS,hUe]⟩
   have e0:xI 0 0 (U ((e+1:Nat):Int)) (be 8 (eV ((e+1:Nat):Int)))=U ((e+1:Nat):Int):=if_pos ⟨nL.2 (by rw[hUe];simp),o0⟩
   rw[e0]
   rcases iX (U ((e+1:Nat):Int)) 1 (U ((m1:Nat):Int)) s1 with⟨_,r2,r3⟩|⟨r1,_⟩
   ·have:=key1 r3;have:=nL.1 r2;omega
   ·rw[r1,hUe]
  refine⟨?_,fun h16=> .inr ⟨m',s',m1,s1,hm',hm1,hs',h1,rfl,hq16 h16⟩⟩
  by_cases ho:ok4 0 (U ((m':Nat):Int)) s'∧m'=e+1
  ·right
   refine .inr ⟨m',s',m1,s1,hm',hm1,hs',h1,rfl,?_⟩
   obtain⟨ho,rfl⟩:=ho
   rw[lD hs' h1]
   have e0:xI 0 0 (U ((e+1:Nat):Int)) s'=U ((e+1:Nat):Int):=if_pos ⟨nL.2 (by rw[hUe];simp),ho⟩
   rw[e0]
   rcases iX (U ((e+1:Nat):Int)) 1 (U ((m1:Nat):Int)) s1 with⟨_,r2,r3⟩|⟨r1,_⟩
   ·have:=key1 r3;have:=nL.1 r2;omega
   ·rw[r1,hUe]
  ·left
   refine .inr ⟨m',s',m1,s1,hm',hm1,hs',h1,rfl,?_⟩
   rw[lD hs' h1]
   rcases hwhat with⟨rfl,rfl⟩|rfl
   ·exact hep
   ·have hno:¬ok4 0 (U ((e+1:Nat):Int)) s':=fun h=>ho ⟨h,rfl⟩
    have e0:xI 0 0 (U ((e+1:Nat):Int)) s'=0:=if_neg fun h=>hno h.2
    rw[e0]
    rcases iX (xI 0 0 (U ((m0:Nat):Int)) s0) 1 (U ((m1:Nat):Int)) s1 with⟨r1,r2,r3⟩|⟨r1,r2⟩
    ·rw[r1]at hep
     have:xI 0 1 (U ((m1:Nat):Int)) s1=U ((m1:Nat):Int):=if_pos ⟨nL.2 (by have:=nL.1 r2;simp;omega),r3⟩
     rw[this];exact hep
    ·rw[r1]at hep
     have h00:xI 0 0 (U ((m0:Nat):Int)) s0=0:=by
      rcases iX 0 0 (U ((m0:Nat):Int)) s0 with⟨q1,q2,q3⟩|⟨q1,_⟩
      ·exfalso
       have h2:=q3.2.1
       rw[aLd hm0]at h2
       rw[q1,lK (by omega)]at hep
       have:m0%2=0:=by
        have:=congrArg UInt64.toNat h2
        rw[lK (by omega)]at this
        exact this
       omega
      ·exact q1
     rw[h00]at hep r2
     have:xI 0 1 (U ((m1:Nat):Int)) s1=0:=if_neg r2
     rw[this];exact hep
 ·
  obtain⟨m',s',hm',hs',hpart,hwhat,hall⟩:=aCk (q:=q) hm1 he h1 ht hq
  have hw:wr (hd4 (U ((m0:Nat):Int)) s0 (U ((m1:Nat):Int)) s1) ((e+1)%2*16) ((kZ (e+1)).take q)=hd4 (U ((m0:Nat):Int)) s0 (U ((m':Nat):Int)) s':=by
   rw[aEu (by rw[hcl,hp,nB h0 h1];omega),hp,hcl]
   have hsl:(be 8 (U ((m0:Nat):Int))++s0).length=16:=by simp[bX,h0]
   unfold hd4
   rw[show 1*16=16 from rfl,tk hsl,List.append_assoc]
   congr 1
   rw[←List.drop_drop,dr hsl,kZ,hpart]
  rw[hw]
  have hq16:q=16→bM (hd4 (U ((m0:Nat):Int)) s0 (U ((m':Nat):Int)) s')=e+1:=by
   intro h16
   obtain⟨rfl,rfl⟩:=hall h16
   rw[lD h0 ht]
   have o1:ok4 1 (U ((e+1:Nat):Int)) (be 8 (eV ((e+1:Nat):Int))):=⟨nL.2 (by rw[hUe,u62];omega),by rw[aLd he,hp];rfl,by rw[pS,hUe]⟩
   have hb0:xI 0 0 (U ((m0:Nat):Int)) s0<U ((e+1:Nat):Int):=by
    rcases iX 0 0 (U ((m0:Nat):Int)) s0 with⟨q1,_,q3⟩|⟨q1,_⟩
    ·rw[q1];have:=key0 q3;exact nL.2 (by omega)
    ·rw[q1];exact nL.2 (by rw[hUe];simp)
   rw[show xI (xI 0 0 (U ((m0:Nat):Int)) s0) 1 (U ((e+1:Nat):Int)) (be 8 (eV ((e+1:Nat):Int)))=U ((e+1:Nat):Int)from if_pos ⟨hb0,o1⟩,hUe]
  refine⟨?_,fun h16=> .inr ⟨m0,s0,m',s',hm0,hm',h0,hs',rfl,hq16 h16⟩⟩
  by_cases ho:ok4 1 (U ((m':Nat):Int)) s'∧m'=e+1
  ·right
   refine .inr ⟨m0,s0,m',s',hm0,hm',h0,hs',rfl,?_⟩
   obtain⟨ho,rfl⟩:=ho
   rw[lD h0 hs']
   have hb0:xI 0 0 (U ((m0:Nat):Int)) s0<U ((e+1:Nat):Int):=by
    rcases iX 0 0 (U ((m0:Nat):Int)) s0 with⟨q1,_,q3⟩|⟨q1,_⟩
    ·rw[q1];have:=key0 q3;exact nL.2 (by omega)
    ·rw[q1];exact nL.2 (by rw[hUe];simp)
   rw[show xI (xI 0 0 (U ((m0:Nat):Int)) s0) 1 (U ((e+1:Nat):Int)) s'=U ((e+1:Nat):Int)from if_pos ⟨hb0,ho⟩,hUe]
  ·left
   refine .inr ⟨m0,s0,m',s',hm0,hm',h0,hs',rfl,?_⟩
   rw[lD h0 hs']
   rcases hwhat with⟨rfl,rfl⟩|rfl
   ·exact hep
   ·have hno:¬ok4 1 (U ((e+1:Nat):Int)) s':=fun h=>ho ⟨h,rfl⟩
    rw[show xI (xI 0 0 (U ((m0:Nat):Int)) s0) 1 (U ((e+1:Nat):Int)) s'=xI 0 0 (U ((m0:Nat):Int)) s0 from if_neg fun h=>hno h.2]
    rcases iX (xI 0 0 (U ((m0:Nat):Int)) s0) 1 (U ((m1:Nat):Int)) s1 with⟨r1,r2,r3⟩|⟨r1,_⟩
    ·exfalso
     have h2:=r3.2.1
     rw[aLd hm1]at h2
     rw[r1,lK (by omega)]at hep
     have:m1%2=1:=by
      have:=congrArg UInt64.toNat h2
      rw[lK (by omega)]at this
      exact this
     omega
    ·rw[r1]at hep;exact hep
open Go.Sl
theorem rI(k:KS)(e:Nat)(xs:Bs):(k.setArea e xs).area e=xs:=by
 unfold KS.setArea KS.area
 split<;>rfl
theorem nQ(k:KS){e e':Nat}(h:e%2≠e'%2)(xs:Bs):(k.setArea e xs).area e'=k.area e':=by
 unfold KS.setArea KS.area
 by_cases h1:e%2=0
 ·rw[if_pos h1,if_neg (by omega),if_neg (by omega)]
 ·rw[if_neg h1,if_pos (by omega),if_pos (by omega)]
theorem kP(k:KS)(e:Nat)(p:Int):({k with power:=p}:KS).area e=k.area e:=rfl
theorem rV(k:KS)(e:Nat)(xs:Bs):(k.setArea e xs).head=k.head:=by unfold KS.setArea;split<;>rfl
theorem sE{P:Bs→Prop}{k:KS}(ha:P k.a)(hb:P k.b)(e:Nat):P (k.area e):=by unfold KS.area;split<;>assumption
structure Inv(k:KS)(i:KI)(N:Nat)(x:Bool):Prop where
 head:jU k.head i.epoch
 area:∃tail,k.area i.epoch=qH i++tail∧kD i.epoch tail=false∧(x=true→tail=[])
 wf:WF i
 eN:i.epoch≤N
 nN:i.next≤N
 sz:i.size≤43400+494*N
 sm:i.size≤262144
 la:(k.area 0).length≤262144
 lb:(k.area 1).length≤262144
 st:i.state.length≤43300
 rs:∀b∈i.recs,b.length≤470
 pw: -1≤k.power∧k.power≤1000
theorem Inv.mono{k:KS}{i:KI}{N M:Nat}{x:Bool}(h:Inv k i N x)(hM:N≤M):Inv k i M x:=
 ⟨h.head,h.area,h.wf,by have:=h.eN;omega,by have:=h.nN;omega,by have:=h.sz;omega,h.sm,h.la,h.lb,h.st,h.rs,h.pw⟩
theorem Inv.weak{k:KS}{i:KI}{N:Nat}(h:Inv k i N true):Inv k i N false:=
 ⟨h.head,let⟨t,a,b,_⟩:=h.area;⟨t,a,b,fun e=>by cases e⟩,h.wf,h.eN,h.nN,h.sz,h.sm,h.la,h.lb,h.st,h.rs,h.pw⟩
theorem Inv.any{k:KS}{i:KI}{N:Nat}{x:Bool}(h:Inv k i N x):Inv k i N false:=by cases x;exact h;exact h.weak
theorem Inv.exact{k:KS}{i:KI}{N:Nat}(h:Inv k i N true):k.area i.epoch=qH i:=by
 obtain⟨t,a,_,c⟩:=h.area
 rw[a,c rfl,List.append_nil]
theorem Inv.lens{k:KS}{i:KI}{N:Nat}{x:Bool}(h:Inv k i N x):k.a.length≤262144∧k.b.length≤262144:=⟨h.la,h.lb⟩
theorem Inv.fits{k:KS}{i:KI}{N:Nat}{x:Bool}(h:Inv k i N x)(hN:N≤1000000):k.fits 524288:=by
 have h1:=h.lens
 have h2:=h.head.len
 exact⟨by omega,by omega,by omega,by have:=h.pw;omega⟩
theorem Inv.okP{k:KS}{i:KI}{N:Nat}{x:Bool}(h:Inv k i N x)(hN:N≤1000000):k.okP:=by
 have h1:=h.lens
 have h2:=h.head.len
 exact⟨h2,by omega,by omega,h.pw.1⟩
theorem Inv.read{k:KS}{i:KI}{N:Nat}{x:Bool}(h:Inv k i N x):pK k=some i:=by
 obtain⟨t,a,b,_⟩:=h.area
 exact aTb h.head.epoch a b h.wf
theorem aVs{k:KS}{e size:Nat}(hp:k.power≠0):(jV k e size).area e=(k.area e).take size:=by
 unfold jV
 rw[kP,rI,oK,if_neg hp]
theorem Inv.cut{k:KS}{i:KI}{N:Nat}{x:Bool}(h:Inv k i N x)(hp:k.power≠0):Inv (jV k i.epoch i.size) i N true:=by
 obtain⟨t,a,b,_⟩:=h.area
 have e1:(jV k i.epoch i.size).area i.epoch=qH i:=by
  rw[aVs hp,a,h.wf.size,List.take_left']
  rfl
 have hle:∀e,((jV k i.epoch i.size).area e).length≤262144:=by
  have h1:∀xs:Bs,xs.length≤262144→(oK xs k.power i.size).length≤262144:=fun xs hx=>by
   unfold oK;split
   ·exact hx
   ·simp;omega
  intro e
  by_cases he:i.epoch%2=e%2
  ·have e2:(jV k i.epoch i.size).area e=(jV k i.epoch i.size).area i.epoch:=by unfold KS.area;rw[he]
   rw[e2]
   unfold jV
   rw[kP,rI]
   exact h1 _ (sE (P:=fun z=>z.length≤_) h.la h.lb _)
  ·unfold jV
   rw[kP,nQ _ he]
   exact sE (P:=fun z=>z.length≤_) h.la h.lb _
 refine⟨?_,⟨[],by rw[e1,List.append_nil],yD _,fun _=>rfl⟩,h.wf,h.eN,h.nN,h.sz,h.sm,hle 0,hle 1,h.st,h.rs,?_⟩
 ·show jU (k.setArea _ _).head _
  rw[rV];exact h.head
 ·show-1≤kW _ _ _∧kW _ _ _≤1000
  have:=h.pw
  unfold kW fX
  split<;>(try split)<;>omega
theorem sK{p:Int}{m:Nat}(h: -1≤p∧p≤1000): -1≤pl p m∧pl p m≤1000:=by unfold pl;split<;>omega
theorem aQo{i:KI}{bs:Bs}(wf:WF i):qH (apI i bs)=qH i++bR i.epoch i.next bs:=by
 have h1:(apI i bs).next-(apI i bs).recs.length=i.next-i.recs.length:=by simp[apI]
 have h2:=aNb i.epoch bs i.recs (i.next-i.recs.length)
 have h3:i.next-i.recs.length+i.recs.length=i.next:=by have:=wf.next;omega
 rw[h3]at h2
 unfold qH
 rw[h1]
 show _++lS i.epoch _ (i.recs++[bs])=_
 rw[h2,List.append_assoc]
 rfl
theorem bHv{i:KI}{bs:Bs}(wf:WF i)(hn:i.next<4611686018427387904)(hb:bs.length≤470):WF (apI i bs):=by
 refine⟨?_,?_,fun h=> ?_,?_,wf.state,?_⟩
 ·rw[aQo wf,List.length_append,←wf.size];rfl
 ·have:=wf.next;simp[apI];omega
 ·have:=wf.zero h;simp[apI];exact this
 ·show i.next+1≤_;omega
 ·intro b hb'
  rcases List.mem_append.1 hb' with h|h
  ·exact wf.recs b h
  ·simp at h;subst h;omega
theorem aCy{k:KS}{i:KI}{bs:Bs}(ha:k.area i.epoch=qH i)(wf:WF i):(apS k i bs).area i.epoch=qH i++(bR i.epoch i.next bs).take (Jn.pw k.power (bR i.epoch i.next bs).length):=by
 unfold apS sR
 rw[kP,rI,tH,ha,wf.size,aJm]
theorem Inv.apLen{k:KS}{i:KI}{N:Nat}{bs:Bs}(h:Inv k i N true)(hr:i.size+24+bs.length≤262144)(e:Nat):((apS k i bs).area e).length≤262144:=by
 have hl:=dM i.epoch i.next bs
 by_cases he:i.epoch%2=e%2
 ·have e2:(apS k i bs).area e=(apS k i bs).area i.epoch:=by unfold KS.area;rw[he]
  rw[e2,aCy h.exact h.wf,List.length_append,←h.wf.size]
  have:=h.sz
  simp;omega
 ·unfold apS sR
  rw[kP,nQ _ he]
  have:=sE (P:=fun z=>z.length≤_) h.la h.lb e
  omega
theorem Inv.ap_ok{k:KS}{i:KI}{N:Nat}{bs:Bs}(h:Inv k i N true)(hN:N≤1000000)(hb:bs.length≤470)(hr:i.size+24+bs.length≤262144)(hok:yH k i bs):Inv (apS k i bs) (apI i bs) (N+1) true:=by
 have hl:=dM i.epoch i.next bs
 refine⟨?_,⟨[],?_,yD _,fun _=>rfl⟩,bHv h.wf (by have:=h.nN;omega) hb,by have:=h.eN;show i.epoch≤_;omega,by have:=h.nN;show i.next+1≤_;omega,?_,?_,h.apLen hr 0,h.apLen hr 1,h.st,?_,sK h.pw⟩
 ·show jU (k.setArea _ _).head _
  rw[rV];exact h.head
 ·rw[List.append_nil,aQo h.wf]
  show(apS k i bs).area i.epoch=_
  rw[aCy h.exact h.wf]
  have:Jn.pw k.power (bR i.epoch i.next bs).length=(bR i.epoch i.next bs).length:=hok
  rw[this,List.take_length]
 ·have:=h.sz;show i.size+_≤_;omega
 ·show i.size+_≤_;omega
 ·intro b hb'
  rcases List.mem_append.1 hb' with h'|h'
  ·exact h.rs b h'
  ·simp at h';subst h';exact hb
theorem Inv.ap_no{k:KS}{i:KI}{N:Nat}{bs:Bs}(h:Inv k i N true)(hb:bs.length≤65536)(hr:i.size+24+bs.length≤262144)(hok:¬yH k i bs):Inv (apS k i bs) i (N+1) false:=by
 have hl:=dM i.epoch i.next bs
 refine⟨?_,⟨_,aCy h.exact h.wf,?_,fun e=>by cases e⟩,h.wf,by have:=h.eN;omega,by have:=h.nN;omega,by have:=h.sz;omega,h.sm,h.apLen hr 0,h.apLen hr 1,h.st,h.rs,sK h.pw⟩
 ·show jU (k.setArea _ _).head _
  rw[rV];exact h.head
 ·refine aTe (by omega) ?_
  have h1:Jn.pw k.power (bR i.epoch i.next bs).length≠(bR i.epoch i.next bs).length:=hok
  have h2:Jn.pw k.power (bR i.epoch i.next bs).length≤(bR i.epoch i.next bs).length:=by unfold Jn.pw;split<;>omega
  omega
theorem aPv{k:KS}{e:Nat}(h:mV k e):(wB k e).area e=[]:=by
 unfold wB jV
 rw[kP,rI,oK]
 split
 ·rename_i hp
  rcases h with h|h
  ·exact List.eq_nil_of_length_eq_zero (by omega)
  ·exact absurd hp h
 ·simp
theorem aMn{k:KS}{e e':Nat}(h:e%2≠e'%2):(wB k e).area e'=k.area e':=by
 unfold wB jV
 rw[kP,nQ _ h]
theorem aPw(k:KS)(e:Nat):(wB k e).head=k.head:=by
 show(k.setArea _ _).head=_
 rw[rV]
theorem aFl{k:KS}{e n:Nat}{bs:Bs}(h:mV k e):(oI k e n bs).area e=(bR e n bs).take (Jn.pw (wB k e).power (bR e n bs).length):=by
 unfold oI sR
 rw[kP,rI,tH,aPv h]
 have:=aJm (bs:=(bR e n bs).take (Jn.pw (wB k e).power (bR e n bs).length)) (xs:=[])
 simpa using this
theorem aBf{k:KS}{e e' n:Nat}{bs:Bs}(h:e%2≠e'%2):(oI k e n bs).area e'=k.area e':=by
 unfold oI sR
 rw[kP,nQ _ h,aMn h]
theorem aFm(k:KS)(e n:Nat)(bs:Bs):(oI k e n bs).head=k.head:=by
 show((wB k e).setArea _ _).head=_
 rw[rV,aPw]
theorem aPx(k:KS)(e n:Nat)(bs:Bs)(e':Nat):(oJ k e n bs).area e'=(oI k e n bs).area e':=by
 unfold oJ;simp only;split<;>rfl
theorem yN(k:KS)(e n:Nat)(bs:Bs)(e':Nat):(ck4 k e n bs).area e'=(oI k e n bs).area e':=by
 rw[←aPx];rfl
theorem xR{k:KS}{e n:Nat}{bs:Bs}(h: -1≤k.power∧k.power≤1000):(-1≤(wB k e).power∧(wB k e).power≤1000)∧(-1≤(oI k e n bs).power∧(oI k e n bs).power≤1000)∧(-1≤(ck4 k e n bs).power∧(ck4 k e n bs).power≤1000):=by
 have h1: -1≤(wB k e).power∧(wB k e).power≤1000:=by
  show-1≤kW _ _ _∧kW _ _ _≤1000
  unfold kW fX
  split<;>(try split)<;>omega
 have h2: -1≤(oI k e n bs).power∧(oI k e n bs).power≤1000:=sK h1
 have h3:(oJ k e n bs).power=(oI k e n bs).power:=by unfold oJ;simp only;split<;>rfl
 exact⟨h1,h2,by show-1≤pl (oJ k e n bs).power _∧pl (oJ k e n bs).power _≤1000;rw[h3];exact sK h2⟩
theorem bHw{i:KI}{bs:Bs}(wf:WF i)(hb:bs.length≤43300):WF (uI i bs):=by
 refine⟨?_,by simp[uI],fun h=>by simp[uI]at h,wf.big,by show bs.length≤_;omega,fun b h=>by simp[uI]at h⟩
 unfold qH
 rw[if_neg (by simp[uI])]
 show 24+bs.length=_
 rw[List.length_append,dM,nW]
 simp[uI,bK]
theorem bBm(i:KI)(bs:Bs):qH (uI i bs)=bR ((i.epoch+1:Nat):Int) i.next bs:=by
 unfold qH
 rw[if_neg (by simp[uI])]
 show bR ((i.epoch+1:Nat):Int) ((i.next-0:Nat):Int) bs++lS (i.epoch+1) _ []=_
 rw[oZ,List.append_nil,Nat.sub_zero]
theorem Inv.ckLen{k:KS}{i:KI}{N:Nat}{bs:Bs}(h:Inv k i N true)(hb:bs.length≤43300)(h1:mV k (i.epoch+1))(e:Nat):((oI k (i.epoch+1) i.next bs).area e).length≤262144:=by
 have hl:=dM ((i.epoch+1:Nat):Int) i.next bs
 by_cases he:(i.epoch+1)%2=e%2
 ·have e2:(oI k (i.epoch+1) i.next bs).area e=(oI k (i.epoch+1) i.next bs).area (i.epoch+1):=by unfold KS.area;rw[he]
  rw[e2,aFl h1,List.length_take]
  omega
 ·rw[aBf he]
  have:=sE (P:=fun z=>z.length≤_) h.la h.lb e
  omega
theorem Inv.ck3head{k:KS}{i:KI}{N:Nat}{bs:Bs}(h:Inv k i N true):jU (oJ k (i.epoch+1) i.next bs).head i.epoch∧(oJ k (i.epoch+1) i.next bs).head.length=32:=by
 have e1:=aFm k (i.epoch+1) i.next bs
 by_cases h0:(oI k (i.epoch+1) i.next bs).head.length=0
 ·have e2:(oJ k (i.epoch+1) i.next bs).head=List.replicate 32 0:=by unfold oJ;simp only;rw[if_pos h0]
  have e3:i.epoch=0:=by
   rcases h.head with⟨_,h2⟩|⟨_,_,_,_,_,_,a,b,c,_⟩
   ·exact h2
   ·rw[e1,c,nB a b]at h0;omega
  rw[e2,e3]
  exact⟨aPa,by simp⟩
 ·have e2:(oJ k (i.epoch+1) i.next bs).head=k.head:=by unfold oJ;simp only;rw[if_neg h0,e1]
  rw[e2]
  refine⟨h.head,?_⟩
  rcases h.head.len with h3|h3
  ·rw[e1]at h0;omega
  ·exact h3
theorem Inv.ck_base{k k':KS}{i:KI}{N:Nat}{bs:Bs}(h:Inv k i N true)(hb:bs.length≤43300)(h1:mV k (i.epoch+1))(hk:∀e,k'.area e=(oI k (i.epoch+1) i.next bs).area e)(hh:jU k'.head i.epoch)(hp: -1≤k'.power∧k'.power≤1000):Inv k' i (N+1) false:=
 ⟨hh,⟨[],by rw[hk,aBf (by omega),h.exact,List.append_nil],yD _,fun e=>by cases e⟩,h.wf,by have:=h.eN;omega,by have:=h.nN;omega,by have:=h.sz;omega,h.sm,by rw[hk];exact h.ckLen hb h1 0,by rw[hk];exact h.ckLen hb h1 1,h.st,h.rs,hp⟩
theorem Inv.ck_new{k k':KS}{i:KI}{N:Nat}{bs:Bs}(h:Inv k i N true)(hN:N≤1000000)(hb:bs.length≤43300)(h1:mV k (i.epoch+1))(h2:qU k (i.epoch+1) i.next bs)(hk:∀e,k'.area e=(oI k (i.epoch+1) i.next bs).area e)(hh:jU k'.head (i.epoch+1))(hp: -1≤k'.power∧k'.power≤1000):Inv k' (uI i bs) (N+1) true:=by
 have e1:k'.area (i.epoch+1)=qH (uI i bs):=by
  rw[hk,aFl h1,bBm]
  have:Jn.pw (wB k (i.epoch+1)).power (bR ((i.epoch+1:Nat):Int) i.next bs).length=(bR ((i.epoch+1:Nat):Int) i.next bs).length:=h2
  rw[this,List.take_length]
 refine⟨hh,⟨[],by rw[List.append_nil];exact e1,yD _,fun _=>rfl⟩,bHw h.wf hb,?_,?_,?_,?_,by rw[hk];exact h.ckLen hb h1 0,by rw[hk];exact h.ckLen hb h1 1,hb,fun b h=>by simp[uI]at h,hp⟩
 ·have:=h.eN;show i.epoch+1≤_;omega
 ·have:=h.nN;show i.next≤_;omega
 ·show 24+bs.length≤_;omega
 ·show 24+bs.length≤_;omega
theorem yP(e:Nat):(kZ e).length=16:=by simp[kZ,bX]
theorem Inv.ck_ok{k:KS}{i:KI}{N:Nat}{bs:Bs}(h:Inv k i N true)(hN:N≤1000000)(he:i.epoch<250)(hb:bs.length≤43300)(hok:qB k (i.epoch+1) i.next bs):Inv (pU k (i.epoch+1) i.next bs) (uI i bs) (N+1) true:=by
 obtain⟨h1,h2,h3⟩:=hok
 rw[pU,if_pos h1,if_pos h2]
 obtain⟨g1,g2⟩:=h.ck3head (bs:=bs)
 have hw:=yW (q:=Jn.pw (oJ k (i.epoch+1) i.next bs).power (kZ (i.epoch+1)).length) g1 g2 (by omega) (by rw[yP];unfold Jn.pw;split<;>omega)
 have h16:Jn.pw (oJ k (i.epoch+1) i.next bs).power (kZ (i.epoch+1)).length=16:=by
  have:Jn.pw (oJ k (i.epoch+1) i.next bs).power (kZ (i.epoch+1)).length=(kZ (i.epoch+1)).length:=h3
  rw[this,yP]
 exact h.ck_new hN hb h1 h2 (yN k _ _ _) (hw.2 h16) (xR h.pw).2.2
theorem Inv.ck_no{k:KS}{i:KI}{N:Nat}{bs:Bs}(h:Inv k i N true)(hN:N≤1000000)(he:i.epoch<250)(hb:bs.length≤43300)(hok:¬qB k (i.epoch+1) i.next bs):Inv (pU k (i.epoch+1) i.next bs) i (N+1) false∨Inv (pU k (i.epoch+1) i.next bs) (uI i bs) (N+1) false:=by
 by_cases h1:mV k (i.epoch+1)
 ·by_cases h2:qU k (i.epoch+1) i.next bs
  ·rw[pU,if_pos h1,if_pos h2]
   obtain⟨g1,g2⟩:=h.ck3head (bs:=bs)
   have hw:=yW (q:=Jn.pw (oJ k (i.epoch+1) i.next bs).power (kZ (i.epoch+1)).length) g1 g2 (by omega) (by rw[yP];unfold Jn.pw;split<;>omega)
   rcases hw.1 with hh|hh
   ·exact .inl (h.ck_base hb h1 (yN k _ _ _) hh (xR h.pw).2.2)
   ·exact .inr (h.ck_new hN hb h1 h2 (yN k _ _ _) hh (xR h.pw).2.2).weak
  ·rw[pU,if_pos h1,if_neg h2]
   exact .inl (h.ck_base hb h1 (fun _=>rfl) (by rw[aFm];exact h.head) (xR h.pw).2.1)
 ·rw[pU,if_neg h1]
  exact .inl (h.weak.mono (by omega))
theorem aNh{p:Int}(h: -1≤p∧p≤1000):Inv ⟨[],[],[],p⟩ ⟨0,0,[],[],0⟩ 0 true:=
 ⟨.inl ⟨rfl,rfl⟩,⟨[],by simp[KS.area,qH,oZ],by decide+kernel,fun _=>rfl⟩,⟨by decide,by decide,fun _=>⟨rfl,rfl⟩,by decide,by decide,by simp⟩,by decide,by decide,by decide,by decide,by simp[KS.area],by simp[KS.area],by decide,by simp,h⟩
end Go.Jn
namespace Go.Td
open Go Go.Sl Go.Proofs Go.Jn
def gV:KHs:=⟨⟨[],[],0,zeroA⟩,fun _=>none⟩
noncomputable def eJ (X:KHs) (au nu:Int) (al:List KAct):KHs:=⟨(aE X.s al).1,fun a=>if a=au then some ⟨⟨au,nu,al⟩,(aE X.s al).2⟩else X.done a⟩
abbrev wF(al:List KAct):Prop:=∀x∈al,x.hold≤9223372036854775807
structure MemOk(a:Int)(m:KMem)(last:Int):Prop where
 au:m.d.author=a
 fm:cO a m.d.number m.d.acts=true
 hb:wF m.d.acts
 r:ResOk m.r last
structure XOk(X:KHs):Prop where
 g:Good2 X.s
 m:∀a m,X.done a=some m→MemOk a m X.s.last
theorem fJ{au nu:Int}{xs:List KAct}:cO au nu xs=true↔(1≤au∧au≤64)∧(1≤nu∧nu≤1099511627776)∧(1≤xs.length∧xs.length≤16)∧∀x∈xs,x.formed=true:=by
 unfold cO
 simp only[Bool.and_eq_true,decide_eq_true_eq,Bool.not_eq_true',List.any_eq_false,Bool.not_eq_true,Bool.not_eq_false']
 constructor
 ·rintro⟨⟨⟨⟨⟨⟨a,b⟩,c⟩,d⟩,e⟩,f⟩,g⟩
  exact⟨⟨a,b⟩,⟨c,d⟩,⟨by omega,by omega⟩,fun x hx=>by simpa using g x hx⟩
 ·rintro⟨⟨a,b⟩,⟨c,d⟩,⟨e,f⟩,g⟩
  exact⟨⟨⟨⟨⟨⟨a,b⟩,c⟩,d⟩,by omega⟩,by omega⟩,fun x hx=>by simpa using g x hx⟩
theorem pC:XOk gV:=⟨⟨⟨by simp[gV],by simp[gV],fun p hp=>by cases hp⟩,⟨by simp[gV],by simp[gV],fun p hp=>by cases hp⟩,Int.le_refl _,by unfold gV nK vP KAm.add zeroA;rfl⟩,fun a m h=>by cases h⟩
theorem wA{X:KHs}(h:XOk X){au nu:Int}{al:List KAct}(hf:cO au nu al=true)(hh:wF al):XOk (eJ X au nu al)∧(eJ X au nu al).s.last≤X.s.last+16∧X.s.last≤(eJ X au nu al).s.last∧ResOk (aE X.s al).2 (eJ X au nu al).s.last:=by
 obtain⟨h1,h2,h3,h4⟩:=fJ.1 hf
 obtain⟨g1,g2,g3,g4,_⟩:=aFg h.g h4 h3.2
 refine⟨⟨g1,fun a m hm=> ?_⟩,by show(aE X.s al).1.last≤_;omega,g3,g4⟩
 by_cases e:a=au
 ·subst e
  have hm:(if a=a then some (⟨⟨a,nu,al⟩,(aE X.s al).2⟩:KMem)else X.done a)=some m:=hm
  rw[if_pos rfl]at hm;injection hm with hm;subst hm
  exact⟨rfl,hf,hh,g4⟩
 ·have hm:(if a=au then some (⟨⟨au,nu,al⟩,(aE X.s al).2⟩:KMem)else X.done a)=some m:=hm
  rw[if_neg e]at hm
  have:=h.m a m hm
  exact⟨this.au,this.fm,this.hb,this.r.le g3⟩
structure EqX(X Y:KHs):Prop where
 s:EqS X.s Y.s
 d:X.done=Y.done
theorem EqX.symm{X Y:KHs}(h:EqX X Y):EqX Y X:=⟨h.s.symm,h.d.symm⟩
theorem EqX.trans{X Y Z:KHs}(h:EqX X Y)(g:EqX Y Z):EqX X Z:=⟨h.s.trans g.s,h.d.trans g.d⟩
theorem XOk.refl{X:KHs}(h:XOk X):EqX X X:=⟨h.g.refl,rfl⟩
theorem aMl{X Y:KHs}(h:EqX X Y)(au nu:Int)(al:List KAct):EqX (eJ X au nu al) (eJ Y au nu al):=by
 obtain⟨h1,h2⟩:=yK h.s al
 refine⟨h1,funext fun a=> ?_⟩
 show(if _ then _ else _)=(if _ then _ else _)
 rw[h2,h.d]
theorem EqX.ok{X Y:KHs}(h:EqX X Y)(g:XOk Y):XOk X:=⟨h.s.good2 g.g,fun a m hm=>by rw[h.s.l];exact g.m a m (by rw[←h.d];exact hm)⟩
def qX:List (Int×KAm)→List Bool
 |[]=>[]
 |p::l=>aM (U p.1) 17++(lZ p.2 31++qX l)
def sV:List (Int×KHo)→List Bool
 |[]=>[]
 |p::l=>aM (U p.1) 48++(aM (U p.2.owner) 17++(lZ p.2.a 31++sV l))
def nsL:List Int→List Bool
 |[]=>[]
 |n::l=>aM (U n) 48++nsL l
def xK(m:KMem):List Bool:=kR m.d.author m.d.number m.d.acts++(aM (U (m.r.holds.length:Int)) 9++(nsL m.r.holds++(aM (U m.r.at_) 9++aM (U m.r.e) 16)))
def tF:List (Int×KMem)→List Bool
 |[]=>[]
 |p::l=>xK p.2++tF l
def gR(su:KAm)(last:Int)(ps:List (Int×KAm))(hs:List (Int×KHo))(ms:List (Int×KMem)):List Bool:=
 lZ su 63++(aM (U last) 48++(aM (U (ps.length:Int)) 9++(qX ps++(aM (U (hs.length:Int)) 9++(sV hs++(aM (U (ms.length:Int)) 9++tF ms))))))
structure MsOf(X:KHs)(ms:List (Int×KMem)):Prop where
 nd:(ms.map (·.1)).Nodup
 mem:∀a m,X.done a=some m↔(a,m)∈ms
def StB(X:KHs)(bs:Bs):Prop:=∃ps hs ms,X.s.ps.Perm ps∧X.s.hs.Perm hs∧MsOf X ms∧∃n,Wr bs n (gR X.s.su X.s.last ps hs ms)
abbrev aNu(d:KDeal):Bs:=fI d.author d.number d.acts [] 0
noncomputable def iH (X:KHs) (ds:List KDeal):KHs:=ds.foldl (fun X d=>eJ X d.author d.number d.acts) X
abbrev okD(ds:List KDeal):Prop:=∀d∈ds,cO d.author d.number d.acts=true∧wF d.acts
structure Img(i:KI)(X:KHs)(X0:KHs)(ds:List KDeal):Prop where
 st:(i.state=[]∧X0=gV)∨(i.state≠[]∧StB X0 i.state)
 x0:XOk X0
 recs:i.recs=ds.map aNu
 ok:okD ds
 x:EqX X (iH X0 ds)
theorem xA(X:KHs)(ds:List KDeal)(d:KDeal):iH X (ds++[d])=eJ (iH X ds) d.author d.number d.acts:=by unfold iH;rw[List.foldl_append];rfl
theorem Img.ap{i:KI}{X X0:KHs}{ds:List KDeal}(h:Img i X X0 ds){au nu:Int}{al:List KAct}(hf:cO au nu al=true)(hh:wF al):Img (apI i (fI au nu al [] 0)) (eJ X au nu al) X0 (ds++[⟨au,nu,al⟩]):=
 ⟨h.st,h.x0,by show i.recs++_=_;rw[h.recs,List.map_append];rfl,fun d hd=>by
  rcases List.mem_append.1 hd with hd|hd
  ·exact h.ok d hd
  ·rw[List.mem_singleton.1 hd];exact⟨hf,hh⟩,by rw[xA];exact aMl h.x _ _ _⟩
theorem Img.ck{i:KI}{X X0:KHs}{ds:List KDeal}(h:Img i X X0 ds)(hx:XOk X){bs:Bs}(hb:StB X bs)(h0:bs≠[]):Img (uI i bs) X X []:=
 ⟨.inr ⟨h0,hb⟩,hx,rfl,fun d hd=>(by cases hd),hx.refl⟩
structure SOk(X:KHs)(i:KI)(k:KS)(N W:Nat)(x:Bool):Prop where
 inv:Inv k i N x
 ep:i.epoch*218000+i.size≤W
 img:∃X0 ds,Img i X X0 ds
 ok:XOk X
 last:X.s.last≤16*N
def mC(S:Nat)(X:KHs)(N W:Nat)(p:Int):bU:=fun h=>∃i k,SOk X i k N W false∧k.power=p∧jE [aQ S k] h
abbrev aQy(J mp mh mm:Nat)(s:KSt)(dn:Bool):Array Value:= #[.pointer (some ⟨J,0,none⟩),.map (some mp),.map (some mh),Ix s.last,Ix s.su.a0,Ix s.su.a1,Ix s.su.a2,Ix s.su.a3,.map (some mm),.bool dn]
abbrev hL(H S J mp mh mm:Nat)(s:KSt)(ms:List (Int×KMh))(zs:List (KMh×KMem))(i:KI)(k:KS)(jd dn:Bool):List bU:=[pt H (.cells (aQy J mp mh mm s dn) 91),fA J S i jd,aQ S k,bB cC mp s.ps,bB bL mh s.hs,bB dW mm ms,dG zs]
structure HdOf(z:KMh×KMem):Prop where
 au:z.1.author=z.2.d.author
 nu:z.1.number=z.2.d.number
 n:z.1.n=z.2.d.acts.length
 dn:z.1.done=z.2.r.done
 at_:z.1.at_=z.2.r.at_
 e:z.1.e=z.2.r.e
 m:z.1.m=z.2.r.holds.length
structure MmOk(X:KHs)(ms:List (Int×KMh))(zs:List (KMh×KMem)):Prop where
 none_:∀a,dW.look ms a=none→X.done a=none
 some_:∀a h,dW.look ms a=some h→∃m,(h,m)∈zs∧X.done a=some m
 hdr:∀z∈zs,HdOf z
structure HOk(X:KHs)(s:KSt)(ms:List (Int×KMh))(zs:List (KMh×KMem))(i:KI)(k:KS)(N W:Nat):Prop where
 eq:EqS s X.s
 so:SOk X i k N W true
 mm:MmOk X ms zs
def cV(H S:Nat)(X:KHs)(N W:Nat)(p:Int):bU:=fun h=>∃J mp mh mm s ms zs i k,HOk X s ms zs i k N W∧k.power=p∧jE (hL H S J mp mh mm s ms zs i k false false) h
theorem St.openHouse{β:Base}{H S N W:Nat}{p:Int}{X:KHs}{M:List bU}{w:World}(h:St β (cV H S X N W p::M) w):∃J mp mh mm s ms zs i k,HOk X s ms zs i k N W∧k.power=p∧St β (hL H S J mp mh mm s ms zs i k false false++M) w:=by
 obtain⟨ho,ht,hp,a,hd,hs,hs',q,r,h1,h2,h3,⟨J,mp,mh,mm,s,ms,zs,i,k,hk,hw,hx⟩,h5⟩:=h
 exact⟨J,mp,mh,mm,s,ms,zs,i,k,hk,hw,St.unbun ⟨ho,ht,hp,a,hd,hs,hs',q,r,h1,h2,h3,hx,h5⟩⟩
theorem St.closeHouse{β:Base}{H S N W J mp mh mm:Nat}{X:KHs}{s:KSt}{ms:List (Int×KMh)}{zs:List (KMh×KMem)}{i:KI}{k:KS}{M:List bU}{w:World}(hk:HOk X s ms zs i k N W){p:Int}(hp:k.power=p)(h:St β (hL H S J mp mh mm s ms zs i k false false++M) w):St β (cV H S X N W p::M) w:=
 h.merge fun _ h=>⟨J,mp,mh,mm,s,ms,zs,i,k,hk,hp,h⟩
theorem St.openShelf{β:Base}{S N W:Nat}{p:Int}{X:KHs}{M:List bU}{w:World}(h:St β (mC S X N W p::M) w):∃i k,SOk X i k N W false∧k.power=p∧St β (aQ S k::M) w:=by
 obtain⟨ho,ht,hp,a,hd,hs,hs',q,r,h1,h2,h3,⟨i,k,hk,hw,hx⟩,h5⟩:=h
 exact⟨i,k,hk,hw,St.unbun ⟨ho,ht,hp,a,hd,hs,hs',q,r,h1,h2,h3,hx,h5⟩⟩
theorem St.closeShelf{β:Base}{S N W:Nat}{X:KHs}{i:KI}{k:KS}{M:List bU}{w:World}(hk:SOk X i k N W false){p:Int}(hp:k.power=p)(h:St β (aQ S k::M) w):St β (mC S X N W p::M) w:=
 St.merge (L:=[aQ S k]) h fun _ h=>⟨i,k,hk,hp,h⟩
section
variable {P:Program}{ro:Option Nat}{n:Nat}{ds:List Deferred}{β:Base}{Q:Exit→Act→World→Prop}{f:Fm}{L:List bU}
end
theorem aVd{k:KS}{i:KI}{bs:Bs}(h:k.power= -1):yH k i bs:=by unfold yH kV Jn.pw;rw[h];rfl
theorem aPj{k:KS}{i:KI}{bs:Bs}(h:k.power= -1):(apS k i bs).power= -1:=by
 show pl k.power _= -1
 unfold pl;rw[h];rfl
theorem rS{au nu:Int}{al:List KAct}(hf:cO au nu al=true):(fI au nu al [] 0).length≤470:=by
 rw[aBg (n:=0) rfl]
 have:=(fJ.1 hf).2.2.1
 omega
theorem aWu{l:Int}{N:Nat}(h:l≤16*(N:Int)):l≤16*((N+1:Nat):Int):=by push_cast;omega
theorem SOk.room{X:KHs}{i:KI}{k:KS}{N W:Nat}{x:Bool}(h:SOk X i k N W x)(hN:N≤1000000){bs:Bs}(hb:bs.length≤470)(hr:i.size+24+bs.length≤262144):
  bs.length≤65536∧k.fits 524288∧i.next≤4611686018427387904∧i.size≤262144∧i.recs.length≤1048576∧i.size+24+bs.length≤262144∧i.next≠4611686018427387904:=by
 have h1:=h.inv.nN;have h2:=h.inv.sm;have h3:=h.inv.wf.next
 exact⟨by omega,h.inv.fits hN,by omega,by omega,by omega,by omega,by omega⟩
theorem SOk.small{X:KHs}{i:KI}{k:KS}{N W:Nat}{x:Bool}(h:SOk X i k N W x)(hN:N≤400){bs:Bs}(hb:bs.length≤470):i.size+24+bs.length≤262144:=by have:=h.inv.sz;omega
theorem SOk.weak{X:KHs}{i:KI}{k:KS}{N W:Nat}{x:Bool}(h:SOk X i k N W x):SOk X i k N W false:=⟨h.inv.any,h.ep,h.img,h.ok,h.last⟩
theorem SOk.mono{X:KHs}{i:KI}{k:KS}{N M W V:Nat}{x:Bool}(h:SOk X i k N W x)(hM:N≤M)(hV:W≤V):SOk X i k M V x:=⟨h.inv.mono hM,Nat.le_trans h.ep hV,h.img,h.ok,by have:=h.last;omega⟩
theorem bDr{i:KI}{W:Nat}{bs:Bs}(h:i.epoch*218000+i.size≤W)(hb:bs.length≤470):(apI i bs).epoch*218000+(apI i bs).size≤W+494:=by
 have q:(apI i bs).size=i.size+(24+bs.length):=congrArg (i.size+ ·) (dM i.epoch i.next bs)
 have q2:(apI i bs).epoch=i.epoch:=rfl
 rw[q,q2];omega
theorem SOk.ap{X:KHs}{i:KI}{k:KS}{N W:Nat}(h:SOk X i k N W true)(hN:N≤1000000){au nu:Int}{al:List KAct}(hf:cO au nu al=true)(hh:wF al)(hr:i.size+24+(fI au nu al [] 0).length≤262144)(ha:yH k i (fI au nu al [] 0)):
  SOk (eJ X au nu al) (apI i (fI au nu al [] 0)) (apS k i (fI au nu al [] 0)) (N+1) (W+494) true:=by
 obtain⟨X0,ds,hi⟩:=h.img
 obtain⟨h1,h2,_⟩:=wA h.ok (nu:=nu) hf hh
 have e1:=h.inv.ap_ok hN (rS hf) hr ha
 have e2:=bDr h.ep (rS hf)
 exact⟨e1,e2,⟨X0,_,hi.ap hf hh⟩,h1,by have:=h.last;push_cast;omega⟩
theorem SOk.ap_no{X:KHs}{i:KI}{k:KS}{N W:Nat}(h:SOk X i k N W true){bs:Bs}(hr:i.size+24+bs.length≤262144)(hb:bs.length≤65536)(ha:¬yH k i bs):SOk X i (apS k i bs) (N+1) W false:=
 ⟨h.inv.ap_no hb hr ha,h.ep,h.img,h.ok,by have:=h.last;push_cast;omega⟩
theorem aZu{i:KI}{bs:Bs}(hb:bs.length≤43300):(uI i bs).epoch*218000+(uI i bs).size≤(i.epoch+1)*218000+43324:=by
 have q:(uI i bs).size=24+bs.length:=rfl
 have q2:(uI i bs).epoch=i.epoch+1:=rfl
 rw[q,q2];omega
theorem aPz{e s W:Nat}(h:e*218000+s≤W):(e+1)*218000+43324≤W+262144:=by
 rw[Nat.succ_mul]
 generalize e*218000=z at h⊢
 omega
theorem SOk.ck{X:KHs}{i:KI}{k:KS}{N W:Nat}(h:SOk X i k N W true)(hN:N≤1000000)(hW:W≤54000000){bs:Bs}(hb:bs.length≤43300)(hs:StB X bs)(h0:bs≠[])(hc:qB k (i.epoch+1) i.next bs):
  SOk X (uI i bs) (pU k (i.epoch+1) i.next bs) (N+1) ((i.epoch+1)*218000+43324) true:=by
 obtain⟨X0,ds,hi⟩:=h.img
 have he:i.epoch<250:=by have:=h.ep;omega
 have e1:=h.inv.ck_ok hN he hb hc
 exact⟨e1,aZu hb,⟨X,[],hi.ck h.ok hs h0⟩,h.ok,aWu h.last⟩
theorem SOk.ck_no{X:KHs}{i:KI}{k:KS}{N W:Nat}(h:SOk X i k N W true)(hN:N≤1000000)(hW:W≤54000000){bs:Bs}(hb:bs.length≤43300)(hs:StB X bs)(h0:bs≠[])(hc:¬qB k (i.epoch+1) i.next bs):
  ∃j,SOk X j (pU k (i.epoch+1) i.next bs) (N+1) (W+262144) false:=by
 obtain⟨X0,ds,hi⟩:=h.img
 have he:i.epoch<250:=by have:=h.ep;omega
 have hl:X.s.last≤16*((N+1:Nat):Int):=by have:=h.last;push_cast;omega
 rcases h.inv.ck_no hN he hb hc with hv|hv
 ·exact⟨i,hv,Nat.le_trans h.ep (by omega),⟨X0,ds,hi⟩,h.ok,hl⟩
 ·exact⟨uI i bs,hv,Nat.le_trans (aZu hb) (aPz h.ep),⟨X,[],hi.ck h.ok hs h0⟩,h.ok,hl⟩
theorem MmOk.add{X:KHs}{ms:List (Int×KMh)}{zs:List (KMh×KMem)}(h:MmOk X ms zs){au nu:Int}{al:List KAct}{hd:KMh}(hh:HdOf (hd,⟨⟨au,nu,al⟩,(aE X.s al).2⟩)):
  MmOk (eJ X au nu al) (dW.put ms au hd) (zs++[(hd,⟨⟨au,nu,al⟩,(aE X.s al).2⟩)]) where
 none_:=fun a ha=>by
  show(if a=au then(some ⟨⟨au,nu,al⟩,(aE X.s al).2⟩:Option KMem)else X.done a)=none
  by_cases e:a=au
  ·subst e;rw[zM]at ha;cases ha
  ·rw[aSv e]at ha
   rw[if_neg e]
   exact h.none_ a ha
 some_:=fun a g ha=>by
  show ∃m,_∧(if a=au then(some ⟨⟨au,nu,al⟩,(aE X.s al).2⟩:Option KMem)else X.done a)=some m
  by_cases e:a=au
  ·subst e
   rw[zM]at ha
   injection ha with ha;subst ha
   exact⟨_,List.mem_append_right _ (List.mem_singleton.2 rfl),if_pos rfl⟩
  ·rw[aSv e]at ha
   obtain⟨m,h1,h2⟩:=h.some_ a g ha
   exact⟨m,List.mem_append_left _ h1,by rw[if_neg e];exact h2⟩
 hdr:=fun z hz=>by
  rcases List.mem_append.1 hz with hz|hz
  ·exact h.hdr z hz
  ·rw[List.mem_singleton.1 hz];exact hh
theorem MmOk.found{X:KHs}{ms:List (Int×KMh)}{zs:List (KMh×KMem)}(h:MmOk X ms zs){au:Int}{m:KMem}(hm:X.done au=some m):∃hd,dW.look ms au=some hd∧(hd,m)∈zs∧HdOf (hd,m):=by
 cases e:dW.look ms au with
 |none=>rw[h.none_ au e]at hm;cases hm
 |some hd=>
  obtain⟨m',h1,h2⟩:=h.some_ au hd e
  rw[hm]at h2;injection h2 with h2;subst h2
  exact⟨hd,rfl,h1,h.hdr _ h1⟩
open Go Go.Sl Go.Proofs Go.Jn
structure LkOk(X:KHs)(ms:List (Int×KMh))(zs:List (KMh×KMem))(au:Int)(hd:KMh)(mal:List KAct)(mhl:List Int):Prop where
 yes:(dW.look ms au).isSome=true→∃m,X.done au=some m∧(hd,m)∈zs∧HdOf (hd,m)∧m.d.acts=mal∧m.r.holds=mhl
 no:(dW.look ms au).isSome=false→X.done au=none∧hd=xE∧mal=[]∧mhl=[]
theorem MmOk.lk{X:KHs}{ms:List (Int×KMh)}{zs:List (KMh×KMem)}(h:MmOk X ms zs)(au:Int):∃hd mal mhl,(dW.look ms au).getD xE=hd∧LkOk X ms zs au hd mal mhl∧hd.n=mal.length∧hd.m=mhl.length:=by
 cases e:dW.look ms au with
 |none=>exact⟨xE,[],[],rfl,⟨fun q=>(by rw[e]at q;cases q),fun _=>⟨h.none_ au e,rfl,rfl,rfl⟩⟩,rfl,rfl⟩
 |some hd=>
  obtain⟨m,h1,h2⟩:=h.some_ au hd e
  have hh:=h.hdr _ h1
  exact⟨hd,m.d.acts,m.r.holds,rfl,⟨fun _=>⟨m,h2,h1,hh,rfl,rfl⟩,fun q=>(by rw[e]at q;cases q)⟩,hh.n,hh.m⟩
section
variable {β:Base}{L:List bU}{X:KHs}{ms:List (Int×KMh)}{zs:List (KMh×KMem)}{au:Int}{hd:KMh}{mal:List KAct}{mhl:List Int}
theorem aLu{α:Type}(R:Rp α)(h:bQ):Sl R h (.slice none 0 0) []:=⟨none,0,rfl,Nat.le_refl _,by decide,fun j x hx=>by simp at hx⟩
theorem aZz(i:Nat)(hi:L[i]? =some (dG zs))(h:LkOk X ms zs au hd mal mhl):bH β L (fun q=>Sl cJ.R q (.slice hd.p hd.n hd.c) mal):=by
 cases e:(dW.look ms au).isSome with
 |true=>obtain⟨m,_,h1,_,rfl,_⟩:=h.yes e;exact bBz i hi h1
 |false=>obtain⟨_,rfl,rfl,_⟩:=h.no e;exact fun w _ hw=>aLu _ _
theorem aKp(i:Nat)(hi:L[i]? =some (dG zs))(h:LkOk X ms zs au hd mal mhl):bH β L (fun q=>Sl aZ.R q (.slice hd.q hd.m hd.k) mhl):=by
 cases e:(dW.look ms au).isSome with
 |true=>obtain⟨m,_,h1,_,_,rfl⟩:=h.yes e;exact bCa i hi h1
 |false=>obtain⟨_,rfl,_,rfl⟩:=h.no e;exact fun w _ hw=>aLu _ _
variable (h:LkOk X ms zs au hd mal mhl){nu:Int}{al:List KAct}
include h
theorem LkOk.few(hX:XOk X):mhl.length≤1048576:=by
 cases e:(dW.look ms au).isSome with
 |true=>obtain⟨m,h1,_,_,_,rfl⟩:=h.yes e;have:=(hX.m _ _ h1).r.hn;omega
 |false=>obtain⟨_,_,_,rfl⟩:=h.no e;decide
theorem aVu(hf:cO au nu al=false):sH X au nu al=(X,dR,2):=by have _:=h;exact if_pos hf
theorem aQh(hf:cO au nu al=true)(h1:(((dW.look ms au).isSome&&decide (hd.number=nu))&&decide (mal=al))=true):sH X au nu al=(X,⟨hd.done,hd.at_,hd.e,mhl⟩,0):=by
 simp only[Bool.and_eq_true,decide_eq_true_eq]at h1
 obtain⟨m,h2,_,h4,h5,h6⟩:=h.yes h1.1.1
 have e1:m.d.number=nu:=h4.nu.symm.trans h1.1.2
 have e2:m.r=⟨hd.done,hd.at_,hd.e,mhl⟩:=by
  have a:=h4.dn;have b:=h4.at_;have c:=h4.e
  cases hr:m.r
  rw[hr]at a b c h6
  simp only at a b c h6
  rw[a,b,c,←h6]
 unfold sH
 rw[if_neg (by rw[hf];decide),h2]
 show(if m.d.number=nu then(if m.d.acts=al then(X,m.r,(0:Int))else _)else _)=_
 rw[if_pos e1,if_pos (h5.trans h1.2),e2]
theorem aMw(hf:cO au nu al=true)(h1:¬(((dW.look ms au).isSome&&decide (hd.number=nu))&&decide (mal=al))=true)(h2:((dW.look ms au).isSome&&decide (hd.number=nu))=true):sH X au nu al=(X,dR,331):=by
 rw[h2]at h1
 simp only[Bool.and_eq_true,decide_eq_true_eq,true_and]at h1 h2
 obtain⟨m,h3,_,h4,h5,h6⟩:=h.yes h2.1
 unfold sH
 rw[if_neg (by rw[hf];decide),h3]
 show(if m.d.number=nu then(if m.d.acts=al then _ else(X,dR,(331:Int)))else _)=_
 rw[if_pos (h4.nu.symm.trans h2.2),if_neg (by rw[h5];exact h1)]
theorem aVv(hf:cO au nu al=true)(h1:¬((dW.look ms au).isSome&&decide (hd.number=nu))=true)(h2:((dW.look ms au).isSome&&decide (nu<hd.number))=true):sH X au nu al=(X,dR,332):=by
 simp only[Bool.and_eq_true,decide_eq_true_eq]at h1 h2
 obtain⟨m,h3,_,h4,h5,h6⟩:=h.yes h2.1
 have e:hd.number=m.d.number:=h4.nu
 unfold sH
 rw[if_neg (by rw[hf];decide),h3]
 show(if m.d.number=nu then _ else if nu<m.d.number then(X,dR,(332:Int))else _)=_
 rw[if_neg (by intro q;exact h1 ⟨h2.1,e.trans q⟩),if_pos (by rw[←e];exact h2.2)]
theorem aJy(hf:cO au nu al=true)(h1:¬((dW.look ms au).isSome&&decide (hd.number=nu))=true)(h2:¬((dW.look ms au).isSome&&decide (nu<hd.number))=true):sH X au nu al=(eJ X au nu al,(aE X.s al).2,0):=by
 unfold sH
 rw[if_neg (by rw[hf];decide)]
 cases e:(dW.look ms au).isSome with
 |true=>
  rw[e]at h1 h2
  simp only[Bool.true_and,decide_eq_true_eq]at h1 h2
  obtain⟨m,h3,_,h4,h5,h6⟩:=h.yes e
  have e:hd.number=m.d.number:=h4.nu
  rw[h3]
  show(if m.d.number=nu then _ else if nu<m.d.number then _ else _)=_
  rw[if_neg (by rw[←e];exact h1),if_neg (by rw[←e];exact h2)]
  rfl
 |false=>rw[(h.no e).1];rfl
end
theorem HOk.mono{X:KHs}{s:KSt}{ms:List (Int×KMh)}{zs:List (KMh×KMem)}{i:KI}{k:KS}{N M W V:Nat}(h:HOk X s ms zs i k N W)(hM:N≤M)(hV:W≤V):HOk X s ms zs i k M V:=⟨h.eq,h.so.mono hM hV,h.mm⟩
theorem HOk.goodS{X:KHs}{s:KSt}{ms:List (Int×KMh)}{zs:List (KMh×KMem)}{i:KI}{k:KS}{N W:Nat}(h:HOk X s ms zs i k N W)(hN:N≤1000000):GoodS s 1152921504606846976:=by
 have h1:=h.eq.l;have h2:=h.so.last
 exact(h.eq.good2 h.so.ok.g).good (by omega) (by decide)
theorem HOk.ap{X:KHs}{s z:KSt}{ro:KRes}{ms:List (Int×KMh)}{zs:List (KMh×KMem)}{i j:KI}{k q:KS}{N W M V:Nat}(h:HOk X s ms zs i k N W){au nu:Int}{al:List KAct}(hc:aE s al=(z,ro))(hs:SOk (eJ X au nu al) j q M V true){hd:KMh}(hh:HdOf (hd,⟨⟨au,nu,al⟩,ro⟩)):
  HOk (eJ X au nu al) z (dW.put ms au hd) (zs++[(hd,⟨⟨au,nu,al⟩,ro⟩)]) j q M V∧(aE X.s al).2=ro:=by
 obtain⟨h1,h2⟩:=yK h.eq al
 rw[hc]at h1 h2
 refine⟨⟨h1,hs,?_⟩,h2.symm⟩
 have h2:ro=(aE X.s al).2:=h2
 subst h2
 exact h.mm.add hh
end Go.Td
