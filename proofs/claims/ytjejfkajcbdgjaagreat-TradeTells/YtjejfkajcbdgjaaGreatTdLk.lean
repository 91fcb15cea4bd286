/-
  Own work; plain Lean (TdKind, TdDo, TdMl, TdMem, TdHouse, TdLk).
-/
import Derived.Test.YtjejfkajcbdgjaaGreatTd3
import Derived.Test.YtjejfkajcbdgjaaGreatSlDef
set_option linter.all false
namespace Go.Proofs
open Go Go.Sl Go.Td
theorem xZ:aJx Tryz.prog 110:=⟨Tryz.f110,Tryz.func110,by decide,by decide,by kernel_rfl,by kernel_rfl⟩
def fnV:Option Nat→Value|none=> .nilFunc|some n=> .func (.func n) #[] #[]
noncomputable def oI:MapK Tryz.prog Int (Option Nat) where
 t:=153
 kt:=5
 et:=150
 dec:=inferInstance
 enc:=fun x=> .int .u8 x
 encv:=fnV
 zv:=none
 ht:=by kernel_rfl
 hz:=by kernel_rfl
 chk:=fun e a w=>by
  unfold Instr.checkKey
  simp only[Sem.run_bind,run_underlying (show Tryz.prog.underlying 5=some (.int .u8) by kernel_rfl),Result.andThen_ok]
  rfl
 find:=qA (d:= .int .u8) (by kernel_rfl) fun a b=>congrArg some (show(a==b)=decide (a=b) by by_cases h:a=b<;>simp[h])
 bits:=fun a=>by unfold Instr.sameBits;simp
def yL:List (Int×Option Nat):=[(1,some 67),(2,some 68),(3,some 69),(4,some 70),(5,some 71),(6,some 72),(7,some 73)]
def kE:Value→Nat| .map (some b)=>b|_=>0
theorem aMu:oI.put (oI.put (oI.put (oI.put (oI.put (oI.put (oI.put [] 1 (some 67)) 2 (some 68)) 3 (some 69)) 4 (some 70)) 5 (some 71)) 6 (some 72)) 7 (some 73)=yL:=by rfl
theorem lH{x:KAct}(h:x.formed=true):(x.kind.toNat:Int)=1∨(x.kind.toNat:Int)=2∨(x.kind.toNat:Int)=3∨(x.kind.toNat:Int)=4∨(x.kind.toNat:Int)=5∨(x.kind.toNat:Int)=6∨(x.kind.toNat:Int)=7:=by
 unfold KAct.formed KAct.plain at h
 by_cases h1:(x.kind.toNat:Int)=1
 ·exact .inl h1
 by_cases h2:(x.kind.toNat:Int)=2
 ·exact .inr (.inl h2)
 by_cases h3:(x.kind.toNat:Int)=3
 ·exact .inr (.inr (.inl h3))
 by_cases h4:(x.kind.toNat:Int)=4
 ·exact .inr (.inr (.inr (.inl h4)))
 by_cases h5:(x.kind.toNat:Int)=5
 ·exact .inr (.inr (.inr (.inr (.inl h5))))
 by_cases h6:(x.kind.toNat:Int)=6
 ·exact .inr (.inr (.inr (.inr (.inr (.inl h6)))))
 by_cases h7:(x.kind.toNat:Int)=7
 ·exact .inr (.inr (.inr (.inr (.inr (.inr h7)))))
 ·simp[h1,h2,h3,h4,h5,h6,h7]at h
theorem cP{x:KAct}(h:x.formed=true):x.a.within=true:=by
 unfold KAct.formed at h
 split at h
 ·simp at h;exact h.2
 ·split at h
  ·simp at h;exact h.2
  ·split at h
   ·simp at h;rw[h.2];exact nV
   ·split at h
    ·simp at h;rw[h.2];exact nV
    ·cases h
theorem aMo{x:KAct}(h:x.formed=true):x.a.bd 4611686018427387903:=nI (mH (cP h)) (by decide)
abbrev stL(zb mp mh mm:Nat)(s:KSt):List bU:=[pt zb (.cells (uX mp mh mm s.last s.su) 88),aZ bW mp s.ps,aZ bK mh s.hs]
theorem aOs(x:KAct)(hx:x.formed=true):∃gg,(oI.look yL (x.kind.toNat:Int)).getD none=some gg∧cfB Tryz.prog gg=true∧∀(β:Base) (w:World) (zb mp mh mm:Nat) (s:KSt),St β (stL zb mp mh mm s) w→okP s.ps→okH s.hs→s.su.bd 4611686018427387903→-4611686018427387903≤s.last∧s.last≤4611686018427387903→
  Calls Tryz.prog gg #[.pointer (some ⟨zb,0,none⟩),.agg (vB x).toArray] w fun r w'=>r= .returned (.tuple #[Ix (cS s x).2.1,Ix (cS s x).2.2])∧St β (stL zb mp mh mm (cS s x).1) w':=by
 have hb:=aMo hx
 rcases lH hx with h|h|h|h|h|h|h
 ·exact⟨67,by rw[h];rfl,by kernel_rfl,fun β w zb mp mh mm s hw hP hH hs hl=>by rw[show cS s x=lT s x by unfold cS;rw[h];rfl];exact aWm β w zb mp mh mm s hw hP hH hs hl x hb⟩
 ·exact⟨68,by rw[h];rfl,by kernel_rfl,fun β w zb mp mh mm s hw hP hH hs hl=>by rw[show cS s x=lQ s x by unfold cS;rw[h];rfl];exact aUu β w zb mp mh mm s hw hP hH hs hl x hb⟩
 ·exact⟨69,by rw[h];rfl,by kernel_rfl,fun β w zb mp mh mm s hw hP hH hs hl=>by rw[show cS s x=kR s x by unfold cS;rw[h];rfl];exact aWp β w zb mp mh mm s hw hP hH hs hl x hb⟩
 ·exact⟨70,by rw[h];rfl,by kernel_rfl,fun β w zb mp mh mm s hw hP hH hs hl=>by rw[show cS s x=jZ s x by unfold cS;rw[h];rfl];exact aVw β w zb mp mh mm s hw hP hH hs hl x hb⟩
 ·exact⟨71,by rw[h];rfl,by kernel_rfl,fun β w zb mp mh mm s hw hP hH hs hl=>by rw[show cS s x=dZ s x.hold (mB s.hs x.hold).owner by unfold cS;rw[h];rfl];exact aVt β w zb mp mh mm s hw hP hH hs hl x hb⟩
 ·exact⟨72,by rw[h];rfl,by kernel_rfl,fun β w zb mp mh mm s hw hP hH hs hl=>by rw[show cS s x=dZ s x.hold x.other by unfold cS;rw[h];rfl];exact aRz β w zb mp mh mm s hw hP hH hs hl x hb⟩
 ·exact⟨73,by rw[h];rfl,by kernel_rfl,fun β w zb mp mh mm s hw hP hH hs hl=>by rw[show cS s x=mU s x by unfold cS;rw[h];rfl];exact aWs β w zb mp mh mm s hw hP hH hs hl x hb⟩
end Go.Proofs
namespace Go.Td
open Go Go.Sl Go.Proofs
theorem aBu{s0:KSt}:∀{xs:List KAct} {s:KSt} {made:List Int} {k:Nat},(jR s0 s made k xs).2.holds.length≤made.length+xs.length
 |[],_,_,_=>by simp[jR]
 |x::xs,s,made,k=>by
  unfold jR
  split
  ·refine Nat.le_trans (aBu) ?_
   split<;>simp<;>omega
  ·simp
theorem aEu{s:KSt}{xs:List KAct}:(aE s xs).2.holds.length≤xs.length:=by
 have:=aBu (s0:=s) (xs:=xs) (s:=s) (made:=[]) (k:=0)
 simpa[aE]using this
structure KHs where
 s:KSt
 done:Int→Option KMem
def dK:KRes:=⟨false,0,0,[]⟩
noncomputable def rS (h:KHs) (au nu:Int) (al:List KAct):KHs×KRes×Int:=
 if cE au nu al=false then(h,dK,2)
 else match h.done au with
 |some m=>
  if m.d.number=nu then(if m.d.acts=al then(h,m.r,0)else(h,dK,331))
  else if nu<m.d.number then(h,dK,332)
  else(⟨(aE h.s al).1,fun a=>if a=au then some ⟨⟨au,nu,al⟩,(aE h.s al).2⟩else h.done a⟩,(aE h.s al).2,0)
 |none=>(⟨(aE h.s al).1,fun a=>if a=au then some ⟨⟨au,nu,al⟩,(aE h.s al).2⟩else h.done a⟩,(aE h.s al).2,0)
open Go Go.Sl Go.Proofs
section
variable {P:Program}{κ ν:Type}{K:MapK P κ ν}{ks:List (κ×ν)}
theorem kC(p:κ×ν)(k:κ):K.look (p::ks) k=if(letI:=K.dec;decide (p.1=k))=true then some p.2 else K.look ks k:=by
 letI:=K.dec
 unfold MapK.look
 rw[List.find?_cons]
 by_cases h:p.1=k
 ·simp[h]
 ·simp[h]
theorem aFx(a:κ)(v:ν):∀ks:List (κ×ν),(K.look ks a).isSome=true→K.look (ks.map fun p=> @ite _ (p.1=a) (K.dec _ _) (a,v) p) a=some v
 |[],h=>by simp[MapK.look]at h
 |p::ks,h=>by
  letI:=K.dec
  rw[List.map_cons,kC]
  rw[kC]at h
  by_cases e:p.1=a
  ·simp[e]
  ·simp[e]at h
   simp only[e,if_false,decide_false,Bool.false_eq_true]
   exact aFx a v ks h
theorem aRg{a b:κ}(hb:b≠a)(v:ν):∀ks:List (κ×ν),K.look (ks.map fun p=> @ite _ (p.1=a) (K.dec _ _) (a,v) p) b=K.look ks b
 |[]=>rfl
 |p::ks=>by
  letI:=K.dec
  rw[List.map_cons,kC,kC,aRg hb v ks]
  by_cases e:p.1=a
  ·have h1:¬a=b:=fun q=>hb q.symm
   have h2:¬p.1=b:=fun q=>h1 (e.symm.trans q)
   simp[e,h1]
  ·simp[e]
theorem yP{a b:κ}(v:ν):∀ks:List (κ×ν),K.look (ks++[(a,v)]) b=match K.look ks b with|some u=>some u|none=>if(letI:=K.dec;decide (a=b))=true then some v else none
 |[]=>by
  rw[List.nil_append,kC];rfl
 |p::ks=>by
  letI:=K.dec
  rw[List.cons_append,kC,kC,yP v ks]
  by_cases e:p.1=b
  ·simp[e]
  ·simp[e]
theorem yW(a:κ)(v:ν):K.look (K.put ks a v) a=some v:=by
 letI:=K.dec
 unfold MapK.put
 split
 ·rename_i h;exact aFx a v ks h
 ·rename_i h
  rw[yP]
  have:K.look ks a=none:=by cases q:K.look ks a with|none=>rfl|some u=>rw[q]at h;exact absurd rfl h
  rw[this];simp
theorem aSg{a b:κ}(hb:b≠a)(v:ν):K.look (K.put ks a v) b=K.look ks b:=by
 letI:=K.dec
 unfold MapK.put
 split
 ·exact aRg hb v ks
 ·rw[yP]
  have h1:¬a=b:=fun q=>hb q.symm
  cases q:K.look ks b with
  |none=>simp[h1]
  |some u=>rfl
end
open Go Go.Sl Go.Proofs
section
variable {P:Program}{κ ν:Type}{K:MapK P κ ν}{ks ls:List (κ×ν)}
theorem kD{k:κ}{v:ν}(hn:(ks.map (·.1)).Nodup)(h:(k,v)∈ks):K.look ks k=some v:=by
 obtain⟨j,hj,e⟩:=List.getElem_of_mem h
 exact aDb hn (j:=j) (by rw[List.getElem?_eq_getElem hj,e])
theorem mV(hp:ks.Perm ls)(hn:(ks.map (·.1)).Nodup):(ls.map (·.1)).Nodup:=(hp.map _).nodup_iff.1 hn
theorem oV(hp:ks.Perm ls)(hn:(ks.map (·.1)).Nodup)(k:κ):K.look ks k=K.look ls k:=by
 cases e:K.look ks k with
 |none=>
  symm
  rw[iC]at e⊢
  exact fun h=>e ((hp.map _).mem_iff.2 h)
 |some v=>exact(kD (mV hp hn) (hp.mem_iff.1 (kJ e))).symm
theorem uN(hp:ks.Perm ls)(hn:(ks.map (·.1)).Nodup)(k:κ)(v:ν):(K.put ks k v).Perm (K.put ls k v):=by
 unfold MapK.put
 rw[oV hp hn]
 split
 ·exact hp.map _
 ·exact hp.append_right _
theorem uM(k:κ)(v:ν)(h:(K.look ks k).isSome=true):(K.put ks k v).map (·.1)=ks.map (·.1):=by
 unfold MapK.put
 rw[if_pos h,List.map_map]
 refine List.map_congr_left fun p _=> ?_
 letI:=K.dec
 show(if p.1=k then(k,v)else p).1=p.1
 split
 ·rename_i e;exact e.symm
 ·rfl
theorem jD(hn:(ks.map (·.1)).Nodup)(k:κ)(v:ν):((K.put ks k v).map (·.1)).Nodup:=by
 by_cases h:(K.look ks k).isSome=true
 ·rw[uM k v h];exact hn
 ·have e:K.look ks k=none:=by cases q:K.look ks k with|none=>rfl|some u=>rw[q]at h;exact absurd rfl h
  unfold MapK.put
  rw[if_neg h,List.map_append]
  refine List.nodup_append.2 ⟨hn,by simp,fun a ha b hb=> ?_⟩
  have:b=k:=by simpa using hb
  rw[this];rintro rfl
  exact iC.1 e ha
theorem nS{k:κ}{v:ν}(h:K.look ks k=none):K.put ks k v=ks++[(k,v)]:=by unfold MapK.put;rw[h];rfl
theorem oM(hp:ks.Perm ls)(k:κ):(K.del ks k).Perm (K.del ls k):=hp.filter _
theorem rR(hn:(ks.map (·.1)).Nodup)(k:κ):((K.del ks k).map (·.1)).Nodup:=by
 unfold MapK.del
 exact List.Nodup.sublist (List.Sublist.map _ List.filter_sublist) hn
end
structure EqS(s t:KSt):Prop where
 p:s.ps.Perm t.ps
 h:s.hs.Perm t.hs
 l:s.last=t.last
 u:s.su=t.su
 np:(s.ps.map (·.1)).Nodup
 nh:(s.hs.map (·.1)).Nodup
theorem EqS.symm{s t:KSt}(h:EqS s t):EqS t s:=⟨h.p.symm,h.h.symm,h.l.symm,h.u.symm,mV h.p h.np,mV h.h h.nh⟩
theorem EqS.trans{s t r:KSt}(h:EqS s t)(g:EqS t r):EqS s r:=⟨h.p.trans g.p,h.h.trans g.h,h.l.trans g.l,h.u.trans g.u,h.np,h.nh⟩
section
variable {ps qs:List (Int×KAm)}(hp:ps.Perm qs)(hn:(ps.map (·.1)).Nodup)(n:Int)(a:KAm)
include hp hn
theorem rD:iJ ps n=iJ qs n:=by unfold iJ;rw[oV hp hn]
theorem aAo:addX ps n a=addX qs n a:=by unfold addX;rw[rD hp hn,oV hp hn,hp.length_eq]
theorem zO:iN ps n a=iN qs n a:=by unfold iN;rw[rD hp hn]
theorem vD:gR ps n a=gR qs n a:=by unfold gR;rw[aAo hp hn]
theorem qH:eE ps n a=eE qs n a:=by unfold eE;rw[zO hp hn]
theorem vG:(hG ps n a).Perm (hG qs n a)∧((hG ps n a).map (·.1)).Nodup:=by
 unfold hG
 rw[←aAo hp hn,←rD hp hn]
 split
 ·exact⟨hp,hn⟩
 ·split
  ·exact⟨hp,hn⟩
  ·exact⟨uN hp hn _ _,jD hn _ _⟩
theorem aIq:(dJ ps n a).Perm (dJ qs n a)∧((dJ ps n a).map (·.1)).Nodup:=by
 unfold dJ
 rw[←zO hp hn,←rD hp hn]
 split
 ·exact⟨hp,hn⟩
 ·split
  ·exact⟨oM (uN hp hn _ _) _,rR (jD hn _ _) _⟩
  ·exact⟨uN hp hn _ _,jD hn _ _⟩
end
theorem yJ{hs gs:List (Int×KHo)}(hp:hs.Perm gs)(hn:(hs.map (·.1)).Nodup)(n:Int):mB hs n=mB gs n:=by unfold mB;rw[oV hp hn]
theorem aKo{s t:KSt}(h:EqS s t)(q o:Int):EqS (dZ s q o).1 (dZ t q o).1∧(dZ s q o).2=(dZ t q o).2:=by
 unfold dZ
 rw[←oV h.h h.nh,←yJ h.h h.nh]
 split
 ·obtain⟨h1,h2⟩:=vG h.p h.np o (mB s.hs q).a
  exact⟨⟨h1,oM h.h _,h.l,h.u,h2,rR h.nh _⟩,by simp only[vD h.p h.np]⟩
 ·exact⟨h,rfl⟩
theorem aUl{s t:KSt}(h:EqS s t)(x:KAct):EqS (cS s x).1 (cS t x).1∧(cS s x).2=(cS t x).2:=by
 have ha:=vG h.p h.np x.owner x.a
 have ht:=aIq h.p h.np x.owner x.a
 unfold cS
 rw[yJ h.h h.nh]
 split
 ·unfold lT
  rw[vD h.p h.np,h.u]
  exact⟨⟨ha.1,h.h,h.l,rfl,ha.2,h.nh⟩,rfl⟩
 ·split
  ·unfold lQ
   rw[qH h.p h.np,h.u]
   exact⟨⟨ht.1,h.h,h.l,rfl,ht.2,h.nh⟩,rfl⟩
  ·split
   ·unfold kR
    rw[qH h.p h.np]
    split
    ·obtain⟨h1,h2⟩:=vG ht.1 ht.2 x.other x.a
     exact⟨⟨h1,h.h,h.l,h.u,h2,h.nh⟩,by simp only[vD ht.1 ht.2]⟩
    ·exact⟨⟨ht.1,h.h,h.l,h.u,ht.2,h.nh⟩,rfl⟩
   ·split
    ·unfold jZ
     rw[qH h.p h.np,h.h.length_eq,h.l]
     split
     ·split
      ·exact⟨⟨ht.1,h.h,rfl,h.u,ht.2,h.nh⟩,rfl⟩
      ·exact⟨⟨ht.1,uN h.h h.nh _ _,rfl,h.u,ht.2,jD h.nh _ _⟩,rfl⟩
     ·exact⟨⟨ht.1,h.h,rfl,h.u,ht.2,h.nh⟩,rfl⟩
    ·split
     ·exact aKo h _ _
     ·split
      ·exact aKo h _ _
      ·unfold mU
       exact⟨h,by simp only[qH h.p h.np]⟩
theorem aTc{s0 t0:KSt}(h0:EqS s0 t0):∀{xs:List KAct} {s t:KSt} {made:List Int} {k:Nat},EqS s t→EqS (jR s0 s made k xs).1 (jR t0 t made k xs).1∧(jR s0 s made k xs).2=(jR t0 t made k xs).2
 |[],s,t,made,k,h=>⟨h,rfl⟩
 |x::xs,s,t,made,k,h=>by
  obtain⟨h1,h2⟩:=aUl h x
  unfold jR
  rw[h2]
  split
  ·exact aTc h0 h1
  ·exact⟨h0,rfl⟩
theorem xV{s t:KSt}(h:EqS s t)(xs:List KAct):EqS (aE s xs).1 (aE t xs).1∧(aE s xs).2=(aE t xs).2:=aTc h h
def KAm.add(a b:KAm):KAm:=⟨a.a0+b.a0,a.a1+b.a1,a.a2+b.a2,a.a3+b.a3⟩
def uY:List KAm→KAm
 |[]=>zeroA
 |a::l=>a.add (uY l)
theorem sW{a b:KAm}(h0:a.a0=b.a0)(h1:a.a1=b.a1)(h2:a.a2=b.a2)(h3:a.a3=b.a3):a=b:=by cases a;cases b;simp_all
theorem vH(a b:KAm):a.add b=b.add a:=sW (Int.add_comm _ _) (Int.add_comm _ _) (Int.add_comm _ _) (Int.add_comm _ _)
theorem iU(a b c:KAm):(a.add b).add c=a.add (b.add c):=sW (Int.add_assoc _ _ _) (Int.add_assoc _ _ _) (Int.add_assoc _ _ _) (Int.add_assoc _ _ _)
theorem aCh(a:KAm):zeroA.add a=a:=sW (Int.zero_add _) (Int.zero_add _) (Int.zero_add _) (Int.zero_add _)
theorem add_zero'(a:KAm):a.add zeroA=a:=sW (Int.add_zero _) (Int.add_zero _) (Int.add_zero _) (Int.add_zero _)
theorem aGb(a b:KAm):a.plus b 1=a.add b:=by unfold KAm.plus KAm.add;simp only[Int.one_mul]
theorem pG{l m:List KAm}(h:l.Perm m):uY l=uY m:=by
 induction h with
 |nil=>rfl
 |cons x _ ih=>show x.add _=x.add _;rw[ih]
 |swap x y l=>show KAm.add y (KAm.add x (uY l))=KAm.add x (KAm.add y (uY l));rw[←iU,←iU,vH y x]
 |trans _ _ h1 h2=>exact h1.trans h2
section
variable {P:Program}{ν:Type}{K:MapK P Int ν}(f:ν→KAm)
def nC(ks:List (Int×ν)):KAm:=uY (ks.map fun p=>f p.2)
theorem sP{ks:List (Int×ν)}(hn:(ks.map (·.1)).Nodup){k:Int}{v:ν}(h:K.look ks k=some v):ks.Perm ((k,v)::K.del ks k):=by
 induction ks with
 |nil=>simp[MapK.look]at h
 |cons p ks ih=>
  rw[kC]at h
  rw[List.map_cons,List.nodup_cons]at hn
  letI:=K.dec
  by_cases e:p.1=k
  ·simp[e]at h
   subst h
   have hd:K.del ks k=ks:=oL (iC.2 (by rw[←e];exact hn.1))
   have:K.del (p::ks) k=ks:=by
    conv=>rhs;rw[←hd]
    unfold MapK.del
    rw[List.filter_cons];simp[e]
   rw[this,show(k,p.2)=p by rw[←e]]
  ·simp[e]at h
   have:K.del (p::ks) k=p::K.del ks k:=by unfold MapK.del;rw[List.filter_cons];simp[e]
   rw[this]
   exact((ih hn.2 h).cons p).trans (List.Perm.swap _ _ _)
theorem aLf{ks:List (Int×ν)}(hn:(ks.map (·.1)).Nodup){k:Int}{v:ν}(h:K.look ks k=some v):nC f ks=(f v).add (nC f (K.del ks k)):=by
 have:=pG ((sP hn h).map fun p=>f p.2)
 rwa [List.map_cons]at this
theorem gY{ks:List (Int×ν)}(hn:(ks.map (·.1)).Nodup)(k:Int)(v:ν):(K.put ks k v).Perm ((k,v)::K.del ks k):=by
 cases h:K.look ks k with
 |none=>
  rw[nS h,oL h]
  exact List.perm_append_comm
 |some u=>
  have h1:=sP (jD hn k v) (yW (K:=K) k v)
  have h2:K.del (K.put ks k v) k=K.del ks k:=by
   letI:=K.dec
   unfold MapK.put MapK.del
   rw[h,if_pos (show(some u).isSome=true from rfl),List.filter_map]
   clear h1 h hn
   induction ks with
   |nil=>rfl
   |cons p ks ih=>
    rw[List.filter_cons,List.filter_cons]
    by_cases e:p.1=k
    ·simp only[Function.comp_def,e,if_true,decide_true,Bool.not_true,Bool.false_eq_true,if_false]
     exact ih
    ·simp only[Function.comp_def,e,if_false,decide_false,Bool.not_false,if_true,List.map_cons]
     exact congrArg _ ih
  rwa [h2]at h1
theorem aDx{ks:List (Int×ν)}(hn:(ks.map (·.1)).Nodup)(k:Int)(v:ν):nC f (K.put ks k v)=(f v).add (nC f (K.del ks k)):=by
 have:=pG ((gY (K:=K) hn k v).map fun p=>f p.2)
 rwa [List.map_cons]at this
end
theorem nU{a:KAm}:a.within=true↔((0≤a.a0∧a.a0≤2147483647)∧(0≤a.a1∧a.a1≤2147483647))∧((0≤a.a2∧a.a2≤2147483647)∧(0≤a.a3∧a.a3≤2147483647)):=by
 unfold KAm.within inA
 simp only[Bool.and_eq_true,decide_eq_true_eq]
 omega
theorem tQ{a:KAm}:a=zeroA↔a.a0=0∧a.a1=0∧a.a2=0∧a.a3=0:=⟨fun h=>by rw[h];exact⟨rfl,rfl,rfl,rfl⟩,fun h=>sW h.1 h.2.1 h.2.2.1 h.2.2.2⟩
structure PsOk(ps:List (Int×KAm)):Prop where
 np:(ps.map (·.1)).Nodup
 pn:ps.length≤256
 pk:∀p∈ps,fA p.1=true∧p.2.within=true∧p.2≠zeroA
theorem PsOk.at{ps:List (Int×KAm)}(h:PsOk ps)(n:Int):(iJ ps n).within=true:=aRv (fun p hp=>(h.pk p hp).2.1) n
theorem aDw{ps:List (Int×KAm)}(hn:(ps.map (·.1)).Nodup)(n:Int):nC id ps=(iJ ps n).add (nC id (bW.del ps n)):=by
 unfold iJ
 cases e:bW.look ps n with
 |none=>rw[oL e];exact(aCh _).symm
 |some v=>exact aLf id hn e
theorem vF{ps:List (Int×KAm)}(h:PsOk ps){n:Int}{a:KAm}(hn:fA n=true)(ha:a.within=true)(hx:addX ps n a=false):PsOk (hG ps n a)∧nC id (hG ps n a)=(nC id ps).add a:=by
 have hw:=nU.1 (h.at n);have hb:=nU.1 ha
 unfold hG
 rw[hx,if_neg (by decide)]
 unfold addX at hx
 rw[Bool.or_eq_false_iff]at hx
 split
 ·rename_i hz
  rw[tQ]at hz
  simp only[KAm.plus]at hz
  have:a=zeroA:=tQ.2 (by omega)
  rw[this]
  exact⟨h,(add_zero' _).symm⟩
 ·rename_i hz
  refine⟨⟨jD h.np _ _,?_,?_⟩,?_⟩
  ·cases e:bW.look ps n with
   |none=>
    rw[nS e]
    have:=hx.2
    rw[e]at this
    simp[hz]at this
    simp;omega
   |some v=>
    have:=congrArg List.length (uM (K:=bW) (ks:=ps) n ((iJ ps n).plus a 1) (by rw[e];rfl))
    simp only[List.length_map]at this
    rw[this];exact h.pn
  ·intro p hp
   have:=(gY (K:=bW) h.np n ((iJ ps n).plus a 1)).mem_iff.1 hp
   rcases List.mem_cons.1 this with rfl|hp'
   ·exact⟨hn,by simpa using hx.1,hz⟩
   ·exact h.pk p (List.mem_filter.1 hp').1
  ·rw[aDx id h.np,aDw h.np n]
   show((iJ ps n).plus a 1).add _=_
   rw[aGb,iU,iU,vH a]
theorem qI{ps:List (Int×KAm)}(h:PsOk ps){n:Int}{a:KAm}(hn:fA n=true)(ha:a.within=true)(hx:iN ps n a=false):PsOk (dJ ps n a)∧(nC id (dJ ps n a)).add a=nC id ps:=by
 have key:∀x:KAm,((((iJ ps n).plus a (-1)).add x).add a)=(iJ ps n).add x:=fun x=>by
  apply sW<;>simp only[KAm.add,KAm.plus]<;>omega
 unfold dJ
 rw[hx,if_neg (by decide)]
 unfold iN at hx
 split
 ·rename_i hz
  have h1:=gY (K:=bW) h.np n ((iJ ps n).plus a (-1))
  have h2:(bW.del (bW.put ps n ((iJ ps n).plus a (-1))) n).Perm (bW.del ps n):=by
   have:=oM (K:=bW) h1 n
   refine this.trans ?_
   have e3:bW.del ((n,(iJ ps n).plus a (-1))::bW.del ps n) n=bW.del ps n:=by
    unfold MapK.del
    rw[List.filter_cons]
    simp
   rw[e3]
  have h3:(bW.del ps n).length≤ps.length:=List.length_filter_le _ _
  refine⟨⟨rR (jD h.np _ _) _,by rw[h2.length_eq];have:=h.pn;omega,fun p hp=>h.pk p (List.mem_filter.1 (h2.mem_iff.1 hp)).1⟩,?_⟩
  rw[show nC id (bW.del (bW.put ps n ((iJ ps n).plus a (-1))) n)=nC id (bW.del ps n)from pG (h2.map fun p=>id p.2),aDw h.np n,←key,hz,aCh]
 ·rename_i hz
  refine⟨⟨jD h.np _ _,?_,?_⟩,?_⟩
  ·cases e:bW.look ps n with
   |none=>
    have hp0:iJ ps n=zeroA:=by unfold iJ;rw[e];rfl
    exfalso
    apply hz
    have hw:((iJ ps n).plus a (-1)).within=true:=by simpa using hx
    rw[tQ]
    have h1:=nU.1 hw
    have h2:=nU.1 ha
    rw[hp0]at h1⊢
    simp only[KAm.plus,zeroA]at h1⊢
    omega
   |some v=>
    have:=congrArg List.length (uM (K:=bW) (ks:=ps) n ((iJ ps n).plus a (-1)) (by rw[e];rfl))
    simp only[List.length_map]at this
    rw[this];exact h.pn
  ·intro p hp
   have:=(gY (K:=bW) h.np n ((iJ ps n).plus a (-1))).mem_iff.1 hp
   rcases List.mem_cons.1 this with rfl|hp'
   ·exact⟨hn,by simpa using hx,hz⟩
   ·exact h.pk p (List.mem_filter.1 hp').1
  ·rw[aDx id h.np,aDw h.np n]
   exact key _
structure HsOk(hs:List (Int×KHo))(last:Int):Prop where
 nh:(hs.map (·.1)).Nodup
 hn:hs.length≤128
 hk:∀p∈hs,p.2.number=p.1∧1≤p.1∧p.1≤last∧fA p.2.owner=true∧p.2.a.within=true
structure Good2(s:KSt):Prop where
 p:PsOk s.ps
 h:HsOk s.hs s.last
 l0:0≤s.last
 su:s.su=(nC id s.ps).add (nC KHo.a s.hs)
theorem HsOk.at{hs:List (Int×KHo)}{l:Int}(h:HsOk hs l){n:Int}{v:KHo}(e:bK.look hs n=some v):v.number=n∧1≤n∧n≤l∧fA v.owner=true∧v.a.within=true:=h.hk _ (kJ e)
theorem vE{ps:List (Int×KAm)}{n:Int}{a:KAm}(h:gR ps n a=0):addX ps n a=false:=by
 unfold gR at h
 cases e:addX ps n a with
 |false=>rfl
 |true=>rw[e]at h;simp at h
theorem tJ{ps:List (Int×KAm)}{n:Int}{a:KAm}(h:eE ps n a=0):iN ps n a=false:=by
 unfold eE at h
 cases e:iN ps n a with
 |false=>rfl
 |true=>rw[e]at h;simp at h
theorem aNb{s:KSt}(h:Good2 s){q o:Int}(ho:∀v,bK.look s.hs q=some v→fA o=true)(he:(dZ s q o).2.2=0):Good2 (dZ s q o).1∧(dZ s q o).1.last=s.last∧(dZ s q o).1.su=s.su∧(dZ s q o).2.1=0:=by
 unfold dZ at he⊢
 cases e:bK.look s.hs q with
 |none=>rw[e]at he;simp at he
 |some v=>
  rw[e]at he
  rw[if_pos (show(some v).isSome=true from rfl)]at he
  rw[if_pos (show(some v).isSome=true from rfl)]
  have hv:=h.h.at e
  have hx:=vE he
  have ha:(mB s.hs q)=v:=by unfold mB;rw[e];rfl
  rw[ha]at hx⊢
  obtain⟨h1,h2⟩:=vF h.p (ho v e) hv.2.2.2.2 hx
  refine⟨⟨h1,⟨rR h.h.nh _,Nat.le_trans (List.length_filter_le _ _) h.h.hn,fun p hp=>h.h.hk p (List.mem_filter.1 hp).1⟩,h.l0,?_⟩,rfl,rfl,rfl⟩
  show s.su=_
  rw[h.su,h2,aLf KHo.a h.h.nh e,iU]
noncomputable def bCb (x:KAct) (su:KAm):KAm:=if(x.kind.toNat:Int)=1 then su.plus x.a 1 else if(x.kind.toNat:Int)=2 then su.plus x.a (-1)else su
theorem sV{s:KSt}{x:KAct}(h:Good2 s)(hf:x.formed=true)(he:(cS s x).2.2=0):Good2 (cS s x).1∧(cS s x).1.last≤s.last+1∧s.last≤(cS s x).1.last∧(cS s x).1.su=bCb x s.su∧0≤(cS s x).2.1∧(cS s x).2.1≤(cS s x).1.last:=by
 have hw:=cP hf
 have l0:=h.l0
 have hk:=lH hf
 unfold KAct.formed KAct.plain at hf
 unfold cS at he⊢
 unfold bCb
 by_cases k1:(x.kind.toNat:Int)=1
 ·rw[if_pos k1]at he⊢
  rw[if_pos k1]
  have ho:fA x.owner=true:=by simp[k1]at hf;exact hf.1.1.1
  obtain⟨h1,h2⟩:=vF h.p ho hw (vE he)
  have he':gR s.ps x.owner x.a=0:=he
  refine⟨⟨h1,h.h,l0,?_⟩,by show s.last≤_;omega,Int.le_refl _,by show(if _ then _ else _)=_;rw[if_pos he'],Int.le_refl _,l0⟩
  show(if _ then _ else _)=_
  rw[if_pos he',aGb,h.su]
  show _=(nC id (hG s.ps x.owner x.a)).add (nC KHo.a s.hs)
  rw[h2,iU,iU,vH x.a]
 ·by_cases k2:(x.kind.toNat:Int)=2
  ·rw[if_neg k1,if_pos k2]at he⊢
   rw[if_neg k1,if_pos k2]
   have ho:fA x.owner=true:=by simp[k2]at hf;exact hf.1.1.1
   have he':eE s.ps x.owner x.a=0:=he
   obtain⟨h1,h2⟩:=qI h.p ho hw (tJ he')
   refine⟨⟨h1,h.h,l0,?_⟩,by show s.last≤_;omega,Int.le_refl _,by show(if _ then _ else _)=_;rw[if_pos he'],Int.le_refl _,l0⟩
   show(if _ then _ else _)=_
   rw[if_pos he',h.su,←h2]
   show _=(nC id (dJ s.ps x.owner x.a)).add (nC KHo.a s.hs)
   apply sW<;>simp only[KAm.add,KAm.plus]<;>omega
  ·rw[if_neg k1,if_neg k2]
   rw[if_neg k1,if_neg k2]at he⊢
   by_cases k3:(x.kind.toNat:Int)=3
   ·rw[if_pos k3]at he⊢
    have ho:fA x.owner=true∧fA x.other=true:=by simp[k3]at hf;exact⟨hf.1.1.1.1,hf.1.1.1.2⟩
    unfold kR at he⊢
    by_cases ht:eE s.ps x.owner x.a=0
    ·rw[if_pos ht]at he⊢
     obtain⟨h1,h2⟩:=qI h.p ho.1 hw (tJ ht)
     obtain⟨h3,h4⟩:=vF h1 ho.2 hw (vE he)
     refine⟨⟨h3,h.h,l0,?_⟩,by show s.last≤_;omega,Int.le_refl _,rfl,Int.le_refl _,l0⟩
     show s.su=_
     rw[h.su,h4,h2]
    ·rw[if_neg ht]at he;exact absurd he ht
   ·rw[if_neg k3]at he⊢
    by_cases k4:(x.kind.toNat:Int)=4
    ·rw[if_pos k4]at he⊢
     have ho:fA x.owner=true:=by simp[k4]at hf;exact hf.1.1.1
     unfold jZ at he⊢
     by_cases ht:eE s.ps x.owner x.a=0
     ·rw[if_pos ht]at he⊢
      obtain⟨h1,h2⟩:=qI h.p ho hw (tJ ht)
      by_cases h128:(128:Int)≤(s.hs.length:Int)
      ·rw[if_pos h128]at he;simp at he
      ·rw[if_neg h128]
       have hl:bK.look s.hs (s.last+1)=none:=by
        cases e:bK.look s.hs (s.last+1)with
        |none=>rfl
        |some v=>have:=h.h.at e;omega
       refine⟨⟨h1,⟨jD h.h.nh _ _,by rw[nS hl];simp;omega,fun p hp=> ?_⟩,by show 0≤s.last+1;omega,?_⟩,Int.le_refl _,by show s.last≤s.last+1;omega,rfl,by show 0≤s.last+1;omega,Int.le_refl _⟩
       ·show _∧_∧p.1≤s.last+1∧_
        have hp:p∈bK.put s.hs (s.last+1) ⟨s.last+1,x.owner,x.a⟩:=hp
        rw[nS hl]at hp
        rcases List.mem_append.1 hp with hp|hp
        ·have:=h.h.hk p hp
         exact⟨this.1,this.2.1,by omega,this.2.2.2.1,this.2.2.2.2⟩
        ·rw[List.mem_singleton.1 hp]
         exact⟨rfl,by show 1≤s.last+1;omega,Int.le_refl _,ho,hw⟩
       ·show s.su=(nC id (dJ s.ps x.owner x.a)).add (nC KHo.a (bK.put s.hs (s.last+1) ⟨s.last+1,x.owner,x.a⟩))
        rw[h.su,←h2,aDx KHo.a h.h.nh,oL hl,iU]
     ·rw[if_neg ht]at he;exact absurd he ht
    ·rw[if_neg k4]at he⊢
     have fin:∀o,(∀v,bK.look s.hs x.hold=some v→fA o=true)→(dZ s x.hold o).2.2=0→Good2 (dZ s x.hold o).1∧(dZ s x.hold o).1.last≤s.last+1∧s.last≤(dZ s x.hold o).1.last∧(dZ s x.hold o).1.su=s.su∧0≤(dZ s x.hold o).2.1∧(dZ s x.hold o).2.1≤(dZ s x.hold o).1.last:=fun o ho he=>by
      obtain⟨h1,h2,h3,h4⟩:=aNb h ho he
      exact⟨h1,by omega,by omega,h3,by omega,by omega⟩
     by_cases k5:(x.kind.toNat:Int)=5
     ·rw[if_pos k5]at he⊢
      refine fin _ (fun v e=> ?_) he
      have:mB s.hs x.hold=v:=by unfold mB;rw[e];rfl
      rw[this];exact(h.h.at e).2.2.2.1
     ·rw[if_neg k5]at he⊢
      by_cases k6:(x.kind.toNat:Int)=6
      ·rw[if_pos k6]at he⊢
       refine fin _ (fun v e=> ?_) he
       simp[k6]at hf
       exact hf.1.1.2
      ·rw[if_neg k6]at he⊢
       exact⟨h,by show s.last≤_;omega,Int.le_refl _,rfl,Int.le_refl _,l0⟩
structure ResOk(r:KRes)(last:Int):Prop where
 dn:r.done=decide (r.e=0)
 at0:0≤r.at_∧r.at_<16
 e:0≤r.e∧r.e<65536
 hn:r.holds.length≤16
 hk:∀n∈r.holds,1≤n∧n≤last
theorem ResOk.le{r:KRes}{l m:Int}(h:ResOk r l)(hl:l≤m):ResOk r m:=⟨h.dn,h.at0,h.e,h.hn,fun n hn=>⟨(h.hk n hn).1,by have:=(h.hk n hn).2;omega⟩⟩
theorem c5_:(0:Int)≤5∧(5:Int)<65536:=by decide
theorem c6_:(0:Int)≤6∧(6:Int)<65536:=by decide
theorem c0_:(0:Int)≤0∧(0:Int)<65536:=by decide
theorem bGz:(0:Int)≤0∧(0:Int)<16:=by decide
theorem aOr(s:KSt)(x:KAct):0≤(cS s x).2.2∧(cS s x).2.2<65536:=by
 have ha:∀ps n a,0≤gR ps n a∧gR ps n a<65536:=fun ps n a=>by unfold gR;split<;>omega
 have ht:∀ps n a,0≤eE ps n a∧eE ps n a<65536:=fun ps n a=>by unfold eE;split<;>omega
 have hp:∀q o,0≤(dZ s q o).2.2∧(dZ s q o).2.2<65536:=fun q o=>by
  unfold dZ;split
  ·exact ha _ _ _
  ·exact c6_
 unfold cS
 split
 ·exact ha _ _ _
 ·split
  ·exact ht _ _ _
  ·split
   ·unfold kR;split
    ·exact ha _ _ _
    ·exact ht _ _ _
   ·split
    ·unfold jZ;split
     ·split
      ·exact c5_
      ·exact c0_
     ·exact ht _ _ _
    ·split
     ·exact hp _ _
     ·split
      ·exact hp _ _
      ·exact ht _ _ _
noncomputable def bCc:List KAct→KAm→KAm
 |[],su=>su
 |x::l,su=>bCc l (bCb x su)
theorem aBt{s0:KSt}(h0:Good2 s0):∀{xs:List KAct} {s:KSt} {made:List Int} {k:Nat},Good2 s→s0.last≤s.last→(∀x∈xs,x.formed=true)→k+xs.length≤16→made.length≤k→(∀n∈made,1≤n∧n≤s.last)→
  Good2 (jR s0 s made k xs).1∧(jR s0 s made k xs).1.last≤s.last+xs.length∧s0.last≤(jR s0 s made k xs).1.last∧ResOk (jR s0 s made k xs).2 (jR s0 s made k xs).1.last∧
  (jR s0 s made k xs).1.su=if(jR s0 s made k xs).2.done then bCc xs s.su else s0.su
 |[],s,made,k,h,hl,_,hk,hm,hh=>⟨h,by show s.last≤_;simp,hl,⟨rfl,bGz,c0_,by show made.length≤16;omega,hh⟩,rfl⟩
 |x::xs,s,made,k,h,hl,hf,hk,hm,hh=>by
  rw[List.length_cons]at hk⊢
  unfold jR
  by_cases e:(cS s x).2.2=0
  ·rw[if_pos e]
   obtain⟨h1,h2,h3,h4,h5,h6⟩:=sV h (hf x (by simp)) e
   have:=aBt h0 (xs:=xs) (s:=(cS s x).1) (made:=if 0<(cS s x).2.1 then made++[(cS s x).2.1]else made) (k:=k+1) h1 (by omega) (fun y hy=>hf y (by simp[hy])) (by omega) (by split<;>(try rw[List.length_append,List.length_singleton])<;>omega) (fun n hn=>by
    split at hn
    ·rcases List.mem_append.1 hn with hn|hn
     ·have:=hh n hn;omega
     ·rw[List.mem_singleton.1 hn];omega
    ·have:=hh n hn;omega)
   obtain⟨g1,g2,g3,g4,g5⟩:=this
   refine⟨g1,by push_cast;omega,g3,g4,?_⟩
   rw[g5,h4];rfl
  ·rw[if_neg e]
   have he:=aOr s x
   exact⟨h0,by push_cast;show s0.last≤_;omega,Int.le_refl _,⟨by show false=decide _;simp[e],⟨by show(0:Int)≤(k:Int);omega,by show(k:Int)<16;omega⟩,he,by simp,fun n hn=>by cases hn⟩,rfl⟩
theorem aEt{s:KSt}(h:Good2 s){xs:List KAct}(hf:∀x∈xs,x.formed=true)(hl:xs.length≤16):
  Good2 (aE s xs).1∧(aE s xs).1.last≤s.last+xs.length∧s.last≤(aE s xs).1.last∧ResOk (aE s xs).2 (aE s xs).1.last∧(aE s xs).1.su=if(aE s xs).2.done then bCc xs s.su else s.su:=
 aBt h (made:=[]) h (Int.le_refl _) hf (by omega) (by simp) (fun n hn=>by cases hn)
theorem aIp:∀{l:List KAm},(∀a∈l,a.within=true)→(uY l).bd (l.length*2147483647)∧(0≤(uY l).a0∧0≤(uY l).a1∧0≤(uY l).a2∧0≤(uY l).a3)
 |[],_=>by unfold uY KAm.bd zeroA;simp
 |a::l,h=>by
  obtain⟨h1,h2⟩:=aIp (l:=l) fun b hb=>h b (by simp[hb])
  have hw:=nU.1 (h a (by simp))
  unfold KAm.bd at h1⊢
  rw[List.length_cons]
  push_cast
  simp only[uY,KAm.add]
  omega
theorem Good2.sup{s:KSt}(h:Good2 s):(0≤s.su.a0∧s.su.a0<1099511627776)∧(0≤s.su.a1∧s.su.a1<1099511627776)∧(0≤s.su.a2∧s.su.a2<1099511627776)∧(0≤s.su.a3∧s.su.a3<1099511627776):=by
 have h1:=aIp (l:=s.ps.map fun p=>id p.2) (fun a ha=>by obtain⟨p,hp,rfl⟩:=List.mem_map.1 ha;exact(h.p.pk p hp).2.1)
 have h2:=aIp (l:=s.hs.map fun p=>p.2.a) (fun a ha=>by obtain⟨p,hp,rfl⟩:=List.mem_map.1 ha;exact(h.h.hk p hp).2.2.2.2)
 rw[List.length_map]at h1 h2
 have p1:=h.p.pn;have p2:=h.h.hn
 have e:=h.su
 unfold KAm.bd at h1 h2
 rw[e]
 unfold nC
 simp only[KAm.add]
 omega
theorem Good2.good{s:KSt}(h:Good2 s){M:Int}(hM:s.last≤M)(hM2:1099511627776≤M):GoodS s M:=by
 have:=h.sup
 exact⟨fun p hp=>(h.p.pk p hp).2.1,fun p hp=>(h.h.hk p hp).2.2.2.2,by unfold KAm.bd;omega,h.l0,hM⟩
theorem EqS.good2{s t:KSt}(h:EqS s t)(g:Good2 t):Good2 s:=by
 refine⟨⟨h.np,by rw[h.p.length_eq];exact g.p.pn,fun p hp=>g.p.pk p (h.p.mem_iff.1 hp)⟩,⟨h.nh,by rw[h.h.length_eq];exact g.h.hn,fun p hp=>by rw[h.l];exact g.h.hk p (h.h.mem_iff.1 hp)⟩,by rw[h.l];exact g.l0,?_⟩
 rw[h.u,g.su]
 unfold nC
 rw[pG (h.p.symm.map fun p=>id p.2),pG (h.h.symm.map fun p=>KHo.a p.2)]
theorem Good2.refl{s:KSt}(g:Good2 s):EqS s s:=⟨List.Perm.refl _,List.Perm.refl _,rfl,rfl,g.p.np,g.h.nh⟩
end Go.Td
namespace Go.Sl
theorem aPe(x:UInt8)(s:Nat)(hs:s<8):IntKind.u8.wrap ((x.toNat:Int)*2^(min ((s:Int)).toNat IntKind.u8.bits))=((x<<<UInt8.ofNat s).toNat:Int):=by
 have e:(UInt8.ofNat s).toNat%8=s:=by simp;omega
 have hm:min ((s:Int)).toNat IntKind.u8.bits=s:=by simp[IntKind.bits];omega
 rw[hm,u8w,UInt8.toNat_shiftLeft,e,Nat.shiftLeft_eq]
 simp
theorem aJc(x:UInt8):BitVec.ofInt IntKind.u8.bits (x.toNat:Int)=x.toBitVec:=by
 show BitVec.ofInt 8 (x.toNat:Int)=x.toBitVec
 apply BitVec.eq_of_toNat_eq
 have h:=x.toNat_lt
 simp only[BitVec.toNat_ofInt,UInt8.toNat_toBitVec]
 omega
theorem aZb(x y:UInt8):IntKind.u8.wrap ((BitVec.ofInt IntKind.u8.bits (x.toNat:Int)|||BitVec.ofInt IntKind.u8.bits (y.toNat:Int)).toNat:Int)=((x|||y).toNat:Int):=by
 rw[aJc,aJc,u8w]
 have h:=(x|||y).toNat_lt
 show(((x|||y).toNat:Nat):Int)%256=_
 omega
end Go.Sl
namespace Go.Td
open Go.Sl
def aHi(v:UInt64)(j n:Nat):UInt8:=((v>>>UInt64.ofNat j)&&&(1:UInt64)).toUInt8<<<UInt8.ofNat (7-n%8)
def qL(xs:List UInt8)(n:Nat):List UInt8:=if n%8=0 then xs++[0]else xs
def uL(xs:List UInt8)(n:Nat)(b:UInt8):List UInt8:=(qL xs n).set (n/8) (((qL xs n).getD (n/8) 0)|||b)
def eW(v:UInt64):Nat→List UInt8→Nat→List UInt8
 |0,xs,_=>xs
 |j+1,xs,n=>eW v j (uL xs n (aHi v j n)) (n+1)
theorem aGd{v:UInt64}{k i n:Nat}{ys zs:List UInt8}{x:UInt8}(hi:i<k)(hg:qL ys (n+i)=zs)(hx:zs[(n+i)/8]? =some x):
  eW v (k-i) ys (n+i)=eW v (k-(i+1)) (zs.set ((n+i)/8) (x|||(((v>>>UInt64.ofNat ((k-1)-i))&&&(1:UInt64)).toUInt8<<<UInt8.ofNat (7-((n+i)%8))))) (n+(i+1)):=by
 rw[show k-i=(k-(i+1))+1 by omega,show(k-1)-i=k-(i+1) by omega]
 show eW v _ (uL _ _ _) _=_
 unfold uL
 rw[hg,List.getD_eq_getElem?_getD,hx]
 rfl
theorem aQm{xs:List UInt8}{n:Nat}(h:n%8=0):qL xs n=xs++[0]:=if_pos h
theorem aVv{xs:List UInt8}{n:Nat}(h:¬n%8=0):qL xs n=xs:=if_neg h
theorem aGc{xs:List UInt8}{n:Nat}{b:UInt8}(h:xs.length=(n+7)/8):(uL xs n b).length=(n+1+7)/8:=by
 unfold uL qL
 split<;>simp<;>omega
theorem cW{v:UInt64}:∀{k:Nat} {xs:List UInt8} {n:Nat},xs.length=(n+7)/8→(eW v k xs n).length=(n+k+7)/8
 |0,_,_,h=>h
 |k+1,xs,n,h=>by
  have:=cW (v:=v) (k:=k) (aGc (b:=aHi v k n) h)
  rw[show n+(k+1)=n+1+k by omega]
  exact this
theorem aOo{v:Int}{k:Nat}(hv:k=64∨(0≤v∧v<2^k∧k<64)):k=64∨(U v).toNat<2^k:=by
 refine hv.imp id fun⟨h0,h1,hk⟩=> ?_
 have hp:(2:Int)^k≤2^63:=by exact_mod_cast Nat.pow_le_pow_right (by decide) (by omega:k≤63)
 unfold U
 have e:(v%18446744073709551616).toNat=v.toNat:=by
  rw[Int.emod_eq_of_lt h0 (by omega)]
 rw[e,UInt64.toNat_ofNat_of_lt' (by show v.toNat<2^64;omega)]
 have:((v.toNat:Nat):Int)<((2^k:Nat):Int):=by push_cast;omega
 exact_mod_cast this
def amB(a:KAm)(k:Nat)(xs:List UInt8)(n:Nat):List UInt8:=eW (U a.a3) k (eW (U a.a2) k (eW (U a.a1) k (eW (U a.a0) k xs n) (n+k)) (n+k+k)) (n+k+k+k)
theorem aUn{a:KAm}{k:Nat}{xs:List UInt8}{n:Nat}(h:xs.length=(n+7)/8):(amB a k xs n).length=(n+k+k+k+k+7)/8:=cW (cW (cW (cW h)))
def aOp(x:KAct)(xs:List UInt8)(n:Nat):List UInt8:=amB x.a 31 (eW (U x.hold) 64 (eW (U x.other) 17 (eW (U x.owner) 17 (eW (U ((x.kind.toNat:Nat):Int)) 3 xs n) (n+3)) (n+3+17)) (n+3+17+17)) (n+3+17+17+64)
theorem aEk{x:KAct}{xs:List UInt8}{n:Nat}(h:xs.length=(n+7)/8):(aOp x xs n).length=(n+225+7)/8:=aUn (cW (cW (cW (cW h))))
def tO:List KAct→List UInt8→Nat→List UInt8
 |[],xs,_=>xs
 |x::l,xs,n=>tO l (aOp x xs n) (n+225)
def fF(au nu:Int)(acts:List KAct)(xs:List UInt8)(n:Nat):List UInt8:=tO acts (eW (U (acts.length:Int)) 9 (eW (U nu) 41 (eW (U au) 7 xs n) (n+7)) (n+7+41)) (n+7+41+9)
theorem aAm:∀{l:List KAct} {xs:List UInt8} {n:Nat},xs.length=(n+7)/8→(tO l xs n).length=(n+225*l.length+7)/8
 |[],_,_,h=>h
 |x::l,xs,n,h=>by
  have:=aAm (l:=l) (aEk (x:=x) h)
  rw[List.length_cons,show n+225*(l.length+1)=n+225+225*l.length by omega]
  exact this
theorem aAv{au nu:Int}{l:List KAct}{xs:List UInt8}{n:Nat}(h:xs.length=(n+7)/8):(fF au nu l xs n).length=(n+57+225*l.length+7)/8:=aAm (cW (cW (cW h)))
theorem aLo{l:List KAct}{k:Nat}{x:KAct}{ys:List UInt8}{m:Nat}(hx:l[k]? =some x):tO (l.drop k) ys m=tO (l.drop (k+1)) (aOp x ys m) (m+225):=by
 obtain⟨hk,rfl⟩:=List.getElem?_eq_some_iff.1 hx
 rw[List.drop_eq_getElem_cons hk];rfl
open Go.Sl
def nJ(xs:List UInt8)(i:Nat):Bool:=(xs.getD (i/8) 0).toNat.testBit (7-i%8)
def aJ(v:UInt64)(k:Nat):List Bool:=(List.range k).map fun j=>v.toNat.testBit (k-1-j)
theorem cT(v:UInt64)(k:Nat):(aJ v k).length=k:=by simp[aJ]
theorem aPc{v:UInt64}{k i:Nat}(h:i<k):(aJ v k)[i]? =some (v.toNat.testBit (k-1-i)):=by
 unfold aJ
 rw[List.getElem?_map,List.getElem?_range h];rfl
theorem aHj(v:UInt64)(k:Nat):aJ v (k+1)=v.toNat.testBit k::aJ v k:=by
 unfold aJ
 rw[List.range_succ_eq_map,List.map_cons,List.map_map]
 rw[show v.toNat.testBit (k+1-1-0)=v.toNat.testBit k from rfl]
 refine congrArg _ (List.map_congr_left fun j _=> ?_)
 show v.toNat.testBit (k+1-1-(j+1))=_
 rw[show k+1-1-(j+1)=k-1-j by omega]
structure Wr(xs:List UInt8)(n:Nat)(l:List Bool):Prop where
 len:xs.length=(n+7)/8
 num:l.length=n
 bit:∀i,nJ xs i=l.getD i false
theorem aIz:Wr [] 0 []:=⟨rfl,rfl,fun i=>by simp[nJ]⟩
theorem aLt(v:UInt64)(j n i:Nat)(hj:j<64)(hi:i<8):(aHi v j n).toNat.testBit (7-i)=(decide (i=n%8)&&v.toNat.testBit j):=by
 have hb:((v>>>UInt64.ofNat j)&&&(1:UInt64)).toUInt8.toNat=(v.toNat.testBit j).toNat:=by
  have e:(UInt64.ofNat j).toNat%64=j:=by simp;omega
  rw[UInt64.toNat_toUInt8,UInt64.toNat_and,UInt64.toNat_shiftRight,e]
  show(v.toNat>>>j&&&1)%256=_
  rw[Nat.and_one_is_mod,Nat.testBit_eq_decide_div_mod_eq,Nat.shiftRight_eq_div_pow]
  rcases Nat.mod_two_eq_zero_or_one (v.toNat/2^j)with h|h<;>simp[h]
 have h8:(UInt8.ofNat (7-n%8)).toNat%8=7-n%8:=by simp;omega
 unfold aHi
 rw[UInt8.toNat_shiftLeft,h8,hb]
 show((v.toNat.testBit j).toNat<<<(7-n%8)%2^8).testBit (7-i)=_
 rw[Nat.testBit_mod_two_pow,Nat.testBit_shiftLeft]
 cases v.toNat.testBit j
 ·simp
 ·have e1:decide (7-i<8)=true:=by simp;omega
  rw[e1,Bool.true_and,Bool.and_true]
  by_cases hi':i=n%8
  ·subst hi'
   simp
  ·by_cases hg:7-n%8≤7-i
   ·have e2:(true.toNat).testBit (7-i-(7-n%8))=false:=by
     have e3:7-i-(7-n%8)=(7-i-(7-n%8)-1)+1:=by omega
     rw[e3];show Nat.testBit 1 _=false
     rw[Nat.testBit_succ];simp
    rw[e2];simp[hi']
   ·simp[hg,hi']
theorem aMp(xs:List UInt8)(n i:Nat):nJ (qL xs n) i=nJ xs i:=by
 unfold qL
 split
 ·unfold nJ
  by_cases h:i/8<xs.length
  ·rw[List.getD_eq_getElem?_getD,List.getD_eq_getElem?_getD,List.getElem?_append_left h]
  ·rw[List.getD_eq_getElem?_getD,List.getD_eq_getElem?_getD,List.getElem?_append_right (by omega),List.getElem?_eq_none (l:=xs) (by omega)]
   cases e:([0]:List UInt8)[i/8-xs.length]? with
   |none=>rfl
   |some y=>
    obtain⟨h1,h2⟩:=List.getElem?_eq_some_iff.1 e
    have:y=0:=by
     rw[←h2];simp at h1
     simp[h1]
    rw[this];rfl
 ·rfl
theorem aSf{xs:List UInt8}{n:Nat}{v:UInt64}{j:Nat}(hl:xs.length=(n+7)/8)(hj:j<64)(i:Nat):nJ (uL xs n (aHi v j n)) i=(nJ xs i||(decide (i=n)&&v.toNat.testBit j)):=by
 have hg:n/8<(qL xs n).length:=by unfold qL;split<;>(try rw[List.length_append,List.length_singleton])<;>omega
 have hx:=aMp xs n i
 unfold nJ at hx
 unfold uL nJ
 by_cases h:i/8=n/8
 ·rw[List.getD_eq_getElem?_getD,h,List.getElem?_set_self hg]
  rw[h]at hx
  simp only[Option.getD_some]
  rw[UInt8.toNat_or,Nat.testBit_or,aLt v j n (i%8) hj (Nat.mod_lt _ (by decide)),hx]
  congr 2
  exact decide_eq_decide.2 ⟨fun e=>by omega,fun e=>by rw[e]⟩
 ·rw[List.getD_eq_getElem?_getD,List.getElem?_set_ne (by omega),←List.getD_eq_getElem?_getD,hx]
  have:¬i=n:=fun e=>h (by rw[e])
  simp[this]
theorem aKr{xs:List UInt8}{n:Nat}{l:List Bool}{v:UInt64}{j:Nat}(h:Wr xs n l)(hj:j<64):Wr (uL xs n (aHi v j n)) (n+1) (l++[v.toNat.testBit j]):=by
 refine⟨aGc h.len,by simp[h.num],fun i=> ?_⟩
 rw[aSf h.len hj,h.bit]
 have hn:=h.num
 rcases Nat.lt_trichotomy i n with h1|h1|h1
 ·rw[List.getD_eq_getElem?_getD,List.getD_eq_getElem?_getD,List.getElem?_append_left (by omega)]
  simp[Nat.ne_of_lt h1]
 ·subst h1
  rw[List.getD_eq_getElem?_getD,List.getD_eq_getElem?_getD,List.getElem?_append_right (by omega),List.getElem?_eq_none (by omega),hn]
  simp
 ·rw[List.getD_eq_getElem?_getD,List.getD_eq_getElem?_getD,List.getElem?_eq_none (by omega),List.getElem?_eq_none (by simp;omega)]
  simp[Nat.ne_of_gt h1]
theorem jC{v:UInt64}:∀{k:Nat} {xs:List UInt8} {n:Nat} {l:List Bool},k≤64→Wr xs n l→Wr (eW v k xs n) (n+k) (l++aJ v k)
 |0,_,_,_,_,h=>by
  rw[show ∀l:List Bool,l++aJ v 0=l from fun l=>List.append_nil l];exact h
 |k+1,xs,n,l,hk,h=>by
  have:=jC (v:=v) (k:=k) (by omega) (aKr (v:=v) (j:=k) h (by omega))
  rw[aHj,show n+(k+1)=n+1+k by omega,show l++v.toNat.testBit k::aJ v k=l++[v.toNat.testBit k]++aJ v k by simp]
  exact this
def lN(a:KAm)(k:Nat):List Bool:=aJ (U a.a0) k++(aJ (U a.a1) k++(aJ (U a.a2) k++aJ (U a.a3) k))
def aCj(x:KAct):List Bool:=aJ (U ((x.kind.toNat:Nat):Int)) 3++(aJ (U x.owner) 17++(aJ (U x.other) 17++(aJ (U x.hold) 64++lN x.a 31)))
def tP:List KAct→List Bool
 |[]=>[]
 |x::l=>aCj x++tP l
def kI(au nu:Int)(al:List KAct):List Bool:=aJ (U au) 7++(aJ (U nu) 41++(aJ (U (al.length:Int)) 9++tP al))
theorem aOt{a:KAm}{k:Nat}{xs:List UInt8}{n:Nat}{l:List Bool}(hk:k≤64)(h:Wr xs n l):Wr (amB a k xs n) (n+k+k+k+k) (l++lN a k):=by
 have:=jC (v:=U a.a3) hk (jC (v:=U a.a2) hk (jC (v:=U a.a1) hk (jC (v:=U a.a0) hk h)))
 simpa only[List.append_assoc,lN,amB]using this
theorem aUi{x:KAct}{xs:List UInt8}{n:Nat}{l:List Bool}(h:Wr xs n l):Wr (aOp x xs n) (n+225) (l++aCj x):=by
 have:=aOt (a:=x.a) (k:=31) (by decide) (jC (v:=U x.hold) (k:=64) (by decide) (jC (v:=U x.other) (k:=17) (by decide) (jC (v:=U x.owner) (k:=17) (by decide) (jC (v:=U ((x.kind.toNat:Nat):Int)) (k:=3) (by decide) h))))
 rw[show n+225=n+3+17+17+64+31+31+31+31 by omega]
 simpa only[List.append_assoc,aCj,aOp]using this
theorem aEl:∀{al:List KAct} {xs:List UInt8} {n:Nat} {l:List Bool},Wr xs n l→Wr (tO al xs n) (n+225*al.length) (l++tP al)
 |[],_,_,_,h=>by simpa[tO,tP]using h
 |x::al,xs,n,l,h=>by
  have:=aEl (al:=al) (aUi (x:=x) h)
  rw[List.length_cons,show n+225*(al.length+1)=n+225+225*al.length by omega]
  simpa only[List.append_assoc,tP,tO]using this
theorem aFg{au nu:Int}{al:List KAct}{xs:List UInt8}{n:Nat}{l:List Bool}(h:Wr xs n l):Wr (fF au nu al xs n) (n+(57+225*al.length)) (l++kI au nu al):=by
 have:=aEl (al:=al) (jC (v:=U (al.length:Int)) (k:=9) (by decide) (jC (v:=U nu) (k:=41) (by decide) (jC (v:=U au) (k:=7) (by decide) h)))
 rw[show n+(57+225*al.length)=n+7+41+9+225*al.length by omega]
 simpa only[List.append_assoc,kI,fF]using this
structure Rd(xs:List UInt8)(n:Nat)(l:List Bool):Prop where
 pad:n+l.length≤8*xs.length∧8*xs.length≤n+l.length+7
 bit:∀i,nJ xs (n+i)=l.getD i false
theorem Wr.rd{xs:List UInt8}{n:Nat}{l:List Bool}(h:Wr xs n l):Rd xs 0 l:=by
 have h1:=h.len;have h2:=h.num
 exact⟨by omega,fun i=>by rw[Nat.zero_add];exact h.bit i⟩
theorem Rd.drop{xs:List UInt8}{n:Nat}{a l:List Bool}(h:Rd xs n (a++l)):Rd xs (n+a.length) l:=by
 have h1:=h.pad
 rw[List.length_append]at h1
 refine⟨by omega,fun i=> ?_⟩
 rw[Nat.add_assoc,h.bit,List.getD_eq_getElem?_getD,List.getD_eq_getElem?_getD,List.getElem?_append_right (by omega),show a.length+i-a.length=i by omega]
def aAq(xs:List UInt8)(i:Nat):UInt64:=((xs.getD (i/8) 0)>>>UInt8.ofNat (7-i%8)&&&(1:UInt8)).toUInt64
def zB(xs:List UInt8)(n:Nat):Nat→UInt64
 |0=>0
 |j+1=>(zB xs n j<<<(1:UInt64))|||aAq xs (n+j)
theorem aAr(xs:List UInt8)(i:Nat):(aAq xs i).toNat=(nJ xs i).toNat:=by
 unfold aAq nJ
 have h8:(UInt8.ofNat (7-i%8)).toNat%8=7-i%8:=by simp;omega
 rw[UInt8.toNat_toUInt64,UInt8.toNat_and,UInt8.toNat_shiftRight,h8]
 show((xs.getD (i/8) 0).toNat>>>(7-i%8)&&&1)=_
 rw[Nat.and_one_is_mod,Nat.testBit_eq_decide_div_mod_eq,Nat.shiftRight_eq_div_pow]
 generalize (xs.getD (i/8) 0).toNat/2^(7-i%8)=z
 rcases Nat.mod_two_eq_zero_or_one z with h|h<;>simp[h]
theorem aKs{xs:List UInt8}{n k:Nat}{v:UInt64}(hk:k≤64)(hv:k=64∨v.toNat<2^k)(h:∀i,i<k→nJ xs (n+i)=v.toNat.testBit (k-1-i)):∀j,j≤k→(zB xs n j).toNat=v.toNat>>>(k-j)
 |0,_=>by
  have hv':v.toNat<2^k:=by
   rcases hv with rfl|h
   ·exact v.toNat_lt
   ·exact h
  rw[Nat.sub_zero,Nat.shiftRight_eq_div_pow,Nat.div_eq_of_lt hv'];rfl
 |j+1,hj=>by
  have ih:=aKs hk hv h j (by omega)
  have hv':v.toNat<2^64:=v.toNat_lt
  unfold zB
  rw[UInt64.toNat_or,UInt64.toNat_shiftLeft,ih,aAr,h j (by omega)]
  have e1:(1:UInt64).toNat%64=1:=rfl
  rw[e1]
  have e2:v.toNat>>>(k-j)<<<1%2^64=v.toNat>>>(k-j)<<<1:=by
   refine Nat.mod_eq_of_lt ?_
   rw[Nat.shiftLeft_eq,Nat.shiftRight_eq_div_pow]
   have h1:2^1≤2^(k-j):=Nat.pow_le_pow_right (by decide) (by omega)
   have h2:v.toNat/2^(k-j)≤v.toNat/2^1:=Nat.div_le_div_left h1 (by decide)
   omega
  rw[e2]
  apply Nat.eq_of_testBit_eq
  intro i
  rw[Nat.testBit_or,Nat.testBit_shiftLeft,Nat.testBit_shiftRight,Nat.testBit_shiftRight]
  cases i with
  |zero=>
   have:k-1-j=k-(j+1)+0:=by omega
   rw[←this]
   cases v.toNat.testBit (k-1-j)<;>rfl
  |succ i=>
   have:k-j+(i+1-1)=k-(j+1)+(i+1):=by omega
   rw[this]
   have e3:((v.toNat.testBit (k-1-j)).toNat).testBit (i+1)=false:=by cases v.toNat.testBit (k-1-j)<;>simp[Nat.testBit_succ]
   rw[e3];simp
theorem Rd.get{xs:List UInt8}{n k:Nat}{v:UInt64}{l:List Bool}(h:Rd xs n (aJ v k++l))(hk:k≤64)(hv:k=64∨v.toNat<2^k):zB xs n k=v∧Rd xs (n+k) l∧n+k≤8*xs.length:=by
 have hd:=h.drop
 have hp:=h.pad
 rw[List.length_append,cT]at hp
 rw[cT]at hd
 refine⟨UInt64.toNat_inj.1 ?_,hd,by omega⟩
 have:=aKs (xs:=xs) (n:=n) hk hv (fun i hi=>by
  rw[h.bit,List.getD_eq_getElem?_getD,List.getElem?_append_left (by rw[cT];exact hi),aPc hi];rfl) k (Nat.le_refl _)
 rw[this,Nat.sub_self];rfl
theorem Rd.end_{xs:List UInt8}{n:Nat}(h:Rd xs n []):zB xs n (8*xs.length-n)=0∧n≤8*xs.length∧8*xs.length≤n+7:=by
 have hp:=h.pad
 simp only[List.length_nil,Nat.add_zero]at hp
 refine⟨?_,hp.1,hp.2⟩
 have hz:∀j,zB xs n j=0:=by
  intro j
  induction j with
  |zero=>rfl
  |succ j ih=>
   unfold zB
   rw[ih]
   have:aAq xs (n+j)=0:=by
    apply UInt64.toNat_inj.1
    rw[aAr,h.bit];rfl
   rw[this];rfl
 exact hz _
open Go Go.Sl
structure MOk(h:bV)(z:KMh×KMem):Prop where
 au:z.1.author=z.2.d.author
 nu:z.1.number=z.2.d.number
 dn:z.1.done=z.2.r.done
 at_:z.1.at_=z.2.r.at_
 e:z.1.e=z.2.r.e
 acts:Sl dI.R h (.slice z.1.p z.1.n z.1.c) z.2.d.acts
 holds:Sl bA.R h (.slice z.1.q z.1.m z.1.k) z.2.r.holds
theorem MOk.mono{h h':bV}{z:KMh×KMem}(s:iZ h h')(m:MOk h z):MOk h' z:=⟨m.au,m.nu,m.dn,m.at_,m.e,Sl.mono _ _ _ _ _ s m.acts,Sl.mono _ _ _ _ _ s m.holds⟩
def cV(zs:List (KMh×KMem)):bU:=fun h=>∀z∈zs,MOk h z
theorem cV.mono(zs:List (KMh×KMem)):sG (cV zs):=fun _ _ s h z hz=>(h z hz).mono s
theorem yS:cV [] fun _=>none:=fun z hz=>by cases hz
theorem uE{T T2 c k:Nat}{p q:Option Addr}{zs:List (KMh×KMem)}{au nu at_ e:Int}{dn:Bool}{acts:List KAct}{holds:List Int}:
  ∀a,iY [aM dI T p c acts,aM bA T2 q k holds,cV zs] a→cV (zs++[(⟨au,nu,p,acts.length,c,dn,at_,e,q,holds.length,k⟩,⟨⟨au,nu,acts⟩,⟨dn,at_,e,holds⟩⟩)]) a:=fun a ha=>by
 obtain⟨a1,b1,d1,s1,s2,h1,a2,b2,d2,s3,s4,h2,a3,b3,d3,s5,s6,h3,_⟩:=ha
 intro z hz
 rcases List.mem_append.1 hz with hz|hz
 ·exact(h3 z hz).mono (fun b o hb=>s2 b o (s4 b o (s5 b o hb)))
 ·rw[List.mem_singleton.1 hz]
  exact⟨rfl,rfl,rfl,rfl,rfl,Sl.mono _ _ _ _ _ s1 (jE h1),Sl.mono _ _ _ _ _ (fun b o hb=>s2 b o (s3 b o hb)) (jE h2)⟩
section
variable {β:Base}{L:List bU}{zs:List (KMh×KMem)}{z:KMh×KMem}
theorem bBh(i:Nat)(hi:L[i]? =some (cV zs))(hz:z∈zs):bF β L (fun h=>Sl dI.R h (.slice z.1.p z.1.n z.1.c) z.2.d.acts):=bF.of_res i hi (Sl.mono _ _ _) fun _ h=>(h z hz).acts
theorem bBi(i:Nat)(hi:L[i]? =some (cV zs))(hz:z∈zs):bF β L (fun h=>Sl bA.R h (.slice z.1.q z.1.m z.1.k) z.2.r.holds):=bF.of_res i hi (Sl.mono _ _ _) fun _ h=>(h z hz).holds
end
end Go.Td
namespace Go.Jn
open Go.Sl
theorem kZ{n:Nat}(h:n<18446744073709551616):(U (n:Int)).toNat=n:=by
 have h1:=sT (n:Int)
 rw[aEe]at h1
 omega
open Go.Sl
theorem tk{a b:Bs}{k:Nat}(h:a.length=k):(a++b).take k=a:=by rw[←h];simp
theorem dr{a b:Bs}{k:Nat}(h:a.length=k):(a++b).drop k=b:=by rw[←h];simp
theorem aNi{A B C p D rest:Bs}(hA:A.length=4)(hB:B.length=4)(hC:C.length=8)(hD:D.length=8):
  rsz (A++B++C++p++D++rest)=bS A∧rin (A++B++C++p++D++rest)=bS B∧rno (A++B++C++p++D++rest)=bS C∧
  ((bS A).toNat=p.length→rpl (A++B++C++p++D++rest)=p∧aXk (A++B++C++p++D++rest)=bS D):=by
 have e0:(A++B++C++p++D++rest).take 4=A:=by simp only[List.append_assoc];exact tk hA
 have e1:rsz (A++B++C++p++D++rest)=bS A:=by rw[rsz,e0]
 refine⟨e1,?_,?_,fun hl=>⟨?_,?_⟩⟩
 ·rw[rin,List.drop_take,show(8:Nat)-4=4 from rfl]
  simp only[List.append_assoc]
  rw[dr hA,tk hB]
 ·rw[rno,List.drop_take,show(16:Nat)-8=8 from rfl]
  rw[show A++B++C++p++D++rest=(A++B)++(C++(p++(D++rest))) by simp,dr (by simp[hA,hB]),tk hC]
 ·rw[rpl,e1,hl,List.drop_take,show 16+p.length-16=p.length by omega]
  rw[show A++B++C++p++D++rest=(A++B++C)++(p++(D++rest)) by simp,dr (by simp[hA,hB,hC]),tk rfl]
 ·rw[aXk,e1,hl,List.drop_take,show 24+p.length-(16+p.length)=8 by omega]
  rw[show A++B++C++p++D++rest=(A++B++C++p)++(D++rest) by simp,dr (by simp[hA,hB,hC];omega),tk hD]
theorem aVs(e n:Int)(p:Bs):bP e n p=be 4 (U (p.length:Int))++be 4 (~~~(U (p.length:Int)))++be 8 (U n)++p++be 8 (aCu e n p):=rfl
theorem aGh{e:Int}{n:Nat}{p rest:Bs}(hp:p.length≤65536)(hn:n≤4611686018427387904):jU e (bP e n p++rest)=true∧gW (bP e n p++rest)=n∧bO (bP e n p++rest)=p:=by
 have hU:(U (p.length:Int)).toNat=p.length:=kZ (by omega)
 have hs:bS (be 4 (U (p.length:Int)))=U (p.length:Int):=by
  apply UInt64.toNat_inj.1
  rw[wA,hU];omega
 have h:=aNi (A:=be 4 (U (p.length:Int))) (B:=be 4 (~~~(U (p.length:Int)))) (C:=be 8 (U n)) (p:=p) (D:=be 8 (aCu e n p)) (rest:=rest) (bT _ _) (bT _ _) (bT _ _) (bT _ _)
 rw[←aVs]at h
 obtain⟨h1,h2,h3,h4⟩:=h
 obtain⟨h5,h6⟩:=h4 (by rw[hs,hU])
 rw[hs]at h1
 rw[pK]at h3 h6
 have hno:(U (n:Int)).toNat=n:=kZ (by omega)
 have hok:¬lZ (bP e n p++rest):=by
  unfold lZ
  rw[h1,h2,h3,hU,hno,aUh (by rw[hU];omega)]
  have hl:(bP e n p++rest).length=24+p.length+rest.length:=by simp[dC]
  rw[hl]
  have h7:((4294967295:UInt64).toNat:Int)=4294967295:=rfl
  omega
 refine⟨?_,?_,?_⟩
 ·rw[jU,if_neg hok,h6,h3,h5,hno];simp
 ·rw[gW,if_neg hok,h3,hno]
 ·rw[bO,if_neg hok,h5]
theorem aSp{e e':Int}{n m:Nat}{p:Bs}(hp:p.length≤65536)(hm:m<24+p.length):jU e' ((bP e n p).take m)=false:=by
 have hb:lZ ((bP e n p).take m):=by
  unfold lZ
  have hlen:((bP e n p).take m).length=m:=by simp[dC];omega
  rw[hlen]
  by_cases h24:m<24
  ·left;omega
  ·have hU:(U (p.length:Int)).toNat=p.length:=kZ (by omega)
   have hs:rsz ((bP e n p).take m)=U (p.length:Int):=by
    rw[rsz,List.take_take,Nat.min_eq_left (by omega)]
    have:(bP e n p).take 4=be 4 (U (p.length:Int)):=by
     simp only[bP,List.append_assoc];exact tk (bT _ _)
    rw[this]
    apply UInt64.toNat_inj.1
    rw[wA,hU];omega
   rw[hs,hU]
   right;right;right;left;omega
 rw[jU,if_pos hb]
theorem xN(e:Int):jU e []=false:=by
 rw[jU,if_pos (.inl (by simp))]
open Go.Sl
def lG(e:Nat):Nat→List Bs→Bs
 |_,[]=>[]
 |n,r::rs=>bP e n r++lG e (n+1) rs
theorem oQ(e n:Nat):lG e n []=[]:=by rw[lG]
theorem oP(e n:Nat)(r:Bs)(rs:List Bs):lG e n (r::rs)=bP e n r++lG e (n+1) rs:=by rw[lG]
theorem nO(e:Nat)(rs:List Bs):∀n:Nat,(lG e n rs).length=bJ rs:=by
 induction rs with
 |nil=>intro n;rw[oQ,bJ];rfl
 |cons r rs ih=>intro n;rw[oP,List.length_append,dC,ih (n+1),bJ]
theorem aMl(e:Nat)(b:Bs)(rs:List Bs):∀n:Nat,lG e n (rs++[b])=lG e n rs++bP e ((n+rs.length:Nat):Int) b:=by
 induction rs with
 |nil=>intro n;rw[List.nil_append,oP,oQ,oQ,List.append_nil,List.nil_append,List.length_nil,Nat.add_zero]
 |cons r rs ih=>intro n;rw[List.cons_append,oP,ih (n+1),oP,List.append_assoc,List.length_cons,show n+1+rs.length=n+(rs.length+1) by omega]
theorem aNa{e n f:Nat}{r tail:Bs}(hr:r.length≤65536)(hn:n<4611686018427387904):nR e (f+1) n (bP e n r++tail)=r::nR e f (n+1) tail:=by
 have h1:=aGh (e:=e) (n:=n) (p:=r) (rest:=tail) hr (by omega)
 have e2:(bP e n r++tail).drop (24+r.length)=tail:=dr (dC _ _ _)
 rw[nR,if_pos ⟨h1.1,h1.2.1,by omega⟩,h1.2.2,e2]
theorem aMz{e:Nat}(rs:List Bs):∀(n f:Nat) (tail:Bs),(∀b∈rs,b.length≤65536)→n+rs.length≤4611686018427387904→jU e tail=false→rs.length<f→nR e f n (lG e n rs++tail)=rs:=by
 induction rs with
 |nil=>
  intro n f tail _ _ ht hf
  obtain⟨f,rfl⟩:∃g,f=g+1:=⟨f-1,by simp at hf;omega⟩
  rw[oQ,List.nil_append,nR,if_neg (by rw[ht];simp)]
 |cons r rs ih=>
  intro n f tail hb hn ht hf
  obtain⟨f,rfl⟩:∃g,f=g+1:=⟨f-1,by simp at hf;omega⟩
  simp only[List.length_cons]at hn hf
  have e1:lG e n (r::rs)++tail=bP e n r++(lG e (n+1) rs++tail):=by rw[oP,List.append_assoc]
  rw[e1,aNa (hb r (by simp)) (by omega),ih (n+1) f tail (fun b hb'=>hb b (by simp[hb'])) (by omega) ht (by omega)]
def pW(i:KI):Bs:=(if i.epoch=0 then []else bP i.epoch ((i.next-i.recs.length:Nat):Int) i.state)++lG i.epoch (i.next-i.recs.length) i.recs
structure WF(i:KI):Prop where
 size:i.size=(pW i).length
 next:i.recs.length≤i.next
 zero:i.epoch=0→i.state=[]∧i.next=i.recs.length
 big:i.next≤4611686018427387904
 state:i.state.length≤65536
 recs:∀b∈i.recs,b.length≤65536
theorem aBo{e n:Nat}{rs:List Bs}{tail:Bs}(hb:∀b∈rs,b.length≤65536)(hn:n+rs.length≤4611686018427387904)(ht:jU e tail=false):mW e n (lG e n rs++tail)=rs:=by
 refine aMz rs n _ tail hb hn ht ?_
 have h1:rs.length≤(lG e n rs).length:=by
  rw[nO]
  clear hb hn ht
  induction rs with
  |nil=>simp
  |cons a l ih=>simp only[List.length_cons,bJ];omega
 simp;omega
theorem aSm{k:KS}{i:KI}{tail:Bs}(he:bL k.head=i.epoch)(ha:k.area i.epoch=pW i++tail)(ht:jU i.epoch tail=false)(wf:WF i):oZ k=some i:=by
 obtain⟨ep,nx,stt,rs,sz⟩:=i
 obtain⟨w1,w2,w3,w4,w5,w6⟩:=wf
 simp only at*
 unfold oZ
 simp only[he,ha]
 by_cases h0:ep=0
 ·subst h0
  obtain⟨z1,z2⟩:=w3 rfl
  subst z1;subst z2
  have e1:pW ⟨0,rs.length,[],rs,sz⟩=lG 0 0 rs:=by simp[pW]
  rw[e1]at w1⊢
  rw[if_pos rfl,aBo w6 (by omega) ht]
  rw[nO]at w1
  rw[w1]
 ·have e1:pW ⟨ep,nx,stt,rs,sz⟩=bP ep ((nx-rs.length:Nat):Int) stt++lG ep (nx-rs.length) rs:=by simp[pW,h0]
  rw[e1]at w1⊢
  rw[List.append_assoc]
  have h1:=aGh (e:=ep) (n:=nx-rs.length) (p:=stt) (rest:=lG ep (nx-rs.length) rs++tail) w5 (by omega)
  have e2:(bP ep ((nx-rs.length:Nat):Int) stt++(lG ep (nx-rs.length) rs++tail)).drop (24+stt.length)=lG ep (nx-rs.length) rs++tail:=dr (dC _ _ _)
  rw[if_neg h0,if_pos h1.1,h1.2.1,h1.2.2,e2,aBo w6 (by omega) ht]
  simp only[List.length_append,dC,nO]at w1
  rw[w1,show nx-rs.length+rs.length=nx by omega]
def hd4(m0:UInt64)(s0:Bs)(m1:UInt64)(s1:Bs):Bs:=be 8 m0++s0++(be 8 m1++s1)
def ok4(j m:UInt64)(s:Bs):Prop:=m<4611686018427387904∧m%2=j∧bS s=eR ((m.toNat:Nat):Int)
instance (j m:UInt64)(s:Bs):Decidable (ok4 j m s):=by unfold ok4;infer_instance
def wT(b j m:UInt64)(s:Bs):UInt64:=if b<m∧ok4 j m s then m else b
theorem mR{m0 m1:UInt64}{s0 s1:Bs}(h0:s0.length=8)(h1:s1.length=8):(hd4 m0 s0 m1 s1).length=32:=by simp[hd4,bT,h0,h1]
theorem kV{m0 m1:UInt64}{s0 s1:Bs}(h0:s0.length=8)(h1:s1.length=8):bL (hd4 m0 s0 m1 s1)=(wT (wT 0 0 m0 s0) 1 m1 s1).toNat:=by
 have hl:=mR (m0:=m0) (m1:=m1) h0 h1
 have b0:=bT 8 m0
 have b1:=bT 8 m1
 have w0:bS (((hd4 m0 s0 m1 s1).take (0*16+8)).drop (0*16))=m0:=by
  simp only[hd4,List.append_assoc]
  rw[show 0*16+8=8 from rfl,tk b0,show 0*16=0 from rfl,List.drop_zero,pK]
 have w1:((hd4 m0 s0 m1 s1).take (0*16+16)).drop (0*16+8)=s0:=by
  rw[List.drop_take]
  simp only[hd4,List.append_assoc]
  rw[show 0*16+8=8 from rfl,dr b0,show 0*16+16-8=8 from rfl,tk h0]
 have w2:bS (((hd4 m0 s0 m1 s1).take (1*16+8)).drop (1*16))=m1:=by
  rw[List.drop_take]
  unfold hd4
  rw[show 1*16=16 from rfl,dr (by simp[b0,h0]),show 16+8-16=8 from rfl,tk b1,pK]
 have w3:((hd4 m0 s0 m1 s1).take (1*16+16)).drop (1*16+8)=s1:=by
  rw[List.drop_take,show hd4 m0 s0 m1 s1=(be 8 m0++s0++be 8 m1)++s1 by simp[hd4]]
  rw[show 1*16+8=24 from rfl,dr (by simp[b0,h0,b1]),show 1*16+16-24=8 from rfl,List.take_of_length_le (by omega)]
 unfold bL
 rw[hl]
 show(eO _ 2).toNat=_
 rw[eO,eO,eO]
 unfold pX
 simp only[w0,w1,w2,w3]
 have u0:U ((0*16/16:Nat):Int)=0:=by decide
 have u1:U ((1*16/16:Nat):Int)=1:=by decide
 rw[u0,u1]
 rfl
theorem aLs:∀m:Fin 256,be 8 (U ((m.val:Nat):Int))=List.replicate 7 0++[UInt8.ofNat m.val]:=by decide+kernel
theorem aZa{m:Nat}(h:m<256):be 8 (U (m:Int))=List.replicate 7 0++[UInt8.ofNat m]:=aLs ⟨m,h⟩
theorem aBy{m e q:Nat}{s t:Bs}(hm:m<256)(he:e<256)(hs:s.length=8)(ht:t.length=8)(hq:q≤16):
  ∃(m':Nat) (s':Bs),m'<256∧s'.length=8∧(be 8 (U (e:Int))++t).take q++(be 8 (U (m:Int))++s).drop q=be 8 (U (m':Int))++s'∧(m'=m∧s'=s∨m'=e)∧(q=16→m'=e∧s'=t):=by
 have b0:=bT 8 (U (e:Int))
 have b1:=bT 8 (U (m:Int))
 by_cases h8:q<8
 ·refine⟨m,s,hm,hs,?_,.inl ⟨rfl,rfl⟩,fun h=>by omega⟩
  rw[List.take_append_of_le_length (by omega),List.drop_append_of_le_length (by omega),aZa hm,aZa he]
  rw[List.take_append_of_le_length (by simp;omega),List.drop_append_of_le_length (by simp;omega),List.take_replicate,List.drop_replicate,←List.append_assoc,←List.append_assoc,List.replicate_append_replicate,Nat.min_eq_left (by omega),show q+(7-q)=7 by omega]
 ·refine⟨e,t.take (q-8)++s.drop (q-8),he,by simp[hs,ht];omega,?_,.inr rfl,fun h=>⟨rfl,?_⟩⟩
  ·rw[List.take_append,List.drop_append,List.take_of_length_le (by omega:(be 8 (U (e:Int))).length≤q),List.drop_of_length_le (by omega:(be 8 (U (m:Int))).length≤q),b0,b1]
   simp
  ·subst h
   rw[List.take_of_length_le (by omega),List.drop_of_length_le (by omega)];simp
theorem aEi:∀{bs xs:Bs} {at_:Nat},at_+bs.length≤xs.length→wr xs at_ bs=xs.take at_++bs++xs.drop (at_+bs.length)
 |[],xs,at_,_=>by simp[wr]
 |b::bs,xs,at_,h=>by
  have hl:at_<xs.length:=by simp at h;omega
  rw[wr,if_pos hl,aEi (by simp at h⊢;omega)]
  simp only[List.length_cons]
  rw[List.drop_set_of_lt (by omega),show at_+1+bs.length=at_+(bs.length+1) by omega]
  congr 1
  rw[List.take_add_one]
  rw[List.getElem?_set_self hl,List.take_set_of_le (by omega)]
  simp
theorem aIy:∀{bs xs:Bs},wr xs xs.length bs=xs++bs
 |[],xs=>by simp[wr]
 |b::bs,xs=>by
  rw[wr,if_neg (by omega)]
  have:=aIy (bs:=bs) (xs:=xs++[b])
  simp only[List.length_append,List.length_cons,List.length_nil]at this
  rw[this];simp
def jK(head:Bs)(e:Nat):Prop:=(head=[]∧e=0)∨∃m0 s0 m1 s1,m0<256∧m1<256∧s0.length=8∧s1.length=8∧head=hd4 (U ((m0:Nat):Int)) s0 (U ((m1:Nat):Int)) s1∧bL head=e
theorem jK.epoch{head:Bs}{e:Nat}(h:jK head e):bL head=e:=by
 rcases h with⟨rfl,rfl⟩|⟨_,_,_,_,_,_,_,_,_,h⟩
 ·rfl
 ·exact h
theorem jK.len{head:Bs}{e:Nat}(h:jK head e):head.length=0∨head.length=32:=by
 rcases h with⟨rfl,rfl⟩|⟨_,_,_,_,_,_,h0,h1,rfl,_⟩
 ·left;rfl
 ·right;exact mR h0 h1
theorem aOl:jK (List.replicate 32 0) 0:= .inr ⟨0,List.replicate 8 0,0,List.replicate 8 0,by decide,by decide,by decide,by decide,by decide+kernel,by decide+kernel⟩
theorem nD{a b:UInt64}:a<b↔a.toNat<b.toNat:=UInt64.lt_iff_toNat_lt
theorem iO(b j m:UInt64)(s:Bs):(wT b j m s=m∧b<m∧ok4 j m s)∨(wT b j m s=b∧¬(b<m∧ok4 j m s)):=by
 unfold wT
 split
 ·rename_i h;exact .inl ⟨rfl,h⟩
 ·rename_i h;exact .inr ⟨rfl,h⟩
theorem aKn{e:Nat}(h:e<256):(U (e:Int))%2=U ((e%2:Nat):Int):=by
 apply UInt64.toNat_inj.1
 rw[UInt64.toNat_mod,kZ (by omega),kZ (by omega)];rfl
theorem yI{head:Bs}{e q:Nat}(h:jK head e)(hl:head.length=32)(he:e+1<256)(hq:q≤16):
  (jK (wr head ((e+1)%2*16) ((kQ (e+1)).take q)) e∨jK (wr head ((e+1)%2*16) ((kQ (e+1)).take q)) (e+1))∧(q=16→jK (wr head ((e+1)%2*16) ((kQ (e+1)).take q)) (e+1)):=by
 rcases h with⟨rfl,_⟩|⟨m0,s0,m1,s1,hm0,hm1,h0,h1,rfl,hep⟩
 ·simp at hl
 have ht:(be 8 (eR ((e+1:Nat):Int))).length=8:=bT _ _
 have hb:=bT 8 (U ((e+1:Nat):Int))
 have hcl:((kQ (e+1)).take q).length=q:=by simp[kQ,bT];omega
 rw[kV h0 h1]at hep
 have hUe:(U ((e+1:Nat):Int)).toNat=e+1:=kZ (by omega)
 have u62:(4611686018427387904:UInt64).toNat=4611686018427387904:=rfl
 have key0:ok4 0 (U ((m0:Nat):Int)) s0→(U ((m0:Nat):Int)).toNat≤e:=by
  intro ho
  rcases iO 0 0 (U ((m0:Nat):Int)) s0 with⟨q1,_⟩|⟨q1,q2⟩
  ·rcases iO (wT 0 0 (U ((m0:Nat):Int)) s0) 1 (U ((m1:Nat):Int)) s1 with⟨r1,r2,_⟩|⟨r1,_⟩
   ·rw[q1]at r2;rw[r1]at hep;have:=nD.1 r2;omega
   ·rw[r1,q1]at hep;omega
  ·have:¬(0:UInt64)<U ((m0:Nat):Int):=fun hlt=>q2 ⟨hlt,ho⟩
   have:=mt nD.2 this
   simp at this
   omega
 have key1:ok4 1 (U ((m1:Nat):Int)) s1→(U ((m1:Nat):Int)).toNat≤e:=by
  intro ho
  rcases iO (wT 0 0 (U ((m0:Nat):Int)) s0) 1 (U ((m1:Nat):Int)) s1 with⟨r1,_⟩|⟨r1,r2⟩
  ·rw[r1]at hep;omega
  ·rw[r1]at hep
   have:¬wT 0 0 (U ((m0:Nat):Int)) s0<U ((m1:Nat):Int):=fun hlt=>r2 ⟨hlt,ho⟩
   have:=mt nD.2 this
   omega
 rcases Nat.mod_two_eq_zero_or_one (e+1)with hp|hp
 ·
  obtain⟨m',s',hm',hs',hpart,hwhat,hall⟩:=aBy (q:=q) hm0 he h0 ht hq
  have hw:wr (hd4 (U ((m0:Nat):Int)) s0 (U ((m1:Nat):Int)) s1) ((e+1)%2*16) ((kQ (e+1)).take q)=hd4 (U ((m':Nat):Int)) s' (U ((m1:Nat):Int)) s1:=by
   rw[aEi (by rw[hcl,hp,mR h0 h1];omega),hp,hcl]
   simp only[Nat.zero_mul,List.take_zero,List.nil_append,Nat.zero_add]
   unfold hd4
   rw[List.drop_append_of_le_length (by simp[bT,h0];omega),←List.append_assoc,kQ,hpart]
  rw[hw]
  have hq16:q=16→bL (hd4 (U ((m':Nat):Int)) s' (U ((m1:Nat):Int)) s1)=e+1:=by
   intro h16
   obtain⟨rfl,rfl⟩:=hall h16
   rw[kV ht h1]
   have o0:ok4 0 (U ((e+1:Nat):Int)) (be 8 (eR ((e+1:Nat):Int))):=⟨nD.2 (by rw[hUe,u62];omega),by rw[aKn he,hp];rfl,by rw[pK,hUe]⟩
   have e0:wT 0 0 (U ((e+1:Nat):Int)) (be 8 (eR ((e+1:Nat):Int)))=U ((e+1:Nat):Int):=if_pos ⟨nD.2 (by rw[hUe];simp),o0⟩
   rw[e0]
   rcases iO (U ((e+1:Nat):Int)) 1 (U ((m1:Nat):Int)) s1 with⟨_,r2,r3⟩|⟨r1,_⟩
   ·have:=key1 r3;have:=nD.1 r2;omega
   ·rw[r1,hUe]
  refine⟨?_,fun h16=> .inr ⟨m',s',m1,s1,hm',hm1,hs',h1,rfl,hq16 h16⟩⟩
  by_cases ho:ok4 0 (U ((m':Nat):Int)) s'∧m'=e+1
  ·right
   refine .inr ⟨m',s',m1,s1,hm',hm1,hs',h1,rfl,?_⟩
   obtain⟨ho,rfl⟩:=ho
   rw[kV hs' h1]
   have e0:wT 0 0 (U ((e+1:Nat):Int)) s'=U ((e+1:Nat):Int):=if_pos ⟨nD.2 (by rw[hUe];simp),ho⟩
   rw[e0]
   rcases iO (U ((e+1:Nat):Int)) 1 (U ((m1:Nat):Int)) s1 with⟨_,r2,r3⟩|⟨r1,_⟩
   ·have:=key1 r3;have:=nD.1 r2;omega
   ·rw[r1,hUe]
  ·left
   refine .inr ⟨m',s',m1,s1,hm',hm1,hs',h1,rfl,?_⟩
   rw[kV hs' h1]
   rcases hwhat with⟨rfl,rfl⟩|rfl
   ·exact hep
   ·have hno:¬ok4 0 (U ((e+1:Nat):Int)) s':=fun h=>ho ⟨h,rfl⟩
    have e0:wT 0 0 (U ((e+1:Nat):Int)) s'=0:=if_neg fun h=>hno h.2
    rw[e0]
    rcases iO (wT 0 0 (U ((m0:Nat):Int)) s0) 1 (U ((m1:Nat):Int)) s1 with⟨r1,r2,r3⟩|⟨r1,r2⟩
    ·rw[r1]at hep
     have:wT 0 1 (U ((m1:Nat):Int)) s1=U ((m1:Nat):Int):=if_pos ⟨nD.2 (by have:=nD.1 r2;simp;omega),r3⟩
     rw[this];exact hep
    ·rw[r1]at hep
     have h00:wT 0 0 (U ((m0:Nat):Int)) s0=0:=by
      rcases iO 0 0 (U ((m0:Nat):Int)) s0 with⟨q1,q2,q3⟩|⟨q1,_⟩
      ·exfalso
       have h2:=q3.2.1
       rw[aKn hm0]at h2
       rw[q1,kZ (by omega)]at hep
       have:m0%2=0:=by
        have:=congrArg UInt64.toNat h2
        rw[kZ (by omega)]at this
        exact this
       omega
      ·exact q1
     rw[h00]at hep r2
     have:wT 0 1 (U ((m1:Nat):Int)) s1=0:=if_neg r2
     rw[this];exact hep
 ·
  obtain⟨m',s',hm',hs',hpart,hwhat,hall⟩:=aBy (q:=q) hm1 he h1 ht hq
  have hw:wr (hd4 (U ((m0:Nat):Int)) s0 (U ((m1:Nat):Int)) s1) ((e+1)%2*16) ((kQ (e+1)).take q)=hd4 (U ((m0:Nat):Int)) s0 (U ((m':Nat):Int)) s':=by
   rw[aEi (by rw[hcl,hp,mR h0 h1];omega),hp,hcl]
   have hsl:(be 8 (U ((m0:Nat):Int))++s0).length=16:=by simp[bT,h0]
   unfold hd4
   rw[show 1*16=16 from rfl,tk hsl,List.append_assoc]
   congr 1
   rw[←List.drop_drop,dr hsl,kQ,hpart]
  rw[hw]
  have hq16:q=16→bL (hd4 (U ((m0:Nat):Int)) s0 (U ((m':Nat):Int)) s')=e+1:=by
   intro h16
   obtain⟨rfl,rfl⟩:=hall h16
   rw[kV h0 ht]
   have o1:ok4 1 (U ((e+1:Nat):Int)) (be 8 (eR ((e+1:Nat):Int))):=⟨nD.2 (by rw[hUe,u62];omega),by rw[aKn he,hp];rfl,by rw[pK,hUe]⟩
   have hb0:wT 0 0 (U ((m0:Nat):Int)) s0<U ((e+1:Nat):Int):=by
    rcases iO 0 0 (U ((m0:Nat):Int)) s0 with⟨q1,_,q3⟩|⟨q1,_⟩
    ·rw[q1];have:=key0 q3;exact nD.2 (by omega)
    ·rw[q1];exact nD.2 (by rw[hUe];simp)
   rw[show wT (wT 0 0 (U ((m0:Nat):Int)) s0) 1 (U ((e+1:Nat):Int)) (be 8 (eR ((e+1:Nat):Int)))=U ((e+1:Nat):Int)from if_pos ⟨hb0,o1⟩,hUe]
  refine⟨?_,fun h16=> .inr ⟨m0,s0,m',s',hm0,hm',h0,hs',rfl,hq16 h16⟩⟩
  by_cases ho:ok4 1 (U ((m':Nat):Int)) s'∧m'=e+1
  ·right
   refine .inr ⟨m0,s0,m',s',hm0,hm',h0,hs',rfl,?_⟩
   obtain⟨ho,rfl⟩:=ho
   rw[kV h0 hs']
   have hb0:wT 0 0 (U ((m0:Nat):Int)) s0<U ((e+1:Nat):Int):=by
    rcases iO 0 0 (U ((m0:Nat):Int)) s0 with⟨q1,_,q3⟩|⟨q1,_⟩
    ·rw[q1];have:=key0 q3;exact nD.2 (by omega)
    ·rw[q1];exact nD.2 (by rw[hUe];simp)
   rw[show wT (wT 0 0 (U ((m0:Nat):Int)) s0) 1 (U ((e+1:Nat):Int)) s'=U ((e+1:Nat):Int)from if_pos ⟨hb0,ho⟩,hUe]
  ·left
   refine .inr ⟨m0,s0,m',s',hm0,hm',h0,hs',rfl,?_⟩
   rw[kV h0 hs']
   rcases hwhat with⟨rfl,rfl⟩|rfl
   ·exact hep
   ·have hno:¬ok4 1 (U ((e+1:Nat):Int)) s':=fun h=>ho ⟨h,rfl⟩
    rw[show wT (wT 0 0 (U ((m0:Nat):Int)) s0) 1 (U ((e+1:Nat):Int)) s'=wT 0 0 (U ((m0:Nat):Int)) s0 from if_neg fun h=>hno h.2]
    rcases iO (wT 0 0 (U ((m0:Nat):Int)) s0) 1 (U ((m1:Nat):Int)) s1 with⟨r1,r2,r3⟩|⟨r1,_⟩
    ·exfalso
     have h2:=r3.2.1
     rw[aKn hm1]at h2
     rw[r1,kZ (by omega)]at hep
     have:m1%2=1:=by
      have:=congrArg UInt64.toNat h2
      rw[kZ (by omega)]at this
      exact this
     omega
    ·rw[r1]at hep;exact hep
open Go.Sl
theorem qU(k:KS)(e:Nat)(xs:Bs):(k.setArea e xs).area e=xs:=by
 unfold KS.setArea KS.area
 split<;>rfl
theorem nH(k:KS){e e':Nat}(h:e%2≠e'%2)(xs:Bs):(k.setArea e xs).area e'=k.area e':=by
 unfold KS.setArea KS.area
 by_cases h1:e%2=0
 ·rw[if_pos h1,if_neg (by omega),if_neg (by omega)]
 ·rw[if_neg h1,if_pos (by omega),if_pos (by omega)]
theorem kH(k:KS)(e:Nat)(p:Int):({k with power:=p}:KS).area e=k.area e:=rfl
theorem rH(k:KS)(e:Nat)(xs:Bs):(k.setArea e xs).head=k.head:=by unfold KS.setArea;split<;>rfl
theorem rP{P:Bs→Prop}{k:KS}(ha:P k.a)(hb:P k.b)(e:Nat):P (k.area e):=by unfold KS.area;split<;>assumption
structure Inv(k:KS)(i:KI)(N:Nat)(x:Bool):Prop where
 head:jK k.head i.epoch
 area:∃tail,k.area i.epoch=pW i++tail∧jU i.epoch tail=false∧(x=true→tail=[])
 wf:WF i
 eN:i.epoch≤N
 nN:i.next≤N
 sz:i.size≤43400+494*N
 sm:i.size≤262144
 la:(k.area 0).length≤262144
 lb:(k.area 1).length≤262144
 st:i.state.length≤43300
 rs:∀b∈i.recs,b.length≤470
 pw: -1≤k.power∧k.power≤1000
theorem Inv.mono{k:KS}{i:KI}{N M:Nat}{x:Bool}(h:Inv k i N x)(hM:N≤M):Inv k i M x:=
 ⟨h.head,h.area,h.wf,by have:=h.eN;omega,by have:=h.nN;omega,by have:=h.sz;omega,h.sm,h.la,h.lb,h.st,h.rs,h.pw⟩
theorem Inv.weak{k:KS}{i:KI}{N:Nat}(h:Inv k i N true):Inv k i N false:=
 ⟨h.head,let⟨t,a,b,_⟩:=h.area;⟨t,a,b,fun e=>by cases e⟩,h.wf,h.eN,h.nN,h.sz,h.sm,h.la,h.lb,h.st,h.rs,h.pw⟩
theorem Inv.any{k:KS}{i:KI}{N:Nat}{x:Bool}(h:Inv k i N x):Inv k i N false:=by cases x;exact h;exact h.weak
theorem Inv.exact{k:KS}{i:KI}{N:Nat}(h:Inv k i N true):k.area i.epoch=pW i:=by
 obtain⟨t,a,_,c⟩:=h.area
 rw[a,c rfl,List.append_nil]
theorem Inv.lens{k:KS}{i:KI}{N:Nat}{x:Bool}(h:Inv k i N x):k.a.length≤262144∧k.b.length≤262144:=⟨h.la,h.lb⟩
theorem Inv.fits{k:KS}{i:KI}{N:Nat}{x:Bool}(h:Inv k i N x)(hN:N≤1000000):k.fits 524288:=by
 have h1:=h.lens
 have h2:=h.head.len
 exact⟨by omega,by omega,by omega,by have:=h.pw;omega⟩
theorem Inv.okP{k:KS}{i:KI}{N:Nat}{x:Bool}(h:Inv k i N x)(hN:N≤1000000):k.okP:=by
 have h1:=h.lens
 have h2:=h.head.len
 exact⟨h2,by omega,by omega,h.pw.1⟩
theorem Inv.read{k:KS}{i:KI}{N:Nat}{x:Bool}(h:Inv k i N x):oZ k=some i:=by
 obtain⟨t,a,b,_⟩:=h.area
 exact aSm h.head.epoch a b h.wf
theorem aVd{k:KS}{e size:Nat}(hp:k.power≠0):(jO k e size).area e=(k.area e).take size:=by
 unfold jO
 rw[kH,qU,oB,if_neg hp]
theorem Inv.cut{k:KS}{i:KI}{N:Nat}{x:Bool}(h:Inv k i N x)(hp:k.power≠0):Inv (jO k i.epoch i.size) i N true:=by
 obtain⟨t,a,b,_⟩:=h.area
 have e1:(jO k i.epoch i.size).area i.epoch=pW i:=by
  rw[aVd hp,a,h.wf.size,List.take_left']
  rfl
 have hle:∀e,((jO k i.epoch i.size).area e).length≤262144:=by
  have h1:∀xs:Bs,xs.length≤262144→(oB xs k.power i.size).length≤262144:=fun xs hx=>by
   unfold oB;split
   ·exact hx
   ·simp;omega
  intro e
  by_cases he:i.epoch%2=e%2
  ·have e2:(jO k i.epoch i.size).area e=(jO k i.epoch i.size).area i.epoch:=by unfold KS.area;rw[he]
   rw[e2]
   unfold jO
   rw[kH,qU]
   exact h1 _ (rP (P:=fun z=>z.length≤_) h.la h.lb _)
  ·unfold jO
   rw[kH,nH _ he]
   exact rP (P:=fun z=>z.length≤_) h.la h.lb _
 refine⟨?_,⟨[],by rw[e1,List.append_nil],xN _,fun _=>rfl⟩,h.wf,h.eN,h.nN,h.sz,h.sm,hle 0,hle 1,h.st,h.rs,?_⟩
 ·show jK (k.setArea _ _).head _
  rw[rH];exact h.head
 ·show-1≤kN _ _ _∧kN _ _ _≤1000
  have:=h.pw
  unfold kN fU
  split<;>(try split)<;>omega
theorem rW{p:Int}{m:Nat}(h: -1≤p∧p≤1000): -1≤pl p m∧pl p m≤1000:=by unfold pl;split<;>omega
theorem aQc{i:KI}{bs:Bs}(wf:WF i):pW (apI i bs)=pW i++bP i.epoch i.next bs:=by
 have h1:(apI i bs).next-(apI i bs).recs.length=i.next-i.recs.length:=by simp[apI]
 have h2:=aMl i.epoch bs i.recs (i.next-i.recs.length)
 have h3:i.next-i.recs.length+i.recs.length=i.next:=by have:=wf.next;omega
 rw[h3]at h2
 unfold pW
 rw[h1]
 show _++lG i.epoch _ (i.recs++[bs])=_
 rw[h2,List.append_assoc]
 rfl
theorem bGw{i:KI}{bs:Bs}(wf:WF i)(hn:i.next<4611686018427387904)(hb:bs.length≤470):WF (apI i bs):=by
 refine⟨?_,?_,fun h=> ?_,?_,wf.state,?_⟩
 ·rw[aQc wf,List.length_append,←wf.size];rfl
 ·have:=wf.next;simp[apI];omega
 ·have:=wf.zero h;simp[apI];exact this
 ·show i.next+1≤_;omega
 ·intro b hb'
  rcases List.mem_append.1 hb' with h|h
  ·exact wf.recs b h
  ·simp at h;subst h;omega
theorem aCm{k:KS}{i:KI}{bs:Bs}(ha:k.area i.epoch=pW i)(wf:WF i):(apS k i bs).area i.epoch=pW i++(bP i.epoch i.next bs).take (Jn.pw k.power (bP i.epoch i.next bs).length):=by
 unfold apS sE
 rw[kH,qU,sU,ha,wf.size,aIy]
theorem Inv.apLen{k:KS}{i:KI}{N:Nat}{bs:Bs}(h:Inv k i N true)(hr:i.size+24+bs.length≤262144)(e:Nat):((apS k i bs).area e).length≤262144:=by
 have hl:=dC i.epoch i.next bs
 by_cases he:i.epoch%2=e%2
 ·have e2:(apS k i bs).area e=(apS k i bs).area i.epoch:=by unfold KS.area;rw[he]
  rw[e2,aCm h.exact h.wf,List.length_append,←h.wf.size]
  have:=h.sz
  simp;omega
 ·unfold apS sE
  rw[kH,nH _ he]
  have:=rP (P:=fun z=>z.length≤_) h.la h.lb e
  omega
theorem Inv.ap_ok{k:KS}{i:KI}{N:Nat}{bs:Bs}(h:Inv k i N true)(hN:N≤1000000)(hb:bs.length≤470)(hr:i.size+24+bs.length≤262144)(hok:xS k i bs):Inv (apS k i bs) (apI i bs) (N+1) true:=by
 have hl:=dC i.epoch i.next bs
 refine⟨?_,⟨[],?_,xN _,fun _=>rfl⟩,bGw h.wf (by have:=h.nN;omega) hb,by have:=h.eN;show i.epoch≤_;omega,by have:=h.nN;show i.next+1≤_;omega,?_,?_,h.apLen hr 0,h.apLen hr 1,h.st,?_,rW h.pw⟩
 ·show jK (k.setArea _ _).head _
  rw[rH];exact h.head
 ·rw[List.append_nil,aQc h.wf]
  show(apS k i bs).area i.epoch=_
  rw[aCm h.exact h.wf]
  have:Jn.pw k.power (bP i.epoch i.next bs).length=(bP i.epoch i.next bs).length:=hok
  rw[this,List.take_length]
 ·have:=h.sz;show i.size+_≤_;omega
 ·show i.size+_≤_;omega
 ·intro b hb'
  rcases List.mem_append.1 hb' with h'|h'
  ·exact h.rs b h'
  ·simp at h';subst h';exact hb
theorem Inv.ap_no{k:KS}{i:KI}{N:Nat}{bs:Bs}(h:Inv k i N true)(hb:bs.length≤65536)(hr:i.size+24+bs.length≤262144)(hok:¬xS k i bs):Inv (apS k i bs) i (N+1) false:=by
 have hl:=dC i.epoch i.next bs
 refine⟨?_,⟨_,aCm h.exact h.wf,?_,fun e=>by cases e⟩,h.wf,by have:=h.eN;omega,by have:=h.nN;omega,by have:=h.sz;omega,h.sm,h.apLen hr 0,h.apLen hr 1,h.st,h.rs,rW h.pw⟩
 ·show jK (k.setArea _ _).head _
  rw[rH];exact h.head
 ·refine aSp (by omega) ?_
  have h1:Jn.pw k.power (bP i.epoch i.next bs).length≠(bP i.epoch i.next bs).length:=hok
  have h2:Jn.pw k.power (bP i.epoch i.next bs).length≤(bP i.epoch i.next bs).length:=by unfold Jn.pw;split<;>omega
  omega
theorem aPj{k:KS}{e:Nat}(h:mL k e):(vK k e).area e=[]:=by
 unfold vK jO
 rw[kH,qU,oB]
 split
 ·rename_i hp
  rcases h with h|h
  ·exact List.eq_nil_of_length_eq_zero (by omega)
  ·exact absurd hp h
 ·simp
theorem aLx{k:KS}{e e':Nat}(h:e%2≠e'%2):(vK k e).area e'=k.area e':=by
 unfold vK jO
 rw[kH,nH _ h]
theorem aPk(k:KS)(e:Nat):(vK k e).head=k.head:=by
 show(k.setArea _ _).head=_
 rw[rH]
theorem aEy{k:KS}{e n:Nat}{bs:Bs}(h:mL k e):(nZ k e n bs).area e=(bP e n bs).take (Jn.pw (vK k e).power (bP e n bs).length):=by
 unfold nZ sE
 rw[kH,qU,sU,aPj h]
 have:=aIy (bs:=(bP e n bs).take (Jn.pw (vK k e).power (bP e n bs).length)) (xs:=[])
 simpa using this
theorem aAu{k:KS}{e e' n:Nat}{bs:Bs}(h:e%2≠e'%2):(nZ k e n bs).area e'=k.area e':=by
 unfold nZ sE
 rw[kH,nH _ h,aLx h]
theorem aEz(k:KS)(e n:Nat)(bs:Bs):(nZ k e n bs).head=k.head:=by
 show((vK k e).setArea _ _).head=_
 rw[rH,aPk]
theorem aPl(k:KS)(e n:Nat)(bs:Bs)(e':Nat):(oA k e n bs).area e'=(nZ k e n bs).area e':=by
 unfold oA;simp only;split<;>rfl
theorem xY(k:KS)(e n:Nat)(bs:Bs)(e':Nat):(ck4 k e n bs).area e'=(nZ k e n bs).area e':=by
 rw[←aPl];rfl
theorem xC{k:KS}{e n:Nat}{bs:Bs}(h: -1≤k.power∧k.power≤1000):(-1≤(vK k e).power∧(vK k e).power≤1000)∧(-1≤(nZ k e n bs).power∧(nZ k e n bs).power≤1000)∧(-1≤(ck4 k e n bs).power∧(ck4 k e n bs).power≤1000):=by
 have h1: -1≤(vK k e).power∧(vK k e).power≤1000:=by
  show-1≤kN _ _ _∧kN _ _ _≤1000
  unfold kN fU
  split<;>(try split)<;>omega
 have h2: -1≤(nZ k e n bs).power∧(nZ k e n bs).power≤1000:=rW h1
 have h3:(oA k e n bs).power=(nZ k e n bs).power:=by unfold oA;simp only;split<;>rfl
 exact⟨h1,h2,by show-1≤pl (oA k e n bs).power _∧pl (oA k e n bs).power _≤1000;rw[h3];exact rW h2⟩
theorem bGx{i:KI}{bs:Bs}(wf:WF i)(hb:bs.length≤43300):WF (tS i bs):=by
 refine⟨?_,by simp[tS],fun h=>by simp[tS]at h,wf.big,by show bs.length≤_;omega,fun b h=>by simp[tS]at h⟩
 unfold pW
 rw[if_neg (by simp[tS])]
 show 24+bs.length=_
 rw[List.length_append,dC,nO]
 simp[tS,bJ]
theorem bAu(i:KI)(bs:Bs):pW (tS i bs)=bP ((i.epoch+1:Nat):Int) i.next bs:=by
 unfold pW
 rw[if_neg (by simp[tS])]
 show bP ((i.epoch+1:Nat):Int) ((i.next-0:Nat):Int) bs++lG (i.epoch+1) _ []=_
 rw[oQ,List.append_nil,Nat.sub_zero]
theorem Inv.ckLen{k:KS}{i:KI}{N:Nat}{bs:Bs}(h:Inv k i N true)(hb:bs.length≤43300)(h1:mL k (i.epoch+1))(e:Nat):((nZ k (i.epoch+1) i.next bs).area e).length≤262144:=by
 have hl:=dC ((i.epoch+1:Nat):Int) i.next bs
 by_cases he:(i.epoch+1)%2=e%2
 ·have e2:(nZ k (i.epoch+1) i.next bs).area e=(nZ k (i.epoch+1) i.next bs).area (i.epoch+1):=by unfold KS.area;rw[he]
  rw[e2,aEy h1,List.length_take]
  omega
 ·rw[aAu he]
  have:=rP (P:=fun z=>z.length≤_) h.la h.lb e
  omega
theorem Inv.ck3head{k:KS}{i:KI}{N:Nat}{bs:Bs}(h:Inv k i N true):jK (oA k (i.epoch+1) i.next bs).head i.epoch∧(oA k (i.epoch+1) i.next bs).head.length=32:=by
 have e1:=aEz k (i.epoch+1) i.next bs
 by_cases h0:(nZ k (i.epoch+1) i.next bs).head.length=0
 ·have e2:(oA k (i.epoch+1) i.next bs).head=List.replicate 32 0:=by unfold oA;simp only;rw[if_pos h0]
  have e3:i.epoch=0:=by
   rcases h.head with⟨_,h2⟩|⟨_,_,_,_,_,_,a,b,c,_⟩
   ·exact h2
   ·rw[e1,c,mR a b]at h0;omega
  rw[e2,e3]
  exact⟨aOl,by simp⟩
 ·have e2:(oA k (i.epoch+1) i.next bs).head=k.head:=by unfold oA;simp only;rw[if_neg h0,e1]
  rw[e2]
  refine⟨h.head,?_⟩
  rcases h.head.len with h3|h3
  ·rw[e1]at h0;omega
  ·exact h3
theorem Inv.ck_base{k k':KS}{i:KI}{N:Nat}{bs:Bs}(h:Inv k i N true)(hb:bs.length≤43300)(h1:mL k (i.epoch+1))(hk:∀e,k'.area e=(nZ k (i.epoch+1) i.next bs).area e)(hh:jK k'.head i.epoch)(hp: -1≤k'.power∧k'.power≤1000):Inv k' i (N+1) false:=
 ⟨hh,⟨[],by rw[hk,aAu (by omega),h.exact,List.append_nil],xN _,fun e=>by cases e⟩,h.wf,by have:=h.eN;omega,by have:=h.nN;omega,by have:=h.sz;omega,h.sm,by rw[hk];exact h.ckLen hb h1 0,by rw[hk];exact h.ckLen hb h1 1,h.st,h.rs,hp⟩
theorem Inv.ck_new{k k':KS}{i:KI}{N:Nat}{bs:Bs}(h:Inv k i N true)(hN:N≤1000000)(hb:bs.length≤43300)(h1:mL k (i.epoch+1))(h2:qK k (i.epoch+1) i.next bs)(hk:∀e,k'.area e=(nZ k (i.epoch+1) i.next bs).area e)(hh:jK k'.head (i.epoch+1))(hp: -1≤k'.power∧k'.power≤1000):Inv k' (tS i bs) (N+1) true:=by
 have e1:k'.area (i.epoch+1)=pW (tS i bs):=by
  rw[hk,aEy h1,bAu]
  have:Jn.pw (vK k (i.epoch+1)).power (bP ((i.epoch+1:Nat):Int) i.next bs).length=(bP ((i.epoch+1:Nat):Int) i.next bs).length:=h2
  rw[this,List.take_length]
 refine⟨hh,⟨[],by rw[List.append_nil];exact e1,xN _,fun _=>rfl⟩,bGx h.wf hb,?_,?_,?_,?_,by rw[hk];exact h.ckLen hb h1 0,by rw[hk];exact h.ckLen hb h1 1,hb,fun b h=>by simp[tS]at h,hp⟩
 ·have:=h.eN;show i.epoch+1≤_;omega
 ·have:=h.nN;show i.next≤_;omega
 ·show 24+bs.length≤_;omega
 ·show 24+bs.length≤_;omega
theorem yA(e:Nat):(kQ e).length=16:=by simp[kQ,bT]
theorem Inv.ck_ok{k:KS}{i:KI}{N:Nat}{bs:Bs}(h:Inv k i N true)(hN:N≤1000000)(he:i.epoch<250)(hb:bs.length≤43300)(hok:pR k (i.epoch+1) i.next bs):Inv (pM k (i.epoch+1) i.next bs) (tS i bs) (N+1) true:=by
 obtain⟨h1,h2,h3⟩:=hok
 rw[pM,if_pos h1,if_pos h2]
 obtain⟨g1,g2⟩:=h.ck3head (bs:=bs)
 have hw:=yI (q:=Jn.pw (oA k (i.epoch+1) i.next bs).power (kQ (i.epoch+1)).length) g1 g2 (by omega) (by rw[yA];unfold Jn.pw;split<;>omega)
 have h16:Jn.pw (oA k (i.epoch+1) i.next bs).power (kQ (i.epoch+1)).length=16:=by
  have:Jn.pw (oA k (i.epoch+1) i.next bs).power (kQ (i.epoch+1)).length=(kQ (i.epoch+1)).length:=h3
  rw[this,yA]
 exact h.ck_new hN hb h1 h2 (xY k _ _ _) (hw.2 h16) (xC h.pw).2.2
theorem Inv.ck_no{k:KS}{i:KI}{N:Nat}{bs:Bs}(h:Inv k i N true)(hN:N≤1000000)(he:i.epoch<250)(hb:bs.length≤43300)(hok:¬pR k (i.epoch+1) i.next bs):Inv (pM k (i.epoch+1) i.next bs) i (N+1) false∨Inv (pM k (i.epoch+1) i.next bs) (tS i bs) (N+1) false:=by
 by_cases h1:mL k (i.epoch+1)
 ·by_cases h2:qK k (i.epoch+1) i.next bs
  ·rw[pM,if_pos h1,if_pos h2]
   obtain⟨g1,g2⟩:=h.ck3head (bs:=bs)
   have hw:=yI (q:=Jn.pw (oA k (i.epoch+1) i.next bs).power (kQ (i.epoch+1)).length) g1 g2 (by omega) (by rw[yA];unfold Jn.pw;split<;>omega)
   rcases hw.1 with hh|hh
   ·exact .inl (h.ck_base hb h1 (xY k _ _ _) hh (xC h.pw).2.2)
   ·exact .inr (h.ck_new hN hb h1 h2 (xY k _ _ _) hh (xC h.pw).2.2).weak
  ·rw[pM,if_pos h1,if_neg h2]
   exact .inl (h.ck_base hb h1 (fun _=>rfl) (by rw[aEz];exact h.head) (xC h.pw).2.1)
 ·rw[pM,if_neg h1]
  exact .inl (h.weak.mono (by omega))
theorem aMs{p:Int}(h: -1≤p∧p≤1000):Inv ⟨[],[],[],p⟩ ⟨0,0,[],[],0⟩ 0 true:=
 ⟨.inl ⟨rfl,rfl⟩,⟨[],by simp[KS.area,pW,oQ],by decide+kernel,fun _=>rfl⟩,⟨by decide,by decide,fun _=>⟨rfl,rfl⟩,by decide,by decide,by simp⟩,by decide,by decide,by decide,by decide,by simp[KS.area],by simp[KS.area],by decide,by simp,h⟩
end Go.Jn
namespace Go.Td
open Go Go.Sl Go.Proofs Go.Jn
def gM:KHs:=⟨⟨[],[],0,zeroA⟩,fun _=>none⟩
noncomputable def eH (X:KHs) (au nu:Int) (al:List KAct):KHs:=⟨(aE X.s al).1,fun a=>if a=au then some ⟨⟨au,nu,al⟩,(aE X.s al).2⟩else X.done a⟩
abbrev vQ(al:List KAct):Prop:=∀x∈al,x.hold≤9223372036854775807
structure MemOk(a:Int)(m:KMem)(last:Int):Prop where
 au:m.d.author=a
 fm:cE a m.d.number m.d.acts=true
 hb:vQ m.d.acts
 r:ResOk m.r last
structure XOk(X:KHs):Prop where
 g:Good2 X.s
 m:∀a m,X.done a=some m→MemOk a m X.s.last
theorem fG{au nu:Int}{xs:List KAct}:cE au nu xs=true↔(1≤au∧au≤64)∧(1≤nu∧nu≤1099511627776)∧(1≤xs.length∧xs.length≤16)∧∀x∈xs,x.formed=true:=by
 unfold cE
 simp only[Bool.and_eq_true,decide_eq_true_eq,Bool.not_eq_true',List.any_eq_false,Bool.not_eq_true,Bool.not_eq_false']
 constructor
 ·rintro⟨⟨⟨⟨⟨⟨a,b⟩,c⟩,d⟩,e⟩,f⟩,g⟩
  exact⟨⟨a,b⟩,⟨c,d⟩,⟨by omega,by omega⟩,fun x hx=>by simpa using g x hx⟩
 ·rintro⟨⟨a,b⟩,⟨c,d⟩,⟨e,f⟩,g⟩
  exact⟨⟨⟨⟨⟨⟨a,b⟩,c⟩,d⟩,by omega⟩,by omega⟩,fun x hx=>by simpa using g x hx⟩
theorem oR:XOk gM:=⟨⟨⟨by simp[gM],by simp[gM],fun p hp=>by cases hp⟩,⟨by simp[gM],by simp[gM],fun p hp=>by cases hp⟩,Int.le_refl _,by unfold gM nC uY KAm.add zeroA;rfl⟩,fun a m h=>by cases h⟩
theorem vJ{X:KHs}(h:XOk X){au nu:Int}{al:List KAct}(hf:cE au nu al=true)(hh:vQ al):XOk (eH X au nu al)∧(eH X au nu al).s.last≤X.s.last+16∧X.s.last≤(eH X au nu al).s.last∧ResOk (aE X.s al).2 (eH X au nu al).s.last:=by
 obtain⟨h1,h2,h3,h4⟩:=fG.1 hf
 obtain⟨g1,g2,g3,g4,_⟩:=aEt h.g h4 h3.2
 refine⟨⟨g1,fun a m hm=> ?_⟩,by show(aE X.s al).1.last≤_;omega,g3,g4⟩
 by_cases e:a=au
 ·subst e
  have hm:(if a=a then some (⟨⟨a,nu,al⟩,(aE X.s al).2⟩:KMem)else X.done a)=some m:=hm
  rw[if_pos rfl]at hm;injection hm with hm;subst hm
  exact⟨rfl,hf,hh,g4⟩
 ·have hm:(if a=au then some (⟨⟨au,nu,al⟩,(aE X.s al).2⟩:KMem)else X.done a)=some m:=hm
  rw[if_neg e]at hm
  have:=h.m a m hm
  exact⟨this.au,this.fm,this.hb,this.r.le g3⟩
structure EqX(X Y:KHs):Prop where
 s:EqS X.s Y.s
 d:X.done=Y.done
theorem EqX.symm{X Y:KHs}(h:EqX X Y):EqX Y X:=⟨h.s.symm,h.d.symm⟩
theorem EqX.trans{X Y Z:KHs}(h:EqX X Y)(g:EqX Y Z):EqX X Z:=⟨h.s.trans g.s,h.d.trans g.d⟩
theorem XOk.refl{X:KHs}(h:XOk X):EqX X X:=⟨h.g.refl,rfl⟩
theorem aLv{X Y:KHs}(h:EqX X Y)(au nu:Int)(al:List KAct):EqX (eH X au nu al) (eH Y au nu al):=by
 obtain⟨h1,h2⟩:=xV h.s al
 refine⟨h1,funext fun a=> ?_⟩
 show(if _ then _ else _)=(if _ then _ else _)
 rw[h2,h.d]
theorem EqX.ok{X Y:KHs}(h:EqX X Y)(g:XOk Y):XOk X:=⟨h.s.good2 g.g,fun a m hm=>by rw[h.s.l];exact g.m a m (by rw[←h.d];exact hm)⟩
def qM:List (Int×KAm)→List Bool
 |[]=>[]
 |p::l=>aJ (U p.1) 17++(lN p.2 31++qM l)
def sI:List (Int×KHo)→List Bool
 |[]=>[]
 |p::l=>aJ (U p.1) 48++(aJ (U p.2.owner) 17++(lN p.2.a 31++sI l))
def nsL:List Int→List Bool
 |[]=>[]
 |n::l=>aJ (U n) 48++nsL l
def wV(m:KMem):List Bool:=kI m.d.author m.d.number m.d.acts++(aJ (U (m.r.holds.length:Int)) 9++(nsL m.r.holds++(aJ (U m.r.at_) 9++aJ (U m.r.e) 16)))
def sS:List (Int×KMem)→List Bool
 |[]=>[]
 |p::l=>wV p.2++sS l
def gJ(su:KAm)(last:Int)(ps:List (Int×KAm))(hs:List (Int×KHo))(ms:List (Int×KMem)):List Bool:=
 lN su 63++(aJ (U last) 48++(aJ (U (ps.length:Int)) 9++(qM ps++(aJ (U (hs.length:Int)) 9++(sI hs++(aJ (U (ms.length:Int)) 9++sS ms))))))
structure MsOf(X:KHs)(ms:List (Int×KMem)):Prop where
 nd:(ms.map (·.1)).Nodup
 mem:∀a m,X.done a=some m↔(a,m)∈ms
def StB(X:KHs)(bs:Bs):Prop:=∃ps hs ms,X.s.ps.Perm ps∧X.s.hs.Perm hs∧MsOf X ms∧∃n,Wr bs n (gJ X.s.su X.s.last ps hs ms)
abbrev aNg(d:KDeal):Bs:=fF d.author d.number d.acts [] 0
noncomputable def gZ (X:KHs) (ds:List KDeal):KHs:=ds.foldl (fun X d=>eH X d.author d.number d.acts) X
abbrev okD(ds:List KDeal):Prop:=∀d∈ds,cE d.author d.number d.acts=true∧vQ d.acts
structure Img(i:KI)(X:KHs)(X0:KHs)(ds:List KDeal):Prop where
 st:(i.state=[]∧X0=gM)∨(i.state≠[]∧StB X0 i.state)
 x0:XOk X0
 recs:i.recs=ds.map aNg
 ok:okD ds
 x:EqX X (gZ X0 ds)
theorem wN(X:KHs)(ds:List KDeal)(d:KDeal):gZ X (ds++[d])=eH (gZ X ds) d.author d.number d.acts:=by unfold gZ;rw[List.foldl_append];rfl
theorem Img.ap{i:KI}{X X0:KHs}{ds:List KDeal}(h:Img i X X0 ds){au nu:Int}{al:List KAct}(hf:cE au nu al=true)(hh:vQ al):Img (apI i (fF au nu al [] 0)) (eH X au nu al) X0 (ds++[⟨au,nu,al⟩]):=
 ⟨h.st,h.x0,by show i.recs++_=_;rw[h.recs,List.map_append];rfl,fun d hd=>by
  rcases List.mem_append.1 hd with hd|hd
  ·exact h.ok d hd
  ·rw[List.mem_singleton.1 hd];exact⟨hf,hh⟩,by rw[wN];exact aLv h.x _ _ _⟩
theorem Img.ck{i:KI}{X X0:KHs}{ds:List KDeal}(h:Img i X X0 ds)(hx:XOk X){bs:Bs}(hb:StB X bs)(h0:bs≠[]):Img (tS i bs) X X []:=
 ⟨.inr ⟨h0,hb⟩,hx,rfl,fun d hd=>(by cases hd),hx.refl⟩
structure SOk(X:KHs)(i:KI)(k:KS)(N W:Nat)(x:Bool):Prop where
 inv:Inv k i N x
 ep:i.epoch*218000+i.size≤W
 img:∃X0 ds,Img i X X0 ds
 ok:XOk X
 last:X.s.last≤16*N
def lP(S:Nat)(X:KHs)(N W:Nat)(p:Int):bU:=fun h=>∃i k,SOk X i k N W false∧k.power=p∧iY [aP S k] h
abbrev aQn(J mp mh mm:Nat)(s:KSt)(dn:Bool):Array Value:= #[.pointer (some ⟨J,0,none⟩),.map (some mp),.map (some mh),Ix s.last,Ix s.su.a0,Ix s.su.a1,Ix s.su.a2,Ix s.su.a3,.map (some mm),.bool dn]
abbrev hL(H S J mp mh mm:Nat)(s:KSt)(ms:List (Int×KMh))(zs:List (KMh×KMem))(i:KI)(k:KS)(jd dn:Bool):List bU:=[pt H (.cells (aQn J mp mh mm s dn) 91),eV J S i jd,aP S k,aZ bW mp s.ps,aZ bK mh s.hs,aZ dS mm ms,cV zs]
structure HdOf(z:KMh×KMem):Prop where
 au:z.1.author=z.2.d.author
 nu:z.1.number=z.2.d.number
 n:z.1.n=z.2.d.acts.length
 dn:z.1.done=z.2.r.done
 at_:z.1.at_=z.2.r.at_
 e:z.1.e=z.2.r.e
 m:z.1.m=z.2.r.holds.length
structure MmOk(X:KHs)(ms:List (Int×KMh))(zs:List (KMh×KMem)):Prop where
 none_:∀a,dS.look ms a=none→X.done a=none
 some_:∀a h,dS.look ms a=some h→∃m,(h,m)∈zs∧X.done a=some m
 hdr:∀z∈zs,HdOf z
structure HOk(X:KHs)(s:KSt)(ms:List (Int×KMh))(zs:List (KMh×KMem))(i:KI)(k:KS)(N W:Nat):Prop where
 eq:EqS s X.s
 so:SOk X i k N W true
 mm:MmOk X ms zs
def cO(H S:Nat)(X:KHs)(N W:Nat)(p:Int):bU:=fun h=>∃J mp mh mm s ms zs i k,HOk X s ms zs i k N W∧k.power=p∧iY (hL H S J mp mh mm s ms zs i k false false) h
theorem St.openHouse{β:Base}{H S N W:Nat}{p:Int}{X:KHs}{M:List bU}{w:World}(h:St β (cO H S X N W p::M) w):∃J mp mh mm s ms zs i k,HOk X s ms zs i k N W∧k.power=p∧St β (hL H S J mp mh mm s ms zs i k false false++M) w:=by
 obtain⟨ho,ht,hp,a,hd,hs,hs',q,r,h1,h2,h3,⟨J,mp,mh,mm,s,ms,zs,i,k,hk,hw,hx⟩,h5⟩:=h
 exact⟨J,mp,mh,mm,s,ms,zs,i,k,hk,hw,St.unbun ⟨ho,ht,hp,a,hd,hs,hs',q,r,h1,h2,h3,hx,h5⟩⟩
theorem St.closeHouse{β:Base}{H S N W J mp mh mm:Nat}{X:KHs}{s:KSt}{ms:List (Int×KMh)}{zs:List (KMh×KMem)}{i:KI}{k:KS}{M:List bU}{w:World}(hk:HOk X s ms zs i k N W){p:Int}(hp:k.power=p)(h:St β (hL H S J mp mh mm s ms zs i k false false++M) w):St β (cO H S X N W p::M) w:=
 h.merge fun _ h=>⟨J,mp,mh,mm,s,ms,zs,i,k,hk,hp,h⟩
theorem St.openShelf{β:Base}{S N W:Nat}{p:Int}{X:KHs}{M:List bU}{w:World}(h:St β (lP S X N W p::M) w):∃i k,SOk X i k N W false∧k.power=p∧St β (aP S k::M) w:=by
 obtain⟨ho,ht,hp,a,hd,hs,hs',q,r,h1,h2,h3,⟨i,k,hk,hw,hx⟩,h5⟩:=h
 exact⟨i,k,hk,hw,St.unbun ⟨ho,ht,hp,a,hd,hs,hs',q,r,h1,h2,h3,hx,h5⟩⟩
theorem St.closeShelf{β:Base}{S N W:Nat}{X:KHs}{i:KI}{k:KS}{M:List bU}{w:World}(hk:SOk X i k N W false){p:Int}(hp:k.power=p)(h:St β (aP S k::M) w):St β (lP S X N W p::M) w:=
 St.merge (L:=[aP S k]) h fun _ h=>⟨i,k,hk,hp,h⟩
section
variable {P:Program}{ro:Option Nat}{n:Nat}{ds:List Deferred}{β:Base}{Q:Exit→Act→World→Prop}{f:Fm}{L:List bU}
end
theorem aUo{k:KS}{i:KI}{bs:Bs}(h:k.power= -1):xS k i bs:=by unfold xS kL Jn.pw;rw[h];rfl
theorem aOv{k:KS}{i:KI}{bs:Bs}(h:k.power= -1):(apS k i bs).power= -1:=by
 show pl k.power _= -1
 unfold pl;rw[h];rfl
theorem rF{au nu:Int}{al:List KAct}(hf:cE au nu al=true):(fF au nu al [] 0).length≤470:=by
 rw[aAv (n:=0) rfl]
 have:=(fG.1 hf).2.2.1
 omega
theorem aWf{l:Int}{N:Nat}(h:l≤16*(N:Int)):l≤16*((N+1:Nat):Int):=by push_cast;omega
theorem SOk.room{X:KHs}{i:KI}{k:KS}{N W:Nat}{x:Bool}(h:SOk X i k N W x)(hN:N≤1000000){bs:Bs}(hb:bs.length≤470)(hr:i.size+24+bs.length≤262144):
  bs.length≤65536∧k.fits 524288∧i.next≤4611686018427387904∧i.size≤262144∧i.recs.length≤1048576∧i.size+24+bs.length≤262144∧i.next≠4611686018427387904:=by
 have h1:=h.inv.nN;have h2:=h.inv.sm;have h3:=h.inv.wf.next
 exact⟨by omega,h.inv.fits hN,by omega,by omega,by omega,by omega,by omega⟩
theorem SOk.small{X:KHs}{i:KI}{k:KS}{N W:Nat}{x:Bool}(h:SOk X i k N W x)(hN:N≤400){bs:Bs}(hb:bs.length≤470):i.size+24+bs.length≤262144:=by have:=h.inv.sz;omega
theorem SOk.weak{X:KHs}{i:KI}{k:KS}{N W:Nat}{x:Bool}(h:SOk X i k N W x):SOk X i k N W false:=⟨h.inv.any,h.ep,h.img,h.ok,h.last⟩
theorem SOk.mono{X:KHs}{i:KI}{k:KS}{N M W V:Nat}{x:Bool}(h:SOk X i k N W x)(hM:N≤M)(hV:W≤V):SOk X i k M V x:=⟨h.inv.mono hM,Nat.le_trans h.ep hV,h.img,h.ok,by have:=h.last;omega⟩
theorem bCw{i:KI}{W:Nat}{bs:Bs}(h:i.epoch*218000+i.size≤W)(hb:bs.length≤470):(apI i bs).epoch*218000+(apI i bs).size≤W+494:=by
 have q:(apI i bs).size=i.size+(24+bs.length):=congrArg (i.size+ ·) (dC i.epoch i.next bs)
 have q2:(apI i bs).epoch=i.epoch:=rfl
 rw[q,q2];omega
theorem SOk.ap{X:KHs}{i:KI}{k:KS}{N W:Nat}(h:SOk X i k N W true)(hN:N≤1000000){au nu:Int}{al:List KAct}(hf:cE au nu al=true)(hh:vQ al)(hr:i.size+24+(fF au nu al [] 0).length≤262144)(ha:xS k i (fF au nu al [] 0)):
  SOk (eH X au nu al) (apI i (fF au nu al [] 0)) (apS k i (fF au nu al [] 0)) (N+1) (W+494) true:=by
 obtain⟨X0,ds,hi⟩:=h.img
 obtain⟨h1,h2,_⟩:=vJ h.ok (nu:=nu) hf hh
 have e1:=h.inv.ap_ok hN (rF hf) hr ha
 have e2:=bCw h.ep (rF hf)
 exact⟨e1,e2,⟨X0,_,hi.ap hf hh⟩,h1,by have:=h.last;push_cast;omega⟩
theorem SOk.ap_no{X:KHs}{i:KI}{k:KS}{N W:Nat}(h:SOk X i k N W true){bs:Bs}(hr:i.size+24+bs.length≤262144)(hb:bs.length≤65536)(ha:¬xS k i bs):SOk X i (apS k i bs) (N+1) W false:=
 ⟨h.inv.ap_no hb hr ha,h.ep,h.img,h.ok,by have:=h.last;push_cast;omega⟩
theorem aZc{i:KI}{bs:Bs}(hb:bs.length≤43300):(tS i bs).epoch*218000+(tS i bs).size≤(i.epoch+1)*218000+43324:=by
 have q:(tS i bs).size=24+bs.length:=rfl
 have q2:(tS i bs).epoch=i.epoch+1:=rfl
 rw[q,q2];omega
theorem aPn{e s W:Nat}(h:e*218000+s≤W):(e+1)*218000+43324≤W+262144:=by
 rw[Nat.succ_mul]
 generalize e*218000=z at h⊢
 omega
theorem SOk.ck{X:KHs}{i:KI}{k:KS}{N W:Nat}(h:SOk X i k N W true)(hN:N≤1000000)(hW:W≤54000000){bs:Bs}(hb:bs.length≤43300)(hs:StB X bs)(h0:bs≠[])(hc:pR k (i.epoch+1) i.next bs):
  SOk X (tS i bs) (pM k (i.epoch+1) i.next bs) (N+1) ((i.epoch+1)*218000+43324) true:=by
 obtain⟨X0,ds,hi⟩:=h.img
 have he:i.epoch<250:=by have:=h.ep;omega
 have e1:=h.inv.ck_ok hN he hb hc
 exact⟨e1,aZc hb,⟨X,[],hi.ck h.ok hs h0⟩,h.ok,aWf h.last⟩
theorem SOk.ck_no{X:KHs}{i:KI}{k:KS}{N W:Nat}(h:SOk X i k N W true)(hN:N≤1000000)(hW:W≤54000000){bs:Bs}(hb:bs.length≤43300)(hs:StB X bs)(h0:bs≠[])(hc:¬pR k (i.epoch+1) i.next bs):
  ∃j,SOk X j (pM k (i.epoch+1) i.next bs) (N+1) (W+262144) false:=by
 obtain⟨X0,ds,hi⟩:=h.img
 have he:i.epoch<250:=by have:=h.ep;omega
 have hl:X.s.last≤16*((N+1:Nat):Int):=by have:=h.last;push_cast;omega
 rcases h.inv.ck_no hN he hb hc with hv|hv
 ·exact⟨i,hv,Nat.le_trans h.ep (by omega),⟨X0,ds,hi⟩,h.ok,hl⟩
 ·exact⟨tS i bs,hv,Nat.le_trans (aZc hb) (aPn h.ep),⟨X,[],hi.ck h.ok hs h0⟩,h.ok,hl⟩
theorem MmOk.add{X:KHs}{ms:List (Int×KMh)}{zs:List (KMh×KMem)}(h:MmOk X ms zs){au nu:Int}{al:List KAct}{hd:KMh}(hh:HdOf (hd,⟨⟨au,nu,al⟩,(aE X.s al).2⟩)):
  MmOk (eH X au nu al) (dS.put ms au hd) (zs++[(hd,⟨⟨au,nu,al⟩,(aE X.s al).2⟩)]) where
 none_:=fun a ha=>by
  show(if a=au then(some ⟨⟨au,nu,al⟩,(aE X.s al).2⟩:Option KMem)else X.done a)=none
  by_cases e:a=au
  ·subst e;rw[yW]at ha;cases ha
  ·rw[aSg e]at ha
   rw[if_neg e]
   exact h.none_ a ha
 some_:=fun a g ha=>by
  show ∃m,_∧(if a=au then(some ⟨⟨au,nu,al⟩,(aE X.s al).2⟩:Option KMem)else X.done a)=some m
  by_cases e:a=au
  ·subst e
   rw[yW]at ha
   injection ha with ha;subst ha
   exact⟨_,List.mem_append_right _ (List.mem_singleton.2 rfl),if_pos rfl⟩
  ·rw[aSg e]at ha
   obtain⟨m,h1,h2⟩:=h.some_ a g ha
   exact⟨m,List.mem_append_left _ h1,by rw[if_neg e];exact h2⟩
 hdr:=fun z hz=>by
  rcases List.mem_append.1 hz with hz|hz
  ·exact h.hdr z hz
  ·rw[List.mem_singleton.1 hz];exact hh
theorem MmOk.found{X:KHs}{ms:List (Int×KMh)}{zs:List (KMh×KMem)}(h:MmOk X ms zs){au:Int}{m:KMem}(hm:X.done au=some m):∃hd,dS.look ms au=some hd∧(hd,m)∈zs∧HdOf (hd,m):=by
 cases e:dS.look ms au with
 |none=>rw[h.none_ au e]at hm;cases hm
 |some hd=>
  obtain⟨m',h1,h2⟩:=h.some_ au hd e
  rw[hm]at h2;injection h2 with h2;subst h2
  exact⟨hd,rfl,h1,h.hdr _ h1⟩
open Go Go.Sl Go.Proofs Go.Jn
structure LkOk(X:KHs)(ms:List (Int×KMh))(zs:List (KMh×KMem))(au:Int)(hd:KMh)(mal:List KAct)(mhl:List Int):Prop where
 yes:(dS.look ms au).isSome=true→∃m,X.done au=some m∧(hd,m)∈zs∧HdOf (hd,m)∧m.d.acts=mal∧m.r.holds=mhl
 no:(dS.look ms au).isSome=false→X.done au=none∧hd=wQ∧mal=[]∧mhl=[]
theorem MmOk.lk{X:KHs}{ms:List (Int×KMh)}{zs:List (KMh×KMem)}(h:MmOk X ms zs)(au:Int):∃hd mal mhl,(dS.look ms au).getD wQ=hd∧LkOk X ms zs au hd mal mhl∧hd.n=mal.length∧hd.m=mhl.length:=by
 cases e:dS.look ms au with
 |none=>exact⟨wQ,[],[],rfl,⟨fun q=>(by rw[e]at q;cases q),fun _=>⟨h.none_ au e,rfl,rfl,rfl⟩⟩,rfl,rfl⟩
 |some hd=>
  obtain⟨m,h1,h2⟩:=h.some_ au hd e
  have hh:=h.hdr _ h1
  exact⟨hd,m.d.acts,m.r.holds,rfl,⟨fun _=>⟨m,h2,h1,hh,rfl,rfl⟩,fun q=>(by rw[e]at q;cases q)⟩,hh.n,hh.m⟩
section
variable {β:Base}{L:List bU}{X:KHs}{ms:List (Int×KMh)}{zs:List (KMh×KMem)}{au:Int}{hd:KMh}{mal:List KAct}{mhl:List Int}
theorem aLe{α:Type}(R:Rp α)(h:bV):Sl R h (.slice none 0 0) []:=⟨none,0,rfl,Nat.le_refl _,by decide,fun j x hx=>by simp at hx⟩
theorem aZh(i:Nat)(hi:L[i]? =some (cV zs))(h:LkOk X ms zs au hd mal mhl):bF β L (fun q=>Sl dI.R q (.slice hd.p hd.n hd.c) mal):=by
 cases e:(dS.look ms au).isSome with
 |true=>obtain⟨m,_,h1,_,rfl,_⟩:=h.yes e;exact bBh i hi h1
 |false=>obtain⟨_,rfl,rfl,_⟩:=h.no e;exact fun w _ hw=>aLe _ _
theorem aJz(i:Nat)(hi:L[i]? =some (cV zs))(h:LkOk X ms zs au hd mal mhl):bF β L (fun q=>Sl bA.R q (.slice hd.q hd.m hd.k) mhl):=by
 cases e:(dS.look ms au).isSome with
 |true=>obtain⟨m,_,h1,_,_,rfl⟩:=h.yes e;exact bBi i hi h1
 |false=>obtain⟨_,rfl,_,rfl⟩:=h.no e;exact fun w _ hw=>aLe _ _
variable (h:LkOk X ms zs au hd mal mhl){nu:Int}{al:List KAct}
include h
theorem LkOk.few(hX:XOk X):mhl.length≤1048576:=by
 cases e:(dS.look ms au).isSome with
 |true=>obtain⟨m,h1,_,_,_,rfl⟩:=h.yes e;have:=(hX.m _ _ h1).r.hn;omega
 |false=>obtain⟨_,_,_,rfl⟩:=h.no e;decide
theorem aVf(hf:cE au nu al=false):rS X au nu al=(X,dK,2):=by have _:=h;exact if_pos hf
theorem aPv(hf:cE au nu al=true)(h1:(((dS.look ms au).isSome&&decide (hd.number=nu))&&decide (mal=al))=true):rS X au nu al=(X,⟨hd.done,hd.at_,hd.e,mhl⟩,0):=by
 simp only[Bool.and_eq_true,decide_eq_true_eq]at h1
 obtain⟨m,h2,_,h4,h5,h6⟩:=h.yes h1.1.1
 have e1:m.d.number=nu:=h4.nu.symm.trans h1.1.2
 have e2:m.r=⟨hd.done,hd.at_,hd.e,mhl⟩:=by
  have a:=h4.dn;have b:=h4.at_;have c:=h4.e
  cases hr:m.r
  rw[hr]at a b c h6
  simp only at a b c h6
  rw[a,b,c,←h6]
 unfold rS
 rw[if_neg (by rw[hf];decide),h2]
 show(if m.d.number=nu then(if m.d.acts=al then(X,m.r,(0:Int))else _)else _)=_
 rw[if_pos e1,if_pos (h5.trans h1.2),e2]
theorem aMg(hf:cE au nu al=true)(h1:¬(((dS.look ms au).isSome&&decide (hd.number=nu))&&decide (mal=al))=true)(h2:((dS.look ms au).isSome&&decide (hd.number=nu))=true):rS X au nu al=(X,dK,331):=by
 rw[h2]at h1
 simp only[Bool.and_eq_true,decide_eq_true_eq,true_and]at h1 h2
 obtain⟨m,h3,_,h4,h5,h6⟩:=h.yes h2.1
 unfold rS
 rw[if_neg (by rw[hf];decide),h3]
 show(if m.d.number=nu then(if m.d.acts=al then _ else(X,dK,(331:Int)))else _)=_
 rw[if_pos (h4.nu.symm.trans h2.2),if_neg (by rw[h5];exact h1)]
theorem aVg(hf:cE au nu al=true)(h1:¬((dS.look ms au).isSome&&decide (hd.number=nu))=true)(h2:((dS.look ms au).isSome&&decide (nu<hd.number))=true):rS X au nu al=(X,dK,332):=by
 simp only[Bool.and_eq_true,decide_eq_true_eq]at h1 h2
 obtain⟨m,h3,_,h4,h5,h6⟩:=h.yes h2.1
 have e:hd.number=m.d.number:=h4.nu
 unfold rS
 rw[if_neg (by rw[hf];decide),h3]
 show(if m.d.number=nu then _ else if nu<m.d.number then(X,dK,(332:Int))else _)=_
 rw[if_neg (by intro q;exact h1 ⟨h2.1,e.trans q⟩),if_pos (by rw[←e];exact h2.2)]
theorem aJj(hf:cE au nu al=true)(h1:¬((dS.look ms au).isSome&&decide (hd.number=nu))=true)(h2:¬((dS.look ms au).isSome&&decide (nu<hd.number))=true):rS X au nu al=(eH X au nu al,(aE X.s al).2,0):=by
 unfold rS
 rw[if_neg (by rw[hf];decide)]
 cases e:(dS.look ms au).isSome with
 |true=>
  rw[e]at h1 h2
  simp only[Bool.true_and,decide_eq_true_eq]at h1 h2
  obtain⟨m,h3,_,h4,h5,h6⟩:=h.yes e
  have e:hd.number=m.d.number:=h4.nu
  rw[h3]
  show(if m.d.number=nu then _ else if nu<m.d.number then _ else _)=_
  rw[if_neg (by rw[←e];exact h1),if_neg (by rw[←e];exact h2)]
  rfl
 |false=>rw[(h.no e).1];rfl
end
theorem HOk.mono{X:KHs}{s:KSt}{ms:List (Int×KMh)}{zs:List (KMh×KMem)}{i:KI}{k:KS}{N M W V:Nat}(h:HOk X s ms zs i k N W)(hM:N≤M)(hV:W≤V):HOk X s ms zs i k M V:=⟨h.eq,h.so.mono hM hV,h.mm⟩
theorem HOk.goodS{X:KHs}{s:KSt}{ms:List (Int×KMh)}{zs:List (KMh×KMem)}{i:KI}{k:KS}{N W:Nat}(h:HOk X s ms zs i k N W)(hN:N≤1000000):GoodS s 1152921504606846976:=by
 have h1:=h.eq.l;have h2:=h.so.last
 exact(h.eq.good2 h.so.ok.g).good (by omega) (by decide)
theorem HOk.ap{X:KHs}{s z:KSt}{ro:KRes}{ms:List (Int×KMh)}{zs:List (KMh×KMem)}{i j:KI}{k q:KS}{N W M V:Nat}(h:HOk X s ms zs i k N W){au nu:Int}{al:List KAct}(hc:aE s al=(z,ro))(hs:SOk (eH X au nu al) j q M V true){hd:KMh}(hh:HdOf (hd,⟨⟨au,nu,al⟩,ro⟩)):
  HOk (eH X au nu al) z (dS.put ms au hd) (zs++[(hd,⟨⟨au,nu,al⟩,ro⟩)]) j q M V∧(aE X.s al).2=ro:=by
 obtain⟨h1,h2⟩:=xV h.eq al
 rw[hc]at h1 h2
 refine⟨⟨h1,hs,?_⟩,h2.symm⟩
 have h2:ro=(aE X.s al).2:=h2
 subst h2
 exact h.mm.add hh
end Go.Td
