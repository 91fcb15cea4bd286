/-
  Regions that draw their order, and turn the world. What is known and owned is kept by operation: each operation says what it knows of the frame when it is done, which
  resources it reads, uses up and leaves; nothing of it depends on the order. Own work; plain Lean.
-/
import Derived.Test.YtmgpmgckbcjalaaGreatSlRange
import Derived.OrdersIn
namespace Go.Sl
def mem(i:Nat):List Nat→Bool
 |[]=>false
 |a::l=>Nat.beq i a||mem i l
theorem mem_iff{i:Nat}:∀{l:List Nat},mem i l=true↔i∈l
 |[]=>by simp[mem]
 |a::l=>by simp[mem,mem_iff (l:=l)]
def cut(sl:List Nat)(f:Fm):Fm:=fun i=>match mem i sl with|true=>f i|false=>undef
structure Tok where
 prod:Option Nat
 cons:Option Nat
 by_:List Nat
 sl:List Nat
 r:Fm→Res
structure Sp where
 anc:List Nat
 need:List Nat
 ini:List Nat
 sl:List Nat
 k:Fm→Prop
def oall(o:Option Nat)(p:Nat→Bool):Bool:=match o with|none=>true|some i=>p i
def oany(o:Option Nat)(p:Nat→Bool):Bool:=match o with|none=>false|some i=>p i
def isD(o:Oper)(s:Nat):Bool:=match o.dst with|none=>false|some d=>Nat.beq d s
theorem isD_iff{o:Oper}{s:Nat}:isD o s=true↔o.dst=some s:=by
 unfold isD;cases o.dst<;>simp
theorem cut_eq{sl:List Nat}{f g:Fm}(h:∀x∈sl,f x=g x):cut sl f=cut sl g:=by
 funext i
 unfold cut
 cases e:mem i sl with
 |true=>exact h i (mem_iff.1 e)
 |false=>rfl
def ancOf(sps:List Sp)(i:Nat):List Nat:=match sps[i]? with|none=>[]|some s=>s.anc
def allI{α:Type _}(p:Nat→α→Bool):List α→Nat→Bool
 |[],_=>true
 |a::l,i=>p i a&&allI p l (i+1)
theorem allI_get{α:Type _}{p:Nat→α→Bool}:∀{l:List α} {k:Nat},allI p l k=true→∀{i:Nat} {a:α},l[i]? =some a→p (k+i) a=true
 |[],_,_,i,a,h=>by simp at h
 |b::l,k,hp,i,a,h=>by
  simp only[allI,Bool.and_eq_true]at hp
  cases i with
  |zero=>simp only[List.getElem?_cons_zero,Option.some.injEq]at h;subst h;exact hp.1
  |succ i=>have:=allI_get hp.2 (i:=i) (a:=a) (by simpa using h);rwa [show k+(i+1)=k+1+i by omega]
def iniOk(ops:List Oper)(sps:List Sp)(i s:Nat):Bool:=allI (fun j o=> !isD o s||Nat.beq j i||mem i (ancOf sps j)) ops 0
def behind(sps:List Sp)(o:Oper)(j:Nat):Bool:=o.after.toList.any fun e=>Region.binds .any e&&(Nat.beq e.on j||mem j (ancOf sps e.on))
def chkOps(ops:List Oper)(sps:List Sp)(ini:List (Nat×Value)):Bool:=
 Nat.beq ops.length sps.length&&
 allI (fun i o=>o.after.toList.all (fun e=> !Region.binds .any e||Nat.blt e.on i)&&(ancOf sps i).all (behind sps o)) ops 0&&
 allI (fun i s=>s.need.all (fun j=>mem j s.anc)&&s.ini.all (fun x=>match ini[x]? with|none=>false|some p=>iniOk ops sps i p.1)&&
  s.sl.all (fun t=>allI (fun j o=> !isD o t||Nat.beq j i||mem j s.anc) ops 0)) sps 0
def chkTok(ops:List Oper)(sps:List Sp)(t:Tok):Bool:=
 oall t.prod (Nat.blt · ops.length)&&oall t.cons (Nat.blt · ops.length)&&t.by_.all (fun i=>oall t.prod (fun p=>mem p (ancOf sps i))&&oall t.cons (fun c=>Nat.beq c i||mem i (ancOf sps c)))&&
 oall t.cons (fun c=>mem c t.by_)&&
 t.sl.all (fun s=>allI (fun j o=> !isD o s||oany t.prod (fun p=>Nat.beq j p||mem j (ancOf sps p))) ops 0)
def usesT(toks:List Tok)(i:Nat):List Tok:=toks.filter fun t=>mem i t.by_
def outsT(toks:List Tok)(i:Nat):List Tok:=toks.filter fun t=>(mem i t.by_&& !oany t.cons (Nat.beq · i))||oany t.prod (Nat.beq · i)
def actT(D:Nat→Bool)(t:Tok):Bool:=oall t.prod D&& !oany t.cons D
def lastT(toks:List Tok):List Tok:=toks.filter fun t=>match t.cons with|none=>true|some _=>false
def firstT(toks:List Tok):List Tok:=toks.filter fun t=>match t.prod with|none=>true|some _=>false
def rs(l:List Tok)(f:Fm):List Res:=l.map (fun t=>t.r (cut t.sl f))
def KAll(sps:List Sp):List Nat→Fm→Prop
 |[],_=>True
 |j::l,f=>(match sps[j]? with|none=>True|some s=>s.k (cut s.sl f))∧KAll sps l f
def IAll(ini:List (Nat×Value)):List Nat→Fm→Prop
 |[],_=>True
 |x::l,f=>(match ini[x]? with|none=>True|some p=>f p.1=p.2)∧IAll ini l f
def Qn(K:Act→World→Prop):Exit→Act→World→Prop
 | .normal,a,w=>K a w
 |_,_,_=>False
def Owes(n:Nat)(ds:List Deferred)(β:Base)(dst:Option Nat)(k:Fm→Prop)(f:Fm)(out:Fm→List Res)(M:List Res)(a:Act)(w:World):Prop:=
 ∃f',(∀s,dst≠some s→f' s=f s)∧At n ds f' a∧k f'∧St β (out f'++M) w
def Ob(P:Program)(ro:Option Nat)(n:Nat)(ds:List Deferred)(β:Base)(ops:List Oper)(sps:List Sp)(toks:List Tok)(ini:List (Nat×Value))(i:Nat)(o:Oper):Prop:=
 match sps[i]? with
 |none=>False
 |some s=>∀f M,KAll sps s.need f→IAll ini s.ini f→
  RunL P ro n ds β ops.toArray (Qn (Owes n ds β o.dst (fun f=>s.k (cut s.sl f)) f (rs (outsT toks i)) M)) [o] f (rs (usesT toks i) f++M)
def Obs(P:Program)(ro:Option Nat)(n:Nat)(ds:List Deferred)(β:Base)(ops:List Oper)(sps:List Sp)(toks:List Tok)(ini:List (Nat×Value)):List Oper→Nat→Prop
 |[],_=>True
 |o::l,i=>Ob P ro n ds β ops sps toks ini i o∧Obs P ro n ds β ops sps toks ini l (i+1)
def KEv(sps:List Sp)(f:Fm):List Sp→Prop
 |[]=>True
 |s::l=>s.k (cut s.sl f)∧KEv sps f l
section
variable {P:Program}{ro:Option Nat}{n:Nat}{ds:List Deferred}{β:Base}{Q:Exit→Act→World→Prop}
theorem Obs.get{ops:List Oper}{sps:List Sp}{toks:List Tok}{ini:List (Nat×Value)}:∀{l:List Oper} {k:Nat},Obs P ro n ds β ops sps toks ini l k→∀{i:Nat} {o:Oper},l[i]? =some o→Ob P ro n ds β ops sps toks ini (k+i) o
 |[],_,_,i,o,h=>by simp at h
 |b::l,k,hp,i,a,h=>by
  cases i with
  |zero=>simp only[List.getElem?_cons_zero,Option.some.injEq]at h;subst h;exact hp.1
  |succ i=>have:=Obs.get hp.2 (i:=i) (o:=a) (by simpa using h);rwa [show k+(i+1)=k+1+i by omega]
theorem KEv.of{sps l:List Sp}{f:Fm}(h:∀s∈l,s.k (cut s.sl f)):KEv sps f l:=by
 induction l with
 |nil=>trivial
 |cons a l ih=>exact⟨h a (by simp),ih fun s hs=>h s (by simp[hs])⟩
theorem KAll.of{sps:List Sp}{f:Fm}:∀{l:List Nat},(∀j∈l,∀s,sps[j]? =some s→s.k (cut s.sl f))→KAll sps l f
 |[],_=>trivial
 |j::l,h=>⟨by cases e:sps[j]? with|none=>trivial|some s=>exact h j (by simp) s e,KAll.of fun i hi=>h i (by simp[hi])⟩
theorem IAll.of{ini:List (Nat×Value)}{f:Fm}:∀{l:List Nat},(∀j∈l,∀p,ini[j]? =some p→f p.1=p.2)→IAll ini l f
 |[],_=>trivial
 |j::l,h=>⟨by cases e:ini[j]? with|none=>trivial|some s=>exact h j (by simp) s e,IAll.of fun i hi=>h i (by simp[hi])⟩
theorem wpIn_qn{F:Fence}{m:Nat}{o:Oper}{a:Act}{w:World}{K:Act→World→Prop}(h:o.wpIn F m P a w K (Qn K)):o.wpIn F m P a w K Q:=by
 unfold Oper.wpIn at*
 refine⟨h.1,?_⟩
 have hh:=h.2
 generalize (o.semAt F.round a.eval).run P w=r at*
 cases r with
 |ok x w'=>
  cases x<;>simp only[Oper.uponIn]at hh⊢<;>
   first
    |exact hh
    |exact⟨hh.1,CallsIn.mono hh.2 (fun e w'' he=>by cases e<;>first|exact he|exact he.elim|(obtain⟨_,_,hx⟩:=he;exact hx.elim))⟩
    |exact⟨hh.1,RowsIn.mono hh.2 (fun _ _ he=>he)⟩
    |exact⟨hh.1,RoundIn.mono hh.2 (fun e w'' he=>by cases e<;>first|exact he|exact he.elim|(obtain⟨_,_,hx⟩:=he;exact hx.elim))⟩
 |halt x w'=>cases x<;>simp only[Oper.uponIn]at hh⊢<;>exact hh.elim
theorem filter_lt{p q:Nat→Bool}{i:Nat}(hpq:∀x,q x=true→p x=true)(hp:p i=true)(hq:q i=false):∀{l:List Nat},i∈l→(l.filter q).length<(l.filter p).length
 |[],h=>by simp at h
 |a::l,h=>by
  have hle:∀l:List Nat,(l.filter q).length≤(l.filter p).length:=fun l=>by
   induction l with
   |nil=>simp
   |cons a l ih=>
    by_cases h1:q a=true
    ·simp[h1,hpq a h1];exact ih
    ·by_cases h2:p a=true
     ·simp[h1,h2];omega
     ·simp[h1,h2];exact ih
  by_cases e:a=i
  ·subst e
   have:=hle l
   simp[hp,hq];omega
  ·have hi:i∈l:=by simpa[Ne.symm e]using h
   have ih:=filter_lt hpq hp hq hi
   by_cases h1:q a=true
   ·simp[h1,hpq a h1];exact ih
   ·by_cases h2:p a=true
    ·simp[h1,h2];omega
    ·simp[h1,h2];exact ih
structure Inv(ops:List Oper)(sps:List Sp)(toks:List Tok)(ini:List (Nat×Value))(n:Nat)(ds:List Deferred)(β:Base)(M:List Res)(D:Nat→Bool)(f:Fm)(a:Act)(w:World):Prop where
 closed:∀j,D j=true→∀m∈ancOf sps j,D m=true
 k:∀j s,sps[j]? =some s→D j=true→s.k (cut s.sl f)
 ini:∀p∈ini,(∀(j:Nat) o,ops[j]? =some o→D j=true→o.dst≠some p.1)→f p.1=p.2
 hat:At n ds f a
 st:St β (rs (toks.filter (actT D)) f++M) w
def setD(D:Nat→Bool)(i:Nat):Nat→Bool:=fun j=>Nat.beq j i||D j
theorem filter_perm{α:Type _}(p:α→Bool)(l:List α):l.Perm (l.filter p++l.filter (fun x=> !p x)):=by
 induction l with
 |nil=>simp
 |cons a l ih=>
  by_cases h:p a=true
  ·simp[h];exact ih
  ·simp[h];exact(ih.cons a).trans List.perm_middle.symm
theorem act_split{sps:List Sp}{ops:List Oper}{toks:List Tok}{D:Nat→Bool}{i:Nat}(hc:∀j,D j=true→∀m∈ancOf sps j,D m=true)(hi:D i=false)(ha:∀m∈ancOf sps i,D m=true)
 (ht:toks.all (chkTok ops sps)=true):
  (toks.filter (actT D)).Perm (usesT toks i++toks.filter (fun t=>actT D t&& !mem i t.by_))∧
  (toks.filter (actT (setD D i))).Perm (outsT toks i++toks.filter (fun t=>actT D t&& !mem i t.by_)):=by
 have hx:∀t∈toks,(mem i t.by_=true→actT D t=true)∧(∀c p,t.cons=some c→t.prod=some p→p∈ancOf sps c)∧(∀c,t.cons=some c→mem c t.by_=true):=by
  intro t hm
  have h:=List.all_eq_true.1 ht t hm
  simp only[chkTok,Bool.and_eq_true,List.all_eq_true]at h
  obtain⟨⟨⟨_,h1⟩,h2⟩,h3⟩:=h
  refine⟨fun hb=> ?_,fun c p ec ep=> ?_,fun c ec=> ?_⟩
  ·have hb':=h1 i (mem_iff.1 hb)
   have hP:oall t.prod D=true:=by
    cases hp:t.prod with
    |none=>rfl
    |some p=>rw[hp]at hb';exact ha _ (mem_iff.1 hb'.1)
   have hC:oany t.cons D=false:=by
    cases hcn:t.cons with
    |none=>rfl
    |some c=>
     rw[hcn]at hb'
     have hb2:Nat.beq c i=true∨mem i (ancOf sps c)=true:=by have:=hb'.2;unfold oall at this;simpa only[Bool.or_eq_true]using this
     rcases hb2 with hb2|hb2
     ·have:=Nat.eq_of_beq_eq_true hb2;subst this;exact hi
     ·cases hD:D c with
      |false=>exact hD
      |true=>have:=hc _ hD i (mem_iff.1 hb2);rw[hi]at this;cases this
   unfold actT
   rw[hP,hC];rfl
  ·have hm2:mem c t.by_=true:=by simpa[ec,oall]using h2
   have:=h1 c (mem_iff.1 hm2)
   rw[ep]at this
   exact mem_iff.1 this.1
  ·simpa[ec,oall]using h2
 constructor
 ·have h:=filter_perm (fun t=>mem i t.by_) (toks.filter (actT D))
  rw[List.filter_filter,List.filter_filter]at h
  have e1:toks.filter (fun a=>mem i a.by_&&actT D a)=usesT toks i:=by
   refine List.filter_congr fun t hm=> ?_
   cases hb:mem i t.by_ with
   |false=>rfl
   |true=>simp[(hx t hm).1 hb]
  have e2:toks.filter (fun a=> !mem i a.by_&&actT D a)=toks.filter (fun t=>actT D t&& !mem i t.by_):=List.filter_congr fun t _=>Bool.and_comm _ _
  rw[e1,e2]at h
  exact h
 ·have h:=filter_perm (fun t=>(mem i t.by_&& !oany t.cons (Nat.beq · i))||oany t.prod (Nat.beq · i)) (toks.filter (actT (setD D i)))
  rw[List.filter_filter,List.filter_filter]at h
  have key:∀t∈toks,actT (setD D i) t=(((mem i t.by_&& !oany t.cons (Nat.beq · i))||oany t.prod (Nat.beq · i))||(actT D t&& !mem i t.by_)):=by
   intro t hm
   obtain⟨g1,g2,g3⟩:=hx t hm
   have beq_i:∀c,Nat.beq c i=true→c=i:=fun c h=>Nat.eq_of_beq_eq_true h
   have hnc:∀c,t.cons=some c→D c=true→mem i t.by_=true→False:=by
    intro c ec hD hb
    have:=g1 hb
    unfold actT at this
    simp[ec,oany,hD]at this
   cases hb:mem i t.by_ with
   |true=>
    have ga:=g1 hb
    unfold actT at ga
    unfold actT setD
    cases hp:t.prod with
    |none=>
     cases hcn:t.cons with
     |none=>simp[oall,oany]
     |some c=>
      have:D c=false:=by simpa[hcn,hp,oany,oall]using ga
      simp[oall,oany,this]
    |some p=>
     have hDp:D p=true:=by
      cases hcn:t.cons<;>simp[hp,hcn,oall,oany]at ga
      ·exact ga
      ·exact ga.1
     have hpi:Nat.beq p i=false:=by
      cases e:Nat.beq p i with
      |false=>rfl
      |true=>have:=beq_i _ e;subst this;rw[hi]at hDp;exact absurd hDp (by simp)
     cases hcn:t.cons with
     |none=>simp[oall,oany,hDp]
     |some c=>
      have:D c=false:=by simpa[hcn,hp,oany,oall,hDp]using ga
      simp[oall,oany,this,hDp]
      intro hx;simp[hx]at hpi
   |false=>
    have hci:∀c,t.cons=some c→Nat.beq c i=false:=by
     intro c ec
     cases e:Nat.beq c i with
     |false=>rfl
     |true=>have:=beq_i _ e;subst this;rw[g3 _ ec]at hb;cases hb
    unfold actT setD
    cases hp:t.prod with
    |none=>
     cases hcn:t.cons with
     |none=>simp[oall,oany]
     |some c=>simp[oall,oany];have:=hci c hcn;intro _;simpa using this
    |some p=>
     cases e:Nat.beq p i with
     |true=>
      have:=beq_i _ e;subst this
      cases hcn:t.cons with
      |none=>simp[oall,oany]
      |some c=>
       have hDc:D c=false:=by
        cases hD:D c with
        |false=>rfl
        |true=>have:=hc c hD _ (g2 c _ hcn hp);rw[hi]at this;cases this
       have:=hci c hcn
       simp[oall,oany,hDc];simpa using this
     |false=>
      cases hcn:t.cons with
      |none=>simp only[oall,oany,e];simp
      |some c=>
       have:=hci c hcn
       simp[oall,oany]at*
       simp[e,this]
  have e1:toks.filter (fun a=>((mem i a.by_&& !oany a.cons (Nat.beq · i))||oany a.prod (Nat.beq · i))&&actT (setD D i) a)=outsT toks i:=by
   refine List.filter_congr fun t hm=> ?_
   rw[key t hm]
   cases((mem i t.by_&& !oany t.cons (Nat.beq · i))||oany t.prod (Nat.beq · i))<;>simp
  have e2:toks.filter (fun a=> !((mem i a.by_&& !oany a.cons (Nat.beq · i))||oany a.prod (Nat.beq · i))&&actT (setD D i) a)=toks.filter (fun t=>actT D t&& !mem i t.by_):=by
   refine List.filter_congr fun t hm=> ?_
   rw[key t hm]
   have hno:(actT D t&& !mem i t.by_)=true→((mem i t.by_&& !oany t.cons (Nat.beq · i))||oany t.prod (Nat.beq · i))=false:=by
    intro hh
    simp only[Bool.and_eq_true,Bool.not_eq_true']at hh
    rw[hh.2]
    cases hp:t.prod with
    |none=>simp[oany]
    |some p=>
     cases e:Nat.beq p i with
     |false=>simpa[oany]using e
     |true=>
      have:=Nat.eq_of_beq_eq_true e;subst this
      have:=hh.1
      unfold actT at this
      simp[hp,oall,hi]at this
   cases h1:((mem i t.by_&& !oany t.cons (Nat.beq · i))||oany t.prod (Nat.beq · i))with
   |false=>simp
   |true=>
    cases h2:(actT D t&& !mem i t.by_)with
    |false=>simp
    |true=>rw[hno h2]at h1;cases h1
  rw[e1,e2]at h
  exact h
def finOk(ops:List Oper)(ini:List (Nat×Value))(x:Nat):Bool:=match ini[x]? with|none=>false|some p=>ops.all fun o=> !isD o p.1
def IniAt(f:Fm):List (Nat×Value)→Prop
 |[]=>True
 |p::l=>f p.1=p.2∧IniAt f l
theorem IniAt.get{f:Fm}:∀{l:List (Nat×Value)},IniAt f l→∀p∈l,f p.1=p.2
 |[],_,s,h=>by simp at h
 |a::l,h,s,hs=>by
  rcases List.mem_cons.1 hs with e|hs
  ·subst e;exact h.1
  ·exact IniAt.get h.2 s hs
theorem inv_any{ops:List Oper}{sps:List Sp}{toks:List Tok}{ini:List (Nat×Value)}{fin:List Nat}{M:List Res}
 (h1:chkOps ops sps ini=true)(h2:toks.all (chkTok ops sps)=true)(ho:Obs P ro n ds β ops sps toks ini ops 0)(hf:fin.all (finOk ops ini)=true)
 (hQ:∀f',KEv sps f' sps→IAll ini fin f'→Fin n ds β Q .normal f' (rs (lastT toks) f'++M)):
  ∀(fuel:Nat) (listed:Array Bool) (f:Fm) (a:Act) (w:World),listed.size=ops.length→((List.range ops.length).filter (fun j=> !listed.getD j false)).length≤fuel→
   Inv ops sps toks ini n ds β M (fun j=>listed.getD j false) f a w→wpAnyIn (Fe ro) 3 P .any ops.toArray Q fuel listed a w:=by
 have hc:=h1
 simp only[chkOps,Bool.and_eq_true]at hc
 obtain⟨⟨hlen,hops⟩,hsps⟩:=hc
 have hlen:=Nat.eq_of_beq_eq_true hlen
 have hop:∀{i:Nat} {o:Oper},ops[i]? =some o→(∀e∈o.after,Region.binds .any e=true→e.on<i)∧∀j∈ancOf sps i,behind sps o j=true:=by
  intro i o hi
  have:=allI_get hops hi
  simp only[Nat.zero_add,Bool.and_eq_true,List.all_eq_true]at this
  exact⟨fun e he hb=>by have:=this.1 e (by simpa using he);rw[hb]at this;simpa using this,this.2⟩
 have hsp:∀{i:Nat} {s:Sp},sps[i]? =some s→(∀j∈s.need,j∈s.anc)∧(∀x∈s.ini,∀p,ini[x]? =some p→iniOk ops sps i p.1=true)∧(∀t∈s.sl,∀(j:Nat) o,ops[j]? =some o→o.dst=some t→j=i∨j∈s.anc):=by
  intro i s hi
  have:=allI_get hsps hi
  simp only[Nat.zero_add,Bool.and_eq_true,List.all_eq_true]at this
  refine⟨fun j hj=>mem_iff.1 (this.1.1 j hj),fun x hx p hp=> ?_,fun t hts j o hj hd=> ?_⟩
  ·have:=this.1.2 x hx;rw[hp]at this;exact this
  ·have:=allI_get (this.2 t hts) hj
   simp only[Nat.zero_add,isD_iff.2 hd,Bool.not_true,Bool.false_or,Bool.or_eq_true]at this
   rcases this with h|h
   ·exact .inl (Nat.eq_of_beq_eq_true h)
   ·exact .inr (mem_iff.1 h)
 have done:∀(listed:Array Bool) (f:Fm) (a:Act) (w:World),(∀j,j<ops.length→listed.getD j false=true)→Inv ops sps toks ini n ds β M (fun j=>listed.getD j false) f a w→Q .normal a w:=by
  intro listed f a w hall I
  have hK:KEv sps f sps:=KEv.of fun s hs=>by
   obtain⟨j,hj⟩:=List.getElem?_of_mem hs
   exact I.k j s hj (hall j (by rw[hlen];exact(List.getElem?_eq_some_iff.1 hj).1))
  have hI:IAll ini fin f:=IAll.of fun x hx p hp=>by
   refine I.ini p (List.mem_of_getElem? hp) fun j o hj _ hd=> ?_
   have:=List.all_eq_true.1 hf x hx
   unfold finOk at this;rw[hp]at this
   have:=List.all_eq_true.1 this o (List.mem_of_getElem? hj)
   rw[isD_iff.2 hd]at this;cases this
  have hT:toks.filter (actT fun j=>listed.getD j false)=lastT toks:=by
   refine List.filter_congr fun t hm=> ?_
   have hc:=List.all_eq_true.1 h2 t hm
   simp only[chkTok,Bool.and_eq_true,List.all_eq_true]at hc
   obtain⟨⟨⟨⟨c0,c0'⟩,c1⟩,c2⟩,c3⟩:=hc
   have hP:oall t.prod (fun j=>listed.getD j false)=true:=by
    cases hp:t.prod with
    |none=>rfl
    |some p=>rw[hp]at c0;exact hall p (by simpa[oall]using c0)
   unfold actT
   rw[hP]
   cases hcn:t.cons with
   |none=>rfl
   |some c=>rw[hcn]at c0';simp[oany,hall c (by simpa[oall]using c0')]
  have hst:=I.st
  rw[hT]at hst
  exact hQ f hK hI a w I.hat hst
 have least:∀(listed:Array Bool),listed.size=ops.length→Region.ready .any ops.toArray listed=[]→∀j,j<ops.length→listed.getD j false=true:=by
  intro listed hsz hr j
  induction j using Nat.strongRecOn with
  |_ j ih=>
   intro hj
   cases hl:listed.getD j false with
   |true=>rfl
   |false=>
    have hl':listed.getD j true=false:=by
     simp only[Array.getD_eq_getD_getElem?,Array.getElem?_eq_getElem (by omega:j<listed.size),Option.getD_some]at hl⊢
     exact hl
    have ho:=List.getElem?_eq_getElem hj
    have:j∈Region.ready .any ops.toArray listed:=mem_ready.2 ⟨hl',_,(List.getElem?_toArray ..).trans ho,fun e he hb=>ih e.on ((hop ho).1 e he hb) (by have:=(hop ho).1 e he hb;omega)⟩
    rw[hr]at this;simp at this
 intro fuel
 induction fuel with
 |zero=>
  intro listed f a w hsz hle I
  have hall:∀j,j<ops.length→listed.getD j false=true:=by
   intro j hj
   cases hl:listed.getD j false with
   |true=>rfl
   |false=>
    have:j∈(List.range ops.length).filter (fun j=> !listed.getD j false):=List.mem_filter.2 ⟨List.mem_range.2 hj,by simp[hl]⟩
    have:=List.length_pos_of_mem this
    omega
  refine⟨?_,done listed f a w hall I⟩
  refine List.eq_nil_iff_forall_not_mem.2 fun j hj=> ?_
  obtain⟨hl,o,ho',_⟩:=mem_ready.1 hj
  have hj':j<ops.length:=by
   have:=(Array.getElem?_eq_some_iff.1 ho').1
   simpa using this
  have:=hall j hj'
  simp only[Array.getD_eq_getD_getElem?,Array.getElem?_eq_getElem (by omega:j<listed.size),Option.getD_some]at hl this
  rw[hl]at this;cases this
 |succ fuel ih=>
  intro listed f a w hsz hle I
  refine⟨fun hr=>done listed f a w (least listed hsz hr) I,fun i hi=> ?_⟩
  obtain⟨hl,o,ho',hdep⟩:=mem_ready.1 hi
  have ho'':ops[i]? =some o:=by simpa using ho'
  have hi':i<ops.length:=(List.getElem?_eq_some_iff.1 ho'').1
  have hDi:listed.getD i false=false:=by
   simp only[Array.getD_eq_getD_getElem?,Array.getElem?_eq_getElem (by omega:i<listed.size),Option.getD_some]at hl⊢
   exact hl
  have hanc:∀m∈ancOf sps i,listed.getD m false=true:=by
   intro m hm
   have hb:=(hop ho'').2 m hm
   unfold behind at hb
   obtain⟨e,he,hb⟩:=List.any_eq_true.1 hb
   simp only[Bool.and_eq_true,Bool.or_eq_true]at hb
   have hd:=hdep e (by simpa using he) hb.1
   rcases hb.2 with h|h
   ·have:=Nat.eq_of_beq_eq_true h;subst this;exact hd
   ·exact I.closed e.on hd m (mem_iff.1 h)
  obtain⟨s,hs⟩:∃s,sps[i]? =some s:=⟨_,List.getElem?_eq_getElem (by omega)⟩
  have hsa:ancOf sps i=s.anc:=by unfold ancOf;rw[hs]
  have hob:=ho.get ho''
  rw[Nat.zero_add]at hob
  unfold Ob at hob
  rw[hs]at hob
  have hob:=hob f (rs (toks.filter (fun t=>actT (fun j=>listed.getD j false) t&& !mem i t.by_)) f++M)
   (KAll.of fun j hj s' hs'=>I.k j s' hs' (hanc j (by rw[hsa];exact(hsp hs).1 j hj)))
   (IAll.of fun x hx p hp=>I.ini p (List.mem_of_getElem? hp) fun j oj hj hD hd=>by
    have:=allI_get ((hsp hs).2.1 x hx p hp) hj
    simp only[Nat.zero_add,isD_iff.2 hd,Bool.not_true,Bool.false_or,Bool.or_eq_true]at this
    rcases this with h|h
    ·have:=Nat.eq_of_beq_eq_true h;subst this;rw[hDi]at hD;cases hD
    ·have:=I.closed j hD i (mem_iff.1 h);exact absurd (hDi.symm.trans this) (by simp))
  have hsplit:=act_split (ops:=ops) (D:=fun j=>listed.getD j false) I.closed hDi hanc h2
  have hst:St β (rs (usesT toks i) f++(rs (toks.filter (fun t=>actT (fun j=>listed.getD j false) t&& !mem i t.by_)) f++M)) w:=by
   have:=I.st.perm (List.Perm.append_right M (List.Perm.map (fun t:Tok=>t.r (cut t.sl f)) hsplit.1))
   simpa[rs,List.append_assoc]using this
  have hD':(fun j=>(listed.setIfInBounds i true).getD j false)=setD (fun j=>listed.getD j false) i:=by
   funext j
   unfold setD
   by_cases e:j=i
   ·subst e
    simp[Array.getD_eq_getD_getElem?,hsz,hi']
   ·have:Nat.beq j i=false:=by
     cases h:Nat.beq j i with
     |false=>rfl
     |true=>exact absurd (Nat.eq_of_beq_eq_true h) e
    rw[this,getD_set_ne _ (Ne.symm e)];rfl
  have step:∀a' w',Owes n ds β o.dst (fun f=>s.k (cut s.sl f)) f (rs (outsT toks i)) (rs (toks.filter (fun t=>actT (fun j=>listed.getD j false) t&& !mem i t.by_)) f++M) a' w'→
    wpAnyIn (Fe ro) 3 P .any ops.toArray Q fuel (listed.setIfInBounds i true) a' w':=by
   rintro a' w' ⟨f',hff,hat',hk',hst'⟩
   refine ih _ f' a' w' (by simp[hsz]) ?_ ?_
   ·have:=filter_lt (p:=fun j=> !listed.getD j false) (q:=fun j=> !(listed.setIfInBounds i true).getD j false) (i:=i) (l:=List.range ops.length) ?_ (by simp only[hDi];rfl) ?_ (List.mem_range.2 hi')
    ·omega
    ·intro x hx
     by_cases e:x=i
     ·subst e;rw[hDi];rfl
     ·rw[getD_set_ne _ (Ne.symm e)]at hx;exact hx
    ·have:=congrFun hD' i
     simp only[setD,Nat.beq_refl,Bool.true_or]at this
     simp only[this];rfl
   ·rw[hD']
    refine⟨?_,?_,?_,hat',?_⟩
    ·intro j hj m hm
     simp only[setD,Bool.or_eq_true]at hj⊢
     rcases hj with hj|hj
     ·have:=Nat.eq_of_beq_eq_true hj;subst this;exact .inr (hanc m hm)
     ·exact .inr (I.closed j hj m hm)
    ·intro j s' hs' hj
     simp only[setD,Bool.or_eq_true]at hj
     by_cases e:j=i
     ·subst e;rw[hs]at hs';injection hs' with hs';subst hs';exact hk'
     ·have hj:listed.getD j false=true:=by
       rcases hj with hj|hj
       ·exact absurd (Nat.eq_of_beq_eq_true hj) e
       ·exact hj
      rw[cut_eq (f:=f') (g:=f) (fun x hx=>hff x fun hd=> ?_)];exact I.k j s' hs' hj
      rcases(hsp hs').2.2 x hx i o ho'' hd with h|h
      ·exact e h.symm
      ·have:=I.closed j hj i (by unfold ancOf;rw[hs'];exact h);exact absurd (hDi.symm.trans this) (by simp)
    ·intro p hp hno
     rw[hff p.1 fun hd=>hno i o ho'' (by simp[setD]) hd]
     exact I.ini p hp fun j oj hj hD=>hno j oj hj (by simp only[setD,hD,Bool.or_true])
    ·have h3:rs (toks.filter (fun t=>actT (fun j=>listed.getD j false) t&& !mem i t.by_)) f'=rs (toks.filter (fun t=>actT (fun j=>listed.getD j false) t&& !mem i t.by_)) f:=by
      unfold rs
      refine List.map_congr_left fun t ht'=> ?_
      obtain⟨hm,hact⟩:=List.mem_filter.1 ht'
      rw[cut_eq (f:=f') (g:=f) fun x hx=>hff x fun hd=> ?_]
      have hc:=List.all_eq_true.1 h2 t hm
      simp only[chkTok,Bool.and_eq_true,List.all_eq_true]at hc
      have:=allI_get (hc.2 x hx) ho''
      simp only[Nat.zero_add,isD_iff.2 hd,Bool.not_true,Bool.false_or]at this
      simp only[Bool.and_eq_true,actT]at hact
      cases hp:t.prod with
      |none=>rw[hp]at this;cases this
      |some q=>
       rw[hp]at this hact
       simp only[oany,Bool.or_eq_true]at this
       have hq:listed.getD q false=true:=hact.1.1
       rcases this with h|h
       ·have:=Nat.eq_of_beq_eq_true h;subst this;rw[hDi]at hq;cases hq
       ·have:=I.closed q hq i (mem_iff.1 h);exact absurd (hDi.symm.trans this) (by simp)
     have:=hst'.perm (L':=rs (toks.filter (actT (setD (fun j=>listed.getD j false) i))) f'++M) ?_
     ·exact this
     ·have hp:=List.Perm.append_right M (List.Perm.map (fun t:Tok=>t.r (cut t.sl f')) hsplit.2)
      refine List.Perm.trans ?_ hp.symm
      rw[←h3]
      simp[rs,List.append_assoc]
  have hob:=hob a w I.hat hst
  unfold wpOpIn
  rw[ho']
  unfold wpListIn at hob
  simp only
  split at hob
  ·rename_i hwn
   rw[if_pos hwn]
   exact Oper.wpIn_mono step (wpIn_qn (K:=Owes n ds β o.dst (fun f=>s.k (cut s.sl f)) f (rs (outsT toks i)) (rs (toks.filter (fun t=>actT (fun j=>listed.getD j false) t&& !mem i t.by_)) f++M)) (by
    have hfun:(wpListIn (Fe ro) 3 P ops.toArray (Qn (Owes n ds β o.dst (fun f=>s.k (cut s.sl f)) f (rs (outsT toks i)) (rs (toks.filter (fun t=>actT (fun j=>listed.getD j false) t&& !mem i t.by_)) f++M))) [])=Owes n ds β o.dst (fun f=>s.k (cut s.sl f)) f (rs (outsT toks i)) (rs (toks.filter (fun t=>actT (fun j=>listed.getD j false) t&& !mem i t.by_)) f++M):=by
     funext a w;simp only[wpListIn,Qn]
    rw[hfun]at hob
    exact hob))
  ·rename_i hwn
   rw[if_neg hwn]
   refine⟨hob.1,step _ _ ?_⟩
   have:=hob.2
   simp only[wpListIn,Qn]at this
   exact this
theorem c_any{id:Nat}{ops:List Oper}{f:Fm}{L:List Res}(sps:List Sp)(toks:List Tok)(ini:List (Nat×Value))(fin:List Nat)(M:List Res)(hm:P.follows .mixedOrders=true)
 (h1:chkOps ops sps ini=true)(h2:toks.all (chkTok ops sps)=true)(hf:fin.all (finOk ops ini)=true)(hL:L=rs (firstT toks) f++M)(hi:IniAt f ini)
 (ho:Obs P ro n ds β ops sps toks ini ops 0)
 (hQ:∀f',KEv sps f' sps→IAll ini fin f'→Fin n ds β Q .normal f' (rs (lastT toks) f'++M)):RunC P ro n ds β (.region id ops.toArray true) Q f L:=by
 intro a w ha hw
 have hD0:∀j,(Array.replicate ops.length false).getD j false=false:=by
  intro j
  by_cases hj:j<ops.length<;>simp[Array.getD_eq_getD_getElem?,hj]
 refine wpIn_region_any hm (inv_any h1 h2 ho hf hQ _ _ f a _ (by simp) ?_ ?_)
 ·have:=List.length_filter_le (fun j=> !(Array.replicate ops.toArray.size false).getD j false) (List.range ops.length)
  simpa using this
 ·refine⟨fun j hj=> ?_,fun j s _ hj=> ?_,fun p hp _=>hi.get p hp,ha,?_⟩
  ·simp[hD0]at hj
  ·simp[hD0]at hj
  ·have hT:toks.filter (actT fun j=>(Array.replicate ops.toArray.size false).getD j false)=firstT toks:=by
    refine List.filter_congr fun t _=> ?_
    unfold actT
    cases t.prod<;>cases t.cons<;>simp[oall,oany,hD0]
   rw[hT,←hL]
   exact hw.drew
theorem up_cons{g f:Fm}{d:Nat}{v:Value}(e:g=f)(h:f d=v):upd g d v=f:=by subst e;exact upd_eq h
variable {f g:Fm}{L:List Res}{ops:Array Oper}{rest:List Oper}
theorem ob_start{L':List Res}(hL:L=L')(e:g=f)(k:RunL P ro n ds β ops Q rest g L'):RunL P ro n ds β ops Q rest f L:=by subst hL;subst e;exact k
theorem f_owes_d{d:Nat}{v:Value}{k:Fm→Prop}{out:Fm→List Res}{M:List Res}(e:g=f)(hk:k (upd f d v))(hp:L.Perm (out (upd f d v)++M)):
  Fin n ds β (Qn (Owes n ds β (some d) k f out M)) .normal (upd g d v) L:=by
 subst e
 intro a w ha hw
 refine⟨_,fun s hs=> ?_,ha,hk,hw.perm hp⟩
 unfold upd
 cases h:Nat.beq s d with
 |false=>rfl
 |true=>exact absurd (by rw[Nat.eq_of_beq_eq_true h]) hs
theorem f_owes_n{k:Fm→Prop}{out:Fm→List Res}{M:List Res}(e:g=f)(hk:k f)(hp:L.Perm (out f++M)):
  Fin n ds β (Qn (Owes n ds β none k f out M)) .normal g L:=by
 subst e
 intro a w ha hw
 exact⟨_,fun s hs=>rfl,ha,hk,hw.perm hp⟩
theorem f_rebase{e:Exit}{d:Nat}{v:Value}(h:f d=v)(k:Fin n ds β Q e (upd f d v) L):Fin n ds β Q e f L:=by rw[←upd_eq h];exact k
theorem f_re{e:Exit}{L':List Res}(hL:L=L')(k:Fin n ds β Q e f L'):Fin n ds β Q e f L:=by subst hL;exact k
theorem ev_t{o:Oper}{p:Prop}[Decidable p](h:p)(e:EV P β L f o (.bool (decide p))):EV P β L f o (.bool true):=by rwa [decide_eq_true h]at e
theorem ev_f{o:Oper}{p:Prop}[Decidable p](h:¬p)(e:EV P β L f o (.bool (decide p))):EV P β L f o (.bool false):=by rwa [decide_eq_false h]at e
def blk:Value→Nat
 | .pointer (some a)=>a.block
 | .slice (some a) _ _=>a.block
 |_=>0
end
end Go.Sl
