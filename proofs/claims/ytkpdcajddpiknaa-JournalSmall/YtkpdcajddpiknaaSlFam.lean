/-
  Own work; plain Lean (SlNum, SlRange, SlAny, SlFam).
-/
import Derived.WalkKit
import Derived.TacticsInMore
import Derived.OwnWalkIn
import Derived.LoopIn
import Derived.Laws.AppendOwnNone
import Derived.Deep.Quiet
import Derived.RangeFuncIn
import Derived.RangeFuncRecord
import Derived.RangeFuncLeaves
import Derived.OrdersIn
set_option linter.all false
namespace Go.Sl
open Go.RowKit
abbrev bR:=Nat→Option Obj
def gR(a b:bR):Prop:=∀k o,a k=some o→b k=some o
def lQ(a b:bR):Prop:=∀k,a k=none∨b k=none
def un(a b:bR):bR:=fun k=>(a k).or (b k)
theorem gR.refl(a:bR):gR a a:=fun _ _ h=>h
theorem gR.trans{a b c:bR}(h:gR a b)(k:gR b c):gR a c:=fun i o hi=>k i o (h i o hi)
theorem lQ.symm{a b:bR}(h:lQ a b):lQ b a:=fun k=>(h k).symm
theorem lQ.mono{a b a' b':bR}(h:lQ a b)(ha:gR a' a)(hb:gR b' b):lQ a' b':=by
 intro k
 rcases h k with h|h
 ·left
  cases h':a' k with
  |none=>rfl
  |some o=>rw[ha k o h']at h;cases h
 ·right
  cases h':b' k with
  |none=>rfl
  |some o=>rw[hb k o h']at h;cases h
theorem eO(a b:bR):gR a (un a b):=fun k o h=>by simp[un,h]
theorem eH{a b:bR}(hd:lQ a b):gR b (un a b):=fun k o h=>by
 rcases hd k with h'|h'
 ·simp[un,h',h]
 ·rw[h']at h;cases h
theorem oH{a b c:bR}(ha:gR a c)(hb:gR b c):gR (un a b) c:=fun k o h=>by
 simp only[un]at h
 cases h':a k with
 |some x=>rw[h']at h;simp at h;subst h;exact ha k _ h'
 |none=>rw[h']at h;simp at h;exact hb k _ h
theorem lK{a b c:bR}(h1:lQ a c)(h2:lQ b c):lQ (un a b) c:=fun k=>by
 rcases h1 k with h|h
 ·rcases h2 k with h'|h'
  ·left;simp[un,h,h']
  ·right;exact h'
 ·right;exact h
theorem pX{a b c:bR}(h:lQ (un a b) c):lQ a c:=h.mono (eO a b) (gR.refl c)
abbrev cE:=bR→Prop
def kI:List cE→bR→Prop
 |[],_=>True
 |r::rs,h=>∃a b,lQ a b∧gR a h∧gR b h∧r a∧kI rs b
theorem kI.mono{L:List cE}{h h':bR}(hs:gR h h')(hL:kI L h):kI L h':=by
 cases L with
 |nil=>trivial
 |cons r rs=>obtain⟨a,b,hd,ha,hb,hr,hrs⟩:=hL;exact⟨a,b,hd,ha.trans hs,hb.trans hs,hr,hrs⟩
theorem kI.swap{r s:cE}{L:List cE}{h:bR}(hL:kI (r::s::L) h):kI (s::r::L) h:=by
 obtain⟨a,b,hd,ha,hb,hr,a',b',hd',ha',hb',hs,hL'⟩:=hL
 refine⟨a',un a b',?_,ha'.trans hb,oH ha (hb'.trans hb),hs,a,b',hd.mono (gR.refl _) hb',eO _ _,eH (hd.mono (gR.refl _) hb'),hr,hL'⟩
 exact(lK (hd.mono (gR.refl _) ha') hd'.symm).symm
theorem kI.perm{L L':List cE}(hp:L.Perm L'):∀{h:bR},kI L h→kI L' h:=by
 induction hp with
 |nil=>exact fun h=>h
 |cons r _ ih=>intro h hL;obtain⟨a,b,hd,ha,hb,hr,hrs⟩:=hL;exact⟨a,b,hd,ha,hb,hr,ih hrs⟩
 |swap r s l=>exact fun hL=>hL.swap
 |trans _ _ ih1 ih2=>exact fun hL=>ih2 (ih1 hL)
theorem kI.tail{r:cE}{L:List cE}{h:bR}(hL:kI (r::L) h):kI L h:=by
 obtain⟨a,b,hd,ha,hb,hr,hrs⟩:=hL
 exact hrs.mono hb
theorem kI.drop{L L':List cE}(hp:L'.Sublist L):∀{h:bR},kI L h→kI L' h:=by
 induction hp with
 |slnil=>exact fun h=>h
 |cons r _ ih=>exact fun h=>ih h.tail
 |cons_cons r _ ih=>intro h hL;obtain⟨a,b,hd,ha,hb,hr,hrs⟩:=hL;exact⟨a,b,hd,ha,hb,hr,ih hrs⟩
theorem kI.append{L M:List cE}:∀{h:bR},kI (L++M) h↔∃a b,lQ a b∧gR a h∧gR b h∧kI L a∧kI M b:=by
 induction L with
 |nil=>
  intro h
  refine⟨fun hM=>⟨fun _=>none,h,fun _=> .inl rfl,fun _ _ h=>(by cases h),gR.refl h,trivial,hM⟩,fun⟨a,b,_,_,hb,_,hM⟩=>hM.mono hb⟩
 |cons r L ih=>
  intro h
  constructor
  ·rintro⟨a,b,hd,ha,hb,hr,hrs⟩
   obtain⟨c,d,hcd,hc,hd',hL,hM⟩:=ih.1 hrs
   exact⟨un a c,d,lK (hd.mono (gR.refl _) hd') hcd,oH ha (hc.trans hb),hd'.trans hb,⟨a,c,hd.mono (gR.refl _) hc,eO _ _,eH (hd.mono (gR.refl _) hc),hr,hL⟩,hM⟩
  ·rintro⟨c,d,hcd,hc,hd',⟨a,b,hd,ha,hb,hr,hrs⟩,hM⟩
   refine⟨a,un b d,?_,ha.trans hc,oH (hb.trans hc) hd',hr,ih.2 ⟨b,d,hcd.mono hb (gR.refl _),eO _ _,eH (hcd.mono hb (gR.refl _)),hrs,hM⟩⟩
   exact(lK hd.symm (hcd.mono ha (gR.refl _)).symm).symm
structure Base where
 heap:bR
 os:Os
 tape:Nat→Question→Nat
 output:Array (Nat×ByteArray)
 drawn:Nat
def ph(w:World):bR:=fun k=>w.heap[k]?
def World.base(w:World):Base:=⟨ph w,w.os,w.tape,w.output,w.drawn⟩
structure St(β:Base)(L:List cE)(w:World):Prop where
 os:w.os=β.os
 tape:w.tape=β.tape
 output:w.output=β.output∧β.drawn≤w.drawn
 heap:∃h,lQ β.heap h∧gR β.heap (ph w)∧gR h (ph w)∧kI L h
theorem St.base(w:World):St (World.base w) [] w:=⟨rfl,rfl,⟨rfl,Nat.le_refl _⟩,fun _=>none,fun _=> .inr rfl,gR.refl _,fun _ _ h=>(by cases h),trivial⟩
theorem St.perm{β:Base}{L L':List cE}{w:World}(h:St β L w)(hp:L.Perm L'):St β L' w:=by
 obtain⟨a,b,c,hh,hd,hs,hs',hL⟩:=h
 exact⟨a,b,c,hh,hd,hs,hs',hL.perm hp⟩
theorem St.drop{β:Base}{L L':List cE}{w:World}(h:St β L w)(hp:L'.Sublist L):St β L' w:=by
 obtain⟨a,b,c,hh,hd,hs,hs',hL⟩:=h
 exact⟨a,b,c,hh,hd,hs,hs',hL.drop hp⟩
def aX(β:Base)(L:List cE)(F:bR→Prop):Prop:=∀h,gR β.heap h→(∀r∈L,∃a,gR a h∧r a)→F h
theorem kI.each{L:List cE}:∀{h:bR},kI L h→∀r∈L,∃a,gR a h∧r a:=by
 induction L with
 |nil=>intro h _ r hr;cases hr
 |cons s L ih=>
  rintro h ⟨a,b,hd,ha,hb,hr,hrs⟩ r hm
  cases hm with
  |head=>exact⟨a,ha,hr⟩
  |tail _ hm=>obtain⟨c,hc,hr'⟩:=ih hrs r hm;exact⟨c,hc.trans hb,hr'⟩
theorem St.knows{β:Base}{L:List cE}{w:World}{F:bR→Prop}(h:St β L w)(hF:aX β L F):F (ph w):=by
 obtain⟨a,b,c,hh,hd,hs,hs',hL⟩:=h
 exact hF _ hs fun r hr=>let⟨a,ha,hra⟩:=hL.each r hr;⟨a,ha.trans hs',hra⟩
def oZ(F:bR→Prop):Prop:=∀h h',gR h h'→F h→F h'
theorem aX.of_base{β:Base}{L:List cE}{F:bR→Prop}(hm:oZ F)(h:F β.heap):aX β L F:=fun _ hs _=>hm _ _ hs h
theorem aX.of_res{β:Base}{L:List cE}{F:bR→Prop}{r:cE}(i:Nat)(hi:L[i]? =some r)(hm:oZ F)(h:∀a,r a→F a):aX β L F:=
 fun _ _ hr=>let⟨_,ha,hra⟩:=hr r (List.mem_of_getElem? hi);hm _ _ ha (h _ hra)
theorem aX.imp{β:Base}{L:List cE}{F G:bR→Prop}(h:aX β L F)(hi:∀a,F a→G a):aX β L G:=fun a hs hr=>hi a (h a hs hr)
theorem St.turn{β:Base}{r r':cE}{L:List cE}{w w':World}(h:St β (r::L) w)(hos:w'.os=w.os)(htape:w'.tape=w.tape)(hout:w'.output=w.output)
 (ht:∀a,gR a (ph w)→r a→∃a',r' a'∧gR a' (ph w')∧∀k,k<w.heap.size→a k=none→a' k=none∧w'.heap[k]? =w.heap[k]?)(hdr:w.drawn≤w'.drawn:=by first|exact Nat.le_refl _|exact Nat.le_add_right _ _):St β (r'::L) w':=by
 obtain⟨a,b,c,hh,hd,hs,hs',p,q,hpq,hp,hq,hr,hL⟩:=h
 obtain⟨p',hr',hp',hk⟩:=ht p (hp.trans hs') hr
 have lt:∀{k o},ph w k=some o→k<w.heap.size:=fun h=>by
  have:=Array.getElem?_eq_some_iff.1 h;exact this.1
 have keep:∀(x:bR),lQ p x→gR x (ph w)→gR x (ph w')∧lQ p' x:=by
  intro x hx hxs
  refine⟨fun k o ho=> ?_,fun k=> ?_⟩
  ·have hw:=hxs k o ho
   have hpk:p k=none:=by rcases hx k with h|h;exact h;rw[ho]at h;cases h
   show w'.heap[k]? =some o
   rw[(hk k (lt hw) hpk).2];exact hw
  ·cases ho:x k with
   |none=>exact .inr rfl
   |some o=>
    have hw:=hxs k o ho
    have hpk:p k=none:=by rcases hx k with h|h;exact h;rw[ho]at h;cases h
    exact .inl (hk k (lt hw) hpk).1
 have hβ:=keep β.heap ((hd.mono (gR.refl _) hp).symm) hs
 have hq':=keep q hpq (hq.trans hs')
 refine⟨hos.trans a,htape.trans b,⟨hout.trans c.1,Nat.le_trans c.2 hdr⟩,un p' q,?_,hβ.1,oH hp' hq'.1,p',q,hq'.2,eO _ _,eH hq'.2,hr',hL⟩
 exact(lK hβ.2 (hd.mono (gR.refl _) hq).symm).symm
theorem St.grow{β:Base}{r':cE}{L:List cE}{w w':World}(h:St β L w)(hos:w'.os=w.os)(htape:w'.tape=w.tape)(hout:w'.output=w.output)
 (hk:∀k,k<w.heap.size→w'.heap[k]? =w.heap[k]?)(hr:∃a',r' a'∧gR a' (ph w')∧∀k,k<w.heap.size→a' k=none)(hdr:w.drawn≤w'.drawn:=by first|exact Nat.le_refl _|exact Nat.le_add_right _ _):St β (r'::L) w':=by
 have h':St β ((fun _=>True)::L) w:=by
  obtain⟨a,b,c,hh,hd,hs,hs',hL⟩:=h
  exact⟨a,b,c,hh,hd,hs,hs',fun _=>none,hh,fun _=> .inl rfl,fun _ _ h=>(by cases h),gR.refl _,trivial,hL⟩
 obtain⟨a',hr',hs',hn⟩:=hr
 exact h'.turn hos htape hout (fun a _ _=>⟨a',hr',hs',fun k hlt _=>⟨hn k hlt,hk k hlt⟩⟩) hdr
theorem St.same{β:Base}{L:List cE}{w w':World}(h:St β L w)(hos:w'.os=w.os)(htape:w'.tape=w.tape)(hout:w'.output=w.output)
 (hk:∀k,k<w.heap.size→w'.heap[k]? =w.heap[k]?)(hdr:w.drawn≤w'.drawn:=by first|exact Nat.le_refl _|exact Nat.le_add_right _ _):St β L w':=
 (h.grow (r':=fun _=>True) hos htape hout hk ⟨fun _=>none,trivial,fun _ _ h=>(by cases h),fun _ _=>rfl⟩ hdr).drop (List.sublist_cons_self _ _)
theorem St.drew{β:Base}{L:List cE}{w:World}(h:St β L w):St β L w.drew:=h.same rfl rfl rfl fun _ _=>rfl
def pt(b:Nat)(o:Obj):cE:=fun h=>h b=some o
theorem St.new{β:Base}{L:List cE}{w:World}(h:St β L w)(o:Obj):St β (pt w.heap.size o::L) (w.alloc o):=by
 refine h.grow rfl rfl rfl (fun k hk=>Below.heap_alloc w o k hk) ⟨fun k=>if k=w.heap.size then some o else none,by simp[pt],?_,?_⟩
 ·intro k o' h
  by_cases e:k=w.heap.size
  ·subst e;simp at h;subst h;exact heap_alloc_new w o
  ·simp[e]at h
 ·intro k hk
  have:k≠w.heap.size:=by omega
  simp[this]
theorem St.pt{β:Base}{L:List cE}{w:World}{b:Nat}{o:Obj}(h:St β L w)(i:Nat)(hi:L[i]? =some (pt b o)):w.heap[b]? =some o:=
 h.knows (F:=fun h=>h b=some o) (aX.of_res i hi (fun _ _ hs hb=>hs _ _ hb) fun _ ha=>ha)
theorem St.put{β:Base}{L:List cE}{w w':World}{b:Nat}{o o':Obj}(h:St β (Sl.pt b o::L) w)(hos:w'.os=w.os)(htape:w'.tape=w.tape)(hout:w'.output=w.output)
 (hb:w'.heap[b]? =some o')(hk:∀k,k≠b→k<w.heap.size→w'.heap[k]? =w.heap[k]?)(hdr:w.drawn≤w'.drawn:=by first|exact Nat.le_refl _|exact Nat.le_add_right _ _):St β (Sl.pt b o'::L) w':=by
 refine h.turn hos htape hout (fun a _ hr=>⟨fun k=>if k=b then some o' else none,by simp[Sl.pt],?_,?_⟩) hdr
 ·intro k x hx
  by_cases e:k=b
  ·subst e;simp at hx;subst hx;exact hb
  ·simp[e]at hx
 ·intro k hlt hak
  have hne:k≠b:=by rintro rfl;rw[Sl.pt]at hr;rw[hr]at hak;cases hak
  exact⟨by simp[hne],hk k hne hlt⟩
theorem aB{α:Type _}{L:List α}{r:α}(i:Nat)(hi:L[i]? =some r):L.Perm (r::L.eraseIdx i):=by
 induction L generalizing i with
 |nil=>simp at hi
 |cons s L ih=>
  cases i with
  |zero=>simp at hi;subst hi;exact List.Perm.refl _
  |succ i=>
   simp at hi
   exact((ih i hi).cons s).trans (List.Perm.swap _ _ _)
theorem aFe{α:Type _}{L:List α}{r r':α}(i:Nat)(hi:L[i]? =some r):(r'::L.eraseIdx i).Perm (L.set i r'):=by
 induction L generalizing i with
 |nil=>simp at hi
 |cons s L ih=>
  cases i with
  |zero=>exact List.Perm.refl _
  |succ i=>
   simp at hi
   exact(List.Perm.swap _ _ _).trans ((ih i hi).cons s)
theorem St.front{β:Base}{L:List cE}{w:World}{r:cE}(h:St β L w)(i:Nat)(hi:L[i]? =some r):St β (r::L.eraseIdx i) w:=h.perm (aB i hi)
theorem St.back{β:Base}{L:List cE}{w:World}{r r':cE}(i:Nat)(hi:L[i]? =some r)(h:St β (r'::L.eraseIdx i) w):St β (L.set i r') w:=h.perm (aFe i hi)
theorem St.frame{β:Base}{L M:List cE}{w:World}(h:St β (L++M) w):
  ∃β₁:Base,gR β.heap β₁.heap∧(∀F,aX β M F→F β₁.heap)∧St β₁ L w∧∀L' w',St β₁ L' w'→St β (L'++M) w':=by
 obtain⟨ho,ht,hp,hh,hd,hs,hs',hL⟩:=h
 obtain⟨a,b,hab,ha,hb,hLa,hMb⟩:=kI.append.1 hL
 have hdb:lQ β.heap b:=hd.mono (gR.refl _) hb
 refine⟨⟨un β.heap b,β.os,β.tape,β.output,β.drawn⟩,eO _ _,?_,⟨ho,ht,hp,a,lK (hd.mono (gR.refl _) ha) hab.symm,oH hs (hb.trans hs'),ha.trans hs',hLa⟩,?_⟩
 ·intro F hF
  exact hF _ (eO _ _) fun r hr=>let⟨c,hc,hrc⟩:=hMb.each r hr;⟨c,hc.trans (eH hdb),hrc⟩
 ·rintro L' w' ⟨ho',ht',hp',h',hd',hs1,hs2,hL'⟩
  refine⟨ho',ht',hp',un h' b,?_,(eO _ _).trans hs1,oH hs2 ((eH hdb).trans hs1),?_⟩
  ·exact(lK (pX hd').symm hdb.symm).symm
  ·have hd2:lQ h' b:=(hd'.mono (eH hdb) (gR.refl _)).symm
   exact kI.append.2 ⟨h',b,hd2,eO _ _,eH hd2,hL',hMb⟩
theorem St.below{L:List cE}{w w':World}(h:St (World.base w) L w'):Below w.heap.size w w':=by
 obtain⟨ho,ht,hp,hh,hd,hs,hs',hL⟩:=h
 refine⟨ho,ht,hp.1,?_,fun k hk=> ?_⟩
 ·by_cases e:w.heap.size=0
  ·omega
  ·have hlt:w.heap.size-1<w.heap.size:=by omega
   have:=hs (w.heap.size-1) _ (Array.getElem?_eq_getElem hlt)
   have h2:=(Array.getElem?_eq_some_iff.1 this).1
   omega
 ·rw[Array.getElem?_eq_getElem hk];exact hs k _ (Array.getElem?_eq_getElem hk)
theorem St.drawn{L:List cE}{w w':World}(h:St (World.base w) L w'):w.drawn≤w'.drawn:=h.output.2
open Go.RowKit
abbrev Fm:=Nat→Value
def fS(f:Fm)(d:Nat)(v:Value):Fm:=fun i=>match Nat.beq i d with|true=>v|false=>f i
def ev(f:Fm):Operand→Value
 | .tmp t=>f t
 | .const v=>v
 | .global g=> .pointer (some ⟨g,0,none⟩)
 | .func f=> .func (.func f) #[] #[]
structure At(n:Nat)(ds:List Deferred)(f:Fm)(a:Act):Prop where
 defers:a.defers=ds
 size:a.tmps.size=n
 get:∀i,a.tmps.getD i undef=f i
theorem At.eval{n:Nat}{ds:List Deferred}{f:Fm}{a:Act}(h:At n ds f a):a.eval=ev f:=by
 funext x
 cases x with
 |tmp t=>exact h.get t
 |const v=>rfl
 |global g=>rfl
 |func g=>rfl
theorem At.put{n:Nat}{ds:List Deferred}{f:Fm}{a:Act}(h:At n ds f a){d:Nat}(hd:Nat.blt d n=true)(v:Value):At n ds (fS f d v) (a.put (some d) v):=by
 have hd':d<n:=by simpa[Nat.blt_eq]using hd
 refine⟨h.defers,by simp[Act.put,h.size],fun i=> ?_⟩
 have hg:=h.get i
 have hs:=h.size
 simp only[Act.put,fS]
 by_cases e:i=d
 ·subst e
  simp[Array.getD_eq_getD_getElem?,hs,hd',Nat.beq_refl]
 ·have e':Nat.beq i d=false:=by
   cases hb:Nat.beq i d with
   |false=>rfl
   |true=>exact absurd (Nat.eq_of_beq_eq_true hb) e
  rw[e']
  rw[←hg]
  simp only[Array.getD_eq_getD_getElem?,Array.getElem?_setIfInBounds]
  rw[if_neg (by omega)]
def pJ(args:Array Value):Fm:=fun i=>args.getD i undef
def Fe(r:Option Nat):Fence:={fn:=fun _=>True,depth:=none,alive:=false,round:=r}
section
variable (P:Program)(ro:Option Nat)(n:Nat)(ds:List Deferred)(β:Base)
def cQ(ops:Array Oper)(Q:Exit→Act→World→Prop)(rest:List Oper)(f:Fm)(L:List cE):Prop:=
 ∀a w,At n ds f a→St β L w→wpListIn (Fe ro) 3 P ops Q rest a w
def dE(c:Code)(Q:Exit→Act→World→Prop)(f:Fm)(L:List cE):Prop:=
 ∀a w,At n ds f a→St β L w→c.wpIn (Fe ro) 3 P Q a w
def iN(Q:Exit→Act→World→Prop)(e:Exit)(f:Fm)(L:List cE):Prop:=
 ∀a w,At n ds f a→St β L w→Q e a w
def sC(o:Oper)(Q:Exit→Act→World→Prop)(K:Act→World→Prop)(f:Fm)(L:List cE):Prop:=
 ∀a w,At n ds f a→St β L w→o.wpIn (Fe ro) 3 P a w K Q
end
section rules
variable {P:Program}{ro:Option Nat}{n:Nat}{ds:List Deferred}{β:Base}{Q:Exit→Act→World→Prop}{f:Fm}{L:List cE}{ops:Array Oper}{rest:List Oper}
theorem aG(h:iN n ds β Q .normal f L):cQ P ro n ds β ops Q [] f L:=fun a w ha hw=>wpListIn_nil (h a w ha hw)
theorem nT{o:Oper}(hg:o.guard=none)(h:sC P ro n ds β o Q (wpListIn (Fe ro) 3 P ops Q rest) f L):cQ P ro n ds β ops Q (o::rest) f L:=by
 intro a w ha hw
 unfold wpListIn
 rw[if_pos (by simp[Region.wanted,hg])]
 exact h a w ha hw
theorem mQ{ro:Option Nat}{m:Nat}{g:FuncId}{args:Array Value}{w:World}{R:Ending→World→Prop}:CallsIn (Fe ro) m P g args w R↔Calls P g args w R:=callsIn_wide (n:=m)
theorem mH{ρ:Operand→Value}{o:Oper}{w w':World}{x:Next}(h:(execOp ρ o).run P w= .ok x w')(hx:∀d,x≠ .defer d):o.semAt ro ρ=execOp ρ o:=by
 refine Oper.semAt_eq ro ρ o fun c hc=> ?_
 simp only[execOp,hc,Sem.run_bind]at h
 cases hr:(resolve ρ c o.type).run P w with
 |ok d w1=>rw[hr]at h;simp at h;exact hx d h.1.symm
 |halt x w1=>rw[hr]at h;simp at h
def gd(ops:Array Oper)(f:Fm)(j:Nat):Option Bool:=
 match(ops[j]?).bind (·.dst)with
 |none=>none
 |some d=>match f d with| .bool b=>some b|_=>none
theorem At.yielded{a:Act}(h:At n ds f a)(ops:Array Oper)(j:Nat)(b:Bool)(d:Nat)(ho:(ops[j]?).bind (·.dst)=some d)(hf:f d= .bool b):Go.yielded ops a.tmps j=some b:=by
 have hg:=h.get d
 rw[hf]at hg
 unfold Go.yielded
 have ht:a.tmps[d]? =some (.bool b):=by
  rw[Array.getD_eq_getD_getElem?]at hg
  cases hx:a.tmps[d]? with
  |none=>rw[hx]at hg;simp[undef]at hg
  |some x=>rw[hx]at hg;simp at hg;rw[hg]
 simp[ho,ht]
theorem aEp{o:Oper}{j d:Nat}{b:Bool}(hg:o.guard=some (j,b))(ho:(ops[j]?).bind (·.dst)=some d)(hf:f d= .bool b)
 (h:sC P ro n ds β o Q (wpListIn (Fe ro) 3 P ops Q rest) f L):cQ P ro n ds β ops Q (o::rest) f L:=by
 intro a w ha hw
 have hy:=ha.yielded ops j b d ho hf
 unfold wpListIn
 rw[if_pos (by simp[Region.wanted,hg,hy])]
 exact h a w ha hw
theorem eB{o:Oper}{j d e:Nat}{b b':Bool}(hg:o.guard=some (j,b'))(ho:(ops[j]?).bind (·.dst)=some d)(hf:f d= .bool b)(hb:(b==b')=false)
 (hd:o.dst=some e)(he:Nat.blt e n=true)(h:cQ P ro n ds β ops Q rest (fS f e undef) L):cQ P ro n ds β ops Q (o::rest) f L:=by
 intro a w ha hw
 have hy:=ha.yielded ops j b d ho hf
 unfold wpListIn
 rw[if_neg (by simp[Region.wanted,hg,hy];simpa using hb),hd]
 exact⟨fun _ _=>trivial,h _ w (ha.put he undef) hw⟩
theorem aIz{o:Oper}{d:Nat}{v:Value}(hd:o.dst=some d)(hn:Nat.blt d n=true)(hv:∀w,St β L w→(execOp (ev f) o).run P w= .ok (.value v) w)
 (k:cQ P ro n ds β ops Q rest (fS f d v) L):sC P ro n ds β o Q (wpListIn (Fe ro) 3 P ops Q rest) f L:=by
 intro a w ha hw
 refine⟨fun _ _=>trivial,?_⟩
 have h:=hv w hw
 rw[ha.eval,mH h (by simp),h,Oper.uponIn_value,hd]
 exact k _ w (ha.put hn v) hw
theorem aLa{o:Oper}{d:Nat}(hd:o.dst=some d)(hn:Nat.blt d n=true)
 (hv:∀w,St β L w→∃v w' L',(execOp (ev f) o).run P w= .ok (.value v) w'∧St β L' w'∧cQ P ro n ds β ops Q rest (fS f d v) L'):sC P ro n ds β o Q (wpListIn (Fe ro) 3 P ops Q rest) f L:=by
 intro a w ha hw
 obtain⟨v,w',L',hr,hw',k⟩:=hv w hw
 refine⟨fun _ _=>trivial,?_⟩
 rw[ha.eval,mH hr (by simp),hr,Oper.uponIn_value,hd]
 exact k _ w' (ha.put hn v) hw'
theorem aKe{o:Oper}(hd:o.dst=none)
 (hv:∀w,St β L w→∃w' L',(execOp (ev f) o).run P w= .ok .skip w'∧St β L' w'∧cQ P ro n ds β ops Q rest f L'):sC P ro n ds β o Q (wpListIn (Fe ro) 3 P ops Q rest) f L:=by
 intro a w ha hw
 obtain⟨w',L',hr,hw',k⟩:=hv w hw
 refine⟨fun _ _=>trivial,?_⟩
 rw[ha.eval,mH hr (by simp),hr,Oper.uponIn_skip,hd]
 exact k _ w' ha hw'
theorem aFs{o:Oper}{d:Nat}{g:FuncId}{args:Array Value}(hd:o.dst=some d)(hn:Nat.blt d n=true)
 (he:∀w,(execOp (ev f) o).run P w= .ok (.enter g args) w)
 (hc:∀w,St β L w→Calls P g args w fun e w'=>∃v,e= .returned v∧∃L',St β L' w'∧cQ P ro n ds β ops Q rest (fS f d v) L'):sC P ro n ds β o Q (wpListIn (Fe ro) 3 P ops Q rest) f L:=by
 intro a w ha hw
 refine⟨fun _ _=>trivial,?_⟩
 rw[ha.eval,mH (he w) (by simp),he w,Oper.uponIn_enter,hd]
 refine⟨fun h=>by simp[Fe]at h,CallsIn.mono (mQ.2 (hc w hw)) ?_⟩
 rintro e w' ⟨v,rfl,L',hw',k⟩
 exact k _ w' (ha.put hn v) hw'
theorem aC{id:Nat}{l:List Oper}(h:cQ P ro n ds β l.toArray Q l f L):dE P ro n ds β (.region id l.toArray false) Q f L:=
 fun a w ha hw=>wpIn_region_lit (h a w ha hw)
theorem aO{x y:Code}(h:dE P ro n ds β x (Exit.then (y.wpIn (Fe ro) 3 P Q) Q) f L):dE P ro n ds β (.seq x y) Q f L:=fun a w ha hw=>wpIn_seq (h a w ha hw)
theorem cM(h:iN n ds β Q .normal f L):dE P ro n ds β .skip Q f L:=fun a w ha hw=>wpIn_skip (h a w ha hw)
theorem bB(h:iN n ds β Q .ret f L):dE P ro n ds β .ret Q f L:=fun a w ha hw=>wpIn_ret (h a w ha hw)
theorem dZ{id:Nat}(h:iN n ds β Q (.exit id) f L):dE P ro n ds β (.exit id) Q f L:=fun a w ha hw=>wpIn_exit (h a w ha hw)
theorem aY{id:Nat}{c:Code}(h:dE P ro n ds β c (Exit.inBlock id Q) f L):dE P ro n ds β (.block id c) Q f L:=fun a w ha hw=>wpIn_block (h a w ha hw)
theorem cK{c:Operand}{x y:Code}(p:Prop)[Decidable p](hc:ev f c= .bool (decide p))(ht:p→dE P ro n ds β x Q f L)(hf:¬p→dE P ro n ds β y Q f L):
  dE P ro n ds β (.cond c x y) Q f L:=fun a w ha hw=>by
 have e:a.eval c= .bool (decide p):=by rw[ha.eval];exact hc
 by_cases hp:p
 ·exact wpIn_cond_true (by rw[e,decide_eq_true hp]) (ht hp a w ha hw)
 ·exact wpIn_cond_false (by rw[e,decide_eq_false hp]) (hf hp a w ha hw)
theorem yD{c:Operand}{x y:Code}(b:Bool)(hc:ev f c= .bool b)(ht:b=true→dE P ro n ds β x Q f L)(hf:b=false→dE P ro n ds β y Q f L):
  dE P ro n ds β (.cond c x y) Q f L:=fun a w ha hw=>by
 have e:a.eval c= .bool b:=by rw[ha.eval];exact hc
 cases b
 ·exact wpIn_cond_false e (hf rfl a w ha hw)
 ·exact wpIn_cond_true e (ht rfl a w ha hw)
theorem dU{c:Operand}{x y:Code}(hc:ev f c= .bool true)(ht:dE P ro n ds β x Q f L):dE P ro n ds β (.cond c x y) Q f L:=fun a w ha hw=>
 wpIn_cond_true (by rw[ha.eval];exact hc) (ht a w ha hw)
theorem dI{c:Operand}{x y:Code}(hc:ev f c= .bool false)(hf:dE P ro n ds β y Q f L):dE P ro n ds β (.cond c x y) Q f L:=fun a w ha hw=>
 wpIn_cond_false (by rw[ha.eval];exact hc) (hf a w ha hw)
theorem aQ{y:Code}(h:dE P ro n ds β y Q f L):iN n ds β (Exit.then (y.wpIn (Fe ro) 3 P Q) Q) .normal f L:=h
theorem bD{id:Nat}(h:iN n ds β Q .normal f L):iN n ds β (Exit.inBlock id Q) .normal f L:=h
theorem eA{id:Nat}(h:iN n ds β Q .normal f L):iN n ds β (Exit.inBlock id Q) (.exit id) f L:=fun a w ha hw=>by
 simp only[Exit.inBlock,if_true];exact h a w ha hw
theorem aU{K:Act→World→Prop}{id:Nat}(h:iN n ds β Q (.exit id) f L):iN n ds β (Exit.then K Q) (.exit id) f L:=h
theorem aK{K:Act→World→Prop}(h:iN n ds β Q .ret f L):iN n ds β (Exit.then K Q) .ret f L:=h
theorem bH{id:Nat}(h:iN n ds β Q .ret f L):iN n ds β (Exit.inBlock id Q) .ret f L:=h
def Cut(n:Nat)(ds:List Deferred)(β:Base)(J:Fm→List cE→Prop)(a:Act)(w:World):Prop:=∃f L,J f L∧At n ds f a∧St β L w
theorem bT{J:Fm→List cE→Prop}(h:J f L):iN n ds β (Exit.then (Cut n ds β J) Q) .normal f L:=fun _ _ ha hw=>⟨f,L,h,ha,hw⟩
theorem hO{x y:Code}(J:Fm→List cE→Prop)(hx:dE P ro n ds β x (Exit.then (Cut n ds β J) Q) f L)(hy:∀f' L',J f' L'→dE P ro n ds β y Q f' L'):
  dE P ro n ds β (.seq x y) Q f L:=fun a w ha hw=>
 wpIn_seq (wpIn_mono (hx a w ha hw) fun e a' w' hq=>by
  cases e with
  |normal=>obtain⟨f',L',hJ,ha',hw'⟩:=hq;exact hy f' L' hJ a' w' ha' hw'
  |_=>exact hq)
theorem dV{c:Code}{α:Type}(I:α→Fm→List cE→Prop)(μ:α→Nat)(x₀:α)(h₀:I x₀ f L)
 (round:∀x f' L',I x f' L'→dE P ro n ds β c (Exit.then (Cut n ds β fun f'' L''=>∃y,I y f'' L''∧μ y<μ x) Q) f' L'):dE P ro n ds β (.loop c) Q f L:=by
 have key:∀m x f' L' a w,μ x=m→I x f' L'→At n ds f' a→St β L' w→
   ∀(b:Frame) (k:List Item) (cs:List Frame),b.roundOf=(Fe ro).round→(Fe ro).fn b.fn→(Fe ro).room (cs.length+1+3)→
   ∃e a' w',Q e a' w'∧ArrivesIn (Machine.fenced P (Fe ro)) P (lone (b.atR a (.code c:: .inLoop c::k)) cs w) b k cs e a' w':=by
  intro m
  induction m using Nat.strongRecOn with
  |_ m ih=>
   intro x f' L' a w hm hI ha hw b k cs hro hb hr
   obtain⟨e,a₁,w₁,hq,harr⟩:=round x f' L' hI a w ha hw b (.inLoop c::k) cs hro hb hr
   cases e with
   |normal=>
    obtain⟨f'',L'',⟨y,hy,hlt⟩,ha',hw'⟩:=hq
    obtain⟨e₂,a₂,w₂,hq₂,harr₂⟩:=ih (μ y) (hm▸hlt) y f'' L'' a₁ w₁ rfl hy ha' hw' b k cs hro hb hr
    exact⟨e₂,a₂,w₂,hq₂,.of_steps (StepsIn.trans harr (.one (fenced_calm (fr:=b.atR a₁ (.inLoop c::k)) hb hr rfl) stepR_inLoop)) harr₂⟩
   |exit id=>exact⟨_,a₁,w₁,hq,.pass (x:= .inLoop c) rfl (fun _ _=> .inl (by simp)) harr⟩
   |goto l=>exact⟨_,a₁,w₁,hq,.pass (x:= .inLoop c) rfl (fun _ _=> .inl (by simp)) harr⟩
   |ret=>exact⟨_,a₁,w₁,hq,.pass (x:= .inLoop c) rfl (fun _ _=> .inl (by simp)) harr⟩
   |panic ch=>exact⟨_,a₁,w₁,hq,.pass (x:= .inLoop c) rfl (fun _ _=> .inl (by simp)) harr⟩
   |outgrown=>exact⟨_,a₁,w₁,hq,.pass (x:= .inLoop c) rfl (fun _ _=> .inl (by simp)) harr⟩
 intro a w ha hw b k cs hro hb hr
 obtain⟨e,a',w',hq,harr⟩:=key _ x₀ f L a w rfl h₀ ha hw b k cs hro hb hr
 exact⟨e,a',w',hq,.of_steps (.one (fenced_calm (fr:=b.atR a (.code (.loop c)::k)) hb hr rfl) stepR_loop) harr⟩
end rules
open Go.RowKit
def tyB(P:Program)(t:TypeId)(agg:Bool)(n:Nat):Bool:=
 (match P.underlying t with|some (.struct _)=>agg|some (.array _ _)=>agg|some _=> !agg|none=>false)&&
 (match P.info? t with|some i=>i.size==n|none=>false)
def aHh(P:Program)(s k off n:Nat)(agg:Bool):Bool:=
 match P.underlying s with
 |some (.struct fs)=>(match fs[k]? with|some f=>f.offset==off&&tyB P f.type agg n&& !(n==0)|none=>false)
 |_=>false
def nB(P:Program)(t e n:Nat):Bool:=
 (match P.underlying t with|some (.slice e')=>e'==e|_=>false)&&(match P.info? e with|some i=>i.size==n|none=>false)
def arB(P:Program)(t len e n:Nat):Bool:=
 (match P.underlying t with|some (.array l e')=>l==len&&e'==e|_=>false)&&(match P.info? e with|some i=>i.size==n|none=>false)
structure TyF(P:Program)(t:TypeId)(agg:Bool)(n:Nat):Prop where
 agg:∀w,(isAgg t).run P w= .ok agg w
 size:∀w,(sizeOf t).run P w= .ok n w
theorem tyF{P:Program}{t:TypeId}{agg:Bool}{n:Nat}(h:tyB P t agg n=true):TyF P t agg n:=by
 unfold tyB at h
 simp only[Bool.and_eq_true]at h
 obtain⟨h1,h2⟩:=h
 refine⟨fun w=> ?_,fun w=> ?_⟩
 ·cases hu:P.underlying t with
  |none=>rw[hu]at h1;simp at h1
  |some d=>
   unfold isAgg
   rw[Sem.run_bind,run_underlying hu w]
   cases d<;>simp_all
 ·cases hi:P.info? t with
  |none=>rw[hi]at h2;simp at h2
  |some i=>
   rw[hi]at h2;simp at h2
   simp[sizeOf,typeInfo,hi,h2]
section
variable {P:Program}{β:Base}{L:List cE}{f:Fm}
def EV(P:Program)(β:Base)(L:List cE)(f:Fm)(o:Oper)(v:Value):Prop:=∀w,St β L w→(execOp (ev f) o).run P w= .ok (.value v) w
variable {d:Option Tmp}{ty:TypeId}{ps:String}{af:Array Edge}{g:Option (Nat×Bool)}
theorem cV{x:Operand}:EV P β L f ⟨d,.move x,ty,ps,af,g⟩ (ev f x):=fun _ _=>rfl
theorem eR{x:Operand}:EV P β L f ⟨d,.assign x,ty,ps,af,g⟩ (ev f x):=fun _ _=>rfl
theorem pY{c x y:Operand}(hc:ev f c= .bool true):EV P β L f ⟨d,.pick c x y,ty,ps,af,g⟩ (ev f x):=fun w _=>by
 simp[execOp,hc,asBool]
theorem jZ{c x y:Operand}(hc:ev f c= .bool false):EV P β L f ⟨d,.pick c x y,ty,ps,af,g⟩ (ev f y):=fun w _=>by
 simp[execOp,hc,asBool]
section ints
variable {t t':TypeId}{x y:Operand}{k:IntKind}{a b:Int}
theorem bJ(hx:ev f x= .int k a)(hy:ev f y= .int k b){c:Int}(hc:k.wrap (a+b)=c):EV P β L f ⟨d,.binOp .add t x y t',ty,ps,af,g⟩ (.int k c):=fun w _=>by
 simp[execOp,hx,hy,eqGuard,binOp,Op.intArith,hc]
theorem aIw(hx:ev f x= .int k a)(hy:ev f y= .int k b){c:Int}(hc:k.wrap (a-b)=c):EV P β L f ⟨d,.binOp .sub t x y t',ty,ps,af,g⟩ (.int k c):=fun w _=>by
 simp[execOp,hx,hy,eqGuard,binOp,Op.intArith,hc]
theorem iC(hx:ev f x= .int k a)(hy:ev f y= .int k b){c:Int}(hc:k.wrap (a*b)=c):EV P β L f ⟨d,.binOp .mul t x y t',ty,ps,af,g⟩ (.int k c):=fun w _=>by
 simp[execOp,hx,hy,eqGuard,binOp,Op.intArith,hc]
theorem aAv(hx:ev f x= .int k a)(hy:ev f y= .int k b):EV P β L f ⟨d,.binOp .lss t x y t',ty,ps,af,g⟩ (.bool (decide (a<b))):=fun w _=>by
 simp[execOp,hx,hy,eqGuard,binOp,Op.intCmp]
theorem aIs(hx:ev f x= .int k a)(hy:ev f y= .int k b):EV P β L f ⟨d,.binOp .leq t x y t',ty,ps,af,g⟩ (.bool (decide (a≤b))):=fun w _=>by
 simp[execOp,hx,hy,eqGuard,binOp,Op.intCmp]
theorem aIq(hx:ev f x= .int k a)(hy:ev f y= .int k b):EV P β L f ⟨d,.binOp .gtr t x y t',ty,ps,af,g⟩ (.bool (decide (b<a))):=fun w _=>by
 simp[execOp,hx,hy,eqGuard,binOp,Op.intCmp]
theorem aDz(hx:ev f x= .int k a)(hy:ev f y= .int k b):EV P β L f ⟨d,.binOp .geq t x y t',ty,ps,af,g⟩ (.bool (decide (b≤a))):=fun w _=>by
 simp[execOp,hx,hy,eqGuard,binOp,Op.intCmp]
theorem sD(hx:ev f x= .int k a)(hy:ev f y= .int k b):EV P β L f ⟨d,.binOp .eql t x y t',ty,ps,af,g⟩ (.bool (decide (a=b))):=fun w _=>by
 simp only[execOp,hx,hy,eqGuard,binOp,Op.intCmp]
 simp
 rfl
theorem aKq(hx:ev f x= .int k a)(hy:ev f y= .int k b):EV P β L f ⟨d,.binOp .neq t x y t',ty,ps,af,g⟩ (.bool (decide (a≠b))):=fun w _=>by
 simp only[execOp,hx,hy,eqGuard,binOp,Op.intCmp]
 simp
 by_cases h:a=b<;>simp[h]
theorem aLv(hx:ev f x= .int k a)(hy:ev f y= .int k b){c:Int}(hc:k.wrap ((BitVec.ofInt k.bits a|||BitVec.ofInt k.bits b).toNat:Int)=c):EV P β L f ⟨d,.binOp .or t x y t',ty,ps,af,g⟩ (.int k c):=fun w _=>by
 subst hc;simp[execOp,hx,hy,eqGuard,binOp,Op.intBits]
theorem sG(hx:ev f x= .int k a)(hy:ev f y= .int k b){c:Int}(hc:k.wrap ((BitVec.ofInt k.bits a^^^BitVec.ofInt k.bits b).toNat:Int)=c):EV P β L f ⟨d,.binOp .xor t x y t',ty,ps,af,g⟩ (.int k c):=fun w _=>by
 subst hc;simp[execOp,hx,hy,eqGuard,binOp,Op.intBits]
theorem aIv{k':IntKind}(hx:ev f x= .int k a)(hy:ev f y= .int k' b)(hb:¬b<0){c:Int}(hc:k.wrap (a*2^(min b.toNat k.bits))=c):EV P β L f ⟨d,.binOp .shl t x y t',ty,ps,af,g⟩ (.int k c):=fun w _=>by
 simp[execOp,hx,hy,eqGuard,binOp,Op.shift,hb,hc]
theorem sF{k':IntKind}(hx:ev f x= .int k a)(hy:ev f y= .int k' b)(hb:¬b<0){c:Int}(hc:a.fdiv (2^(min b.toNat k.bits))=c):EV P β L f ⟨d,.binOp .shr t x y t',ty,ps,af,g⟩ (.int k c):=fun w _=>by
 simp[execOp,hx,hy,eqGuard,binOp,Op.shift,hb,hc]
theorem aEb(hx:ev f x= .int k a)(hy:ev f y= .int k b)(hb:¬b=0){c:Int}(hc:k.wrap (a.tdiv b)=c):EV P β L f ⟨d,.binOp .quo t x y t',ty,ps,af,g⟩ (.int k c):=fun w _=>by
 simp[execOp,hx,hy,eqGuard,binOp,Op.intDiv,hb,hc]
theorem gJ(hx:ev f x= .int k a)(hy:ev f y= .int k b)(hb:¬b=0){c:Int}(hc:a.tmod b=c):EV P β L f ⟨d,.binOp .rem t x y t',ty,ps,af,g⟩ (.int k c):=fun w _=>by
 simp[execOp,hx,hy,eqGuard,binOp,Op.intDiv,hb,hc]
theorem cZ{t1 t2:TypeId}{k':IntKind}(hx:ev f x= .int k a)(ht1:∃j,P.underlying t1=some (.int j))(ht:P.underlying t2=some (.int k')){c:Int}(hc:k'.wrap a=c):
  EV P β L f ⟨d,.convert t1 t2 x,ty,ps,af,g⟩ (.int k' c):=fun w _=>by
 obtain⟨j,hj⟩:=ht1
 simp[execOp,hx,convert,run_underlying hj,run_underlying ht,Conv.intToInt,hc]
theorem aIt(hx:ev f x= .int k a)(hy:ev f y= .int k b){ts:Array TypeId}:EV P β L f ⟨d,.call ⟨.builtin .min,#[x,y],ts⟩,ty,ps,af,g⟩ (.int k (min a b)):=fun w _=>by
 simp[execOp,resolve,invoke,builtin,hx,hy,run_min_int2]
 omega
end ints
section bools
variable {t t':TypeId}{x y:Operand}{a b:Bool}
theorem aIu(hx:ev f x= .bool a):EV P β L f ⟨d,.unOp .not t x,ty,ps,af,g⟩ (.bool (!a)):=fun w _=>by
 simp[execOp,hx,Op.unary]
theorem mT(hx:ev f x= .bool a)(hy:ev f y= .bool b)(ht:P.underlying t=some .bool):EV P β L f ⟨d,.binOp .neq t x y t',ty,ps,af,g⟩ (.bool (!(a==b))):=fun w _=>by
 simp[execOp,hx,hy,eqGuard,run_neq_bool w t a b ht]
end bools
section plain
variable {x y:Operand}
theorem mB{vs:Array Value}{i:Nat}{v:Value}(hx:ev f x= .tuple vs)(hv:vs[i]? =some v):EV P β L f ⟨d,.extract x i,ty,ps,af,g⟩ v:=fun w _=>by
 simp[execOp,hx,Instr.extract,hv]
theorem aIr{a:Option Addr}{n c:Nat}{t e:TypeId}(hx:ev f x= .slice a n c)(ht:P.underlying t=some (.slice e)):EV P β L f ⟨d,.call ⟨.builtin .len,#[x],#[t]⟩,ty,ps,af,g⟩ (.int .i64 (n:Int)):=fun w _=>by
 simp[execOp,resolve,invoke,builtin,hx,Builtin.len_,goInt,run_underlying ht]
theorem aAu{s:ByteArray}{t:TypeId}(hx:ev f x= .string s)(ht:P.underlying t=some .string):EV P β L f ⟨d,.call ⟨.builtin .len,#[x],#[t]⟩,ty,ps,af,g⟩ (.int .i64 (s.size:Int)):=fun w _=>by
 simp[execOp,resolve,invoke,builtin,hx,Builtin.len_,goInt,run_underlying ht]
theorem vN{s:ByteArray}{t:TypeId}{k:Nat}{c:UInt8}{y:Operand}(hx:ev f x= .string s)(hy:ev f y= .int .i64 (k:Int))(ht:P.underlying t=some .string)(hc:s.data.toList[k]? =some c):EV P β L f ⟨d,.index t x y,ty,ps,af,g⟩ (.int .u8 (c.toNat:Int)):=fun w _=>by
 have hc':s[k]? =some c:=by
  obtain⟨hlt,he⟩:=List.getElem?_eq_some_iff.1 hc
  have hlt':k<s.size:=by simpa using hlt
  rw[getElem?_pos s k hlt',←he]
  rfl
 simp[execOp,hx,hy,Instr.index,asIntOf,run_underlying ht,hc']
theorem aKr{a:Addr}(hx:ev f x= .pointer (some a)):EV P β L f ⟨d,.nilCheck x,ty,ps,af,g⟩ (.pointer (some a)):=fun w _=>by
 simp[execOp,hx]
theorem pO{fn:Fn}{a b:List Operand}{u v:List Value}(hu:a.map (ev f)=u)(hv:b.map (ev f)=v):EV P β L f ⟨d,.makeFunc fn a.toArray b.toArray,ty,ps,af,g⟩ (.func fn u.toArray v.toArray):=fun w _=>by
 simp[execOp,Instr.makeFunc,hu,hv]
end plain
end
open Go.RowKit
def tQ(h:bR)(a:Addr):Option Value:=
 match h a.block with
 |some (.cells c _ _)=>if a.spot.isSome then none else c[a.off]?
 |_=>none
theorem yE(a:Addr)(v:Value):oZ (fun h=>tQ h a=some v):=by
 intro h h' hs hc
 unfold tQ at*
 cases hb:h a.block with
 |none=>rw[hb]at hc;cases hc
 |some o=>rw[hs _ _ hb];rw[hb]at hc;exact hc
def Cs(h:bR)(a:Addr)(cs:List Value):Prop:=∀j v,cs[j]? =some v→tQ h (a.add j)=some v
theorem Cs.mono(a:Addr)(cs:List Value):oZ (fun h=>Cs h a cs):=fun h h' hs hc j v hj=>yE _ _ h h' hs (hc j v hj)
theorem Cs.of_pt{h:bR}{b o:Nat}{cs:Array Value}{T:TypeId}{fr:Nat×Nat}(hb:h b=some (.cells cs T fr)){vs:List Value}(hv:(cs.toList.drop o).take vs.length=vs):Cs h ⟨b,o,none⟩ vs:=by
 intro j v hj
 have e:(⟨b,o,none⟩:Addr).add j=⟨b,o+j,none⟩:=by unfold Addr.add;split<;>simp_all
 rw[e]
 have hlt:j<vs.length:=(List.getElem?_eq_some_iff.1 hj).1
 rw[←hv,List.getElem?_take_of_lt hlt,List.getElem?_drop]at hj
 simpa[tQ,hb]using hj
theorem Addr.add_add'(a:Addr)(m n:Nat):(a.add m).add n=a.add (m+n):=by
 unfold Addr.add
 by_cases hm:m=0<;>by_cases hn:n=0<;>simp[hm,hn,Nat.add_assoc]
theorem Cs.sub{h:bR}{a:Addr}{cs vs:List Value}(o:Nat)(hc:Cs h a cs)(hv:(cs.drop o).take vs.length=vs):Cs h (a.add o) vs:=by
 intro j v hj
 have hlt:j<vs.length:=(List.getElem?_eq_some_iff.1 hj).1
 rw[←hv,List.getElem?_take_of_lt hlt,List.getElem?_drop]at hj
 rw[Addr.add_add'];exact hc _ _ hj
structure Rp(α:Type) where
 n:Nat
 rep:bR→List Value→α→Prop
 len:∀h cs x,rep h cs x→cs.length=n
 mono:∀cs x,oZ (fun h=>rep h cs x)
def Rp.flat{α:Type}(n:Nat)(enc:α→List Value)(hl:∀x,(enc x).length=n):Rp α:=
 ⟨n,fun _ cs x=>cs=enc x,fun _ _ x h=>by rw[h];exact hl x,fun _ _ _ _ _ h=>h⟩
def ba(a:Option Addr):Addr:=a.getD ⟨0,0,none⟩
def bO{α:Type}(R:Rp α)(h:bR)(a:Option Addr)(xs:List α):Prop:=
 ∀j x,xs[j]? =some x→a=some (ba a)∧∃cs,Cs h ((ba a).add (j*R.n)) cs∧R.rep h cs x
theorem bO.mono{α:Type}(R:Rp α)(a:Option Addr)(xs:List α):oZ (fun h=>bO R h a xs):=fun h h' hs he j x hx=>
 let⟨ha,cs,hc,hr⟩:=he j x hx;⟨ha,cs,Cs.mono _ _ h h' hs hc,R.mono _ _ h h' hs hr⟩
structure Sl{α:Type}(R:Rp α)(h:bR)(v:Value)(xs:List α):Prop where
 get:∃a c,v= .slice a xs.length c∧xs.length≤c∧c≤9223372036854775807∧bO R h a xs
theorem Sl.mono{α:Type}(R:Rp α)(v:Value)(xs:List α):oZ (fun h=>Sl R h v xs):=fun h h' hs ⟨a,c,e,hl,hm,he⟩=>⟨a,c,e,hl,hm,bO.mono R a xs h h' hs he⟩
def Rp.slice{α:Type}(R:Rp α):Rp (List α):=
 ⟨1,fun h cs xs=>∃v,cs=[v]∧Sl R h v xs,fun _ _ _ ⟨_,e,_⟩=>by rw[e];rfl,fun _ _ h h' hs ⟨v,e,hv⟩=>⟨v,e,Sl.mono R v _ h h' hs hv⟩⟩
section
variable {P:Program}{β:Base}{L:List cE}{f:Fm}
variable {d:Option Tmp}{ty:TypeId}{ps:String}{af:Array Edge}{g:Option (Nat×Bool)}
theorem sE{x:Operand}{s k off n:Nat}{agg:Bool}{a:Addr}(hx:ev f x= .pointer (some a))(hf:aHh P s k off n agg=true):
  EV P β L f ⟨d,.fieldAddr s x k,ty,ps,af,g⟩ (.pointer (some (a.add off))):=fun w _=>by
 unfold aHh at hf
 cases hu:P.underlying s with
 |none=>rw[hu]at hf;cases hf
 |some dd=>
  rw[hu]at hf
  cases dd<;>simp only[]at hf<;>try (cases hf)
  rename_i fs
  cases hk:fs[k]? with
  |none=>rw[hk]at hf;cases hf
  |some fl=>
   rw[hk]at hf
   simp only[Bool.and_eq_true,Bool.not_eq_true',beq_eq_false_iff_ne,ne_eq,beq_iff_eq]at hf
   obtain⟨⟨ho,ht⟩,hn⟩:=hf
   have hs:=(tyF ht).size w
   simp[execOp,hx,Instr.fieldAt,run_underlying hu,hk,Instr.sureAddr,fieldPlace,hs,hn,ho]
theorem aCe{x:Operand}{s k off n:Nat}{agg:Bool}{b o:Nat}(hx:ev f x= .pointer (some ⟨b,o,none⟩))(hf:aHh P s k off n agg=true):
  EV P β L f ⟨d,.fieldAddr s x k,ty,ps,af,g⟩ (.pointer (some ⟨b,o+off,none⟩)):=by
 have h:=sE (P:=P) (β:=β) (L:=L) (d:=d) (ty:=ty) (ps:=ps) (af:=af) (g:=g) hx hf
 have e:(⟨b,o,none⟩:Addr).add off=⟨b,o+off,none⟩:=by unfold Addr.add;split<;>simp_all
 rwa [e]at h
theorem nR{x y:Operand}{t e n:Nat}{k len cap:Nat}{a:Option Addr}(hx:ev f x= .slice a len cap)(hy:ev f y= .int .i64 (k:Int))(ht:nB P t e n=true)(hk:k<len)(ha:a=some (ba a)):
  EV P β L f ⟨d,.indexAddr t x y,ty,ps,af,g⟩ (.pointer (some ((ba a).add (k*n)))):=fun w _=>by
 unfold nB at ht
 simp only[Bool.and_eq_true]at ht
 obtain⟨h1,h2⟩:=ht
 cases hu:P.underlying t with
 |none=>rw[hu]at h1;cases h1
 |some dd=>
  rw[hu]at h1
  cases dd<;>simp only[]at h1<;>try (cases h1)
  rename_i e'
  have he:e'=e:=by simpa using h1
  subst he
  cases hi:P.info? e' with
  |none=>rw[hi]at h2;cases h2
  |some i=>
   rw[hi]at h2
   have hn:i.size=n:=by simpa using h2
   rw[ha]at hx
   simp only[execOp,hx,hy,Instr.indexAt,asIntOf,Sem.run_bind,run_underlying hu,Sem.run_pure,Result.andThen_ok]
   simp[hk,sizeOf,typeInfo,hi,hn]
theorem iR{x y:Operand}{t len e k:Nat}{cs:Array Value}{v:Value}(hx:ev f x= .agg cs)(hy:ev f y= .int .i64 (k:Int))(ht:arB P t len e 1=true)(hv:cs[k]? =some v)(hk:k<len)(hne:tyB P e false 1=true):
  EV P β L f ⟨d,.index t x y,ty,ps,af,g⟩ v:=fun w _=>by
 unfold arB at ht
 simp only[Bool.and_eq_true]at ht
 obtain⟨h1,h2⟩:=ht
 cases hu:P.underlying t with
 |none=>rw[hu]at h1;cases h1
 |some dd=>
  rw[hu]at h1
  cases dd<;>simp only[]at h1<;>try (cases h1)
  rename_i l' e'
  simp only[Bool.and_eq_true,beq_iff_eq]at h1
  obtain⟨rfl,rfl⟩:=h1
  have hs:=(tyF hne).size w
  have ha:=(tyF hne).agg w
  simp only[execOp,hx,hy,Instr.index,asIntOf,Sem.run_bind,run_underlying hu,Sem.run_pure,Result.andThen_ok]
  simp[hk,hs,part,ha,hv]
theorem jD{t:TypeId}{agg:Bool}{n:Nat}(ht:TyF P t agg n){a:Addr}{cs:List Value}{w:World}(hc:Cs (ph w) a cs)(hl:cs.length=n):
  (agg=true→(loadVar t a).run P w= .ok (.agg cs.toArray) w)∧(agg=false→∀v,cs=[v]→(loadVar t a).run P w= .ok v w):=by
 have hcell:∀j v,cs[j]? =some v→w.cell? (a.add j)=some v:=fun j v hj=>hc j v hj
 constructor
 ·rintro rfl
  have h:=run_loadCells_list (P:=P) w a cs hcell
  rw[hl]at h
  simp[loadVar,ht.agg w,ht.size w,h]
 ·rintro rfl v rfl
  have h:=hcell 0 v rfl
  rw[Addr.add_zero']at h
  simp[loadVar,ht.agg w,run_load,h]
theorem aJq{x:Operand}{t n:Nat}{a:Addr}{cs:List Value}(ht:tyB P t true n=true)(hx:ev f x= .pointer (some a))(hk:aX β L (fun h=>Cs h a cs))(hl:cs.length=n):
  EV P β L f ⟨d,.load t x,ty,ps,af,g⟩ (.agg cs.toArray):=fun w hw=>by
 have h:=(jD (tyF ht) (hw.knows hk) hl).1 rfl
 simp[execOp,hx,Instr.loadAt,Instr.sureAddr,h]
theorem bZ{x:Operand}{t:Nat}{a:Addr}{v:Value}(ht:tyB P t false 1=true)(hx:ev f x= .pointer (some a))(hk:aX β L (fun h=>Cs h a [v])):
  EV P β L f ⟨d,.load t x,ty,ps,af,g⟩ v:=fun w hw=>by
 have h:=(jD (tyF ht) (hw.knows hk) rfl).2 rfl v rfl
 simp[execOp,hx,Instr.loadAt,Instr.sureAddr,h]
theorem dM{b o:Nat}{cs:Array Value}{T:TypeId}{fr:Nat×Nat}{vs:List Value}(i:Nat)(hi:L[i]? =some (pt b (.cells cs T fr)))(hv:(cs.toList.drop o).take vs.length=vs):
  aX β L (fun h=>Cs h ⟨b,o,none⟩ vs):=aX.of_res i hi (Cs.mono _ _) fun _ ha=>Cs.of_pt ha hv
def MV(P:Program)(β:Base)(L:List cE)(f:Fm)(o:Oper)(Post:Value→List cE→Prop):Prop:=
 ∀w,St β L w→∃v w' L',(execOp (ev f) o).run P w= .ok (.value v) w'∧St β L' w'∧Post v L'
def MU(P:Program)(β:Base)(L:List cE)(f:Fm)(o:Oper)(L':List cE):Prop:=
 ∀w,St β L w→∃w',(execOp (ev f) o).run P w= .ok .skip w'∧St β L' w'
theorem vO{x:Operand}{t:Nat}{v:Value}(hx:ev f x=v):MV P β L f ⟨d,.box t x,ty,ps,af,g⟩ (fun u L'=>∃b,u= .pointer (some ⟨b,0,none⟩)∧L'=pt b (.cells v.cells t)::L):=fun w hw=>by
 refine⟨_,_,_,?_,hw.new (.cells v.cells t),_,rfl,rfl⟩
 simp[execOp,hx,Instr.box,newVar,newRow]
theorem aHr{t:Nat}{v:Value}(hz:(P.info? t).bind (·.zero)=some v):MV P β L f ⟨d,.alloc t,ty,ps,af,g⟩ (fun u L'=>∃b,u= .pointer (some ⟨b,0,none⟩)∧L'=pt b (.cells v.cells t)::L):=fun w hw=>by
 refine⟨_,_,_,?_,hw.new (.cells v.cells t),_,rfl,rfl⟩
 cases hi:P.info? t with
 |none=>rw[hi]at hz;cases hz
 |some i=>
  rw[hi]at hz
  have hz':i.zero=some v:=by simpa using hz
  simp[execOp,Instr.alloc,zeroValue,typeInfo,hi,hz',newVar,newRow]
def over(cs:Array Value)(o:Nat)(vs:List Value):Array Value:=(cs.toList.take o++vs++cs.toList.drop (o+vs.length)).toArray
theorem bS{x y:Operand}{t T n b o:Nat}{agg:Bool}{cs cs':Array Value}{v:Value}(i:Nat)(ht:tyB P t agg n=true)(hx:ev f x= .pointer (some ⟨b,o,none⟩))(hi:L[i]? =some (pt b (.cells cs T)))
 (hy:ev f y=v)(hn:v.cells.size=n)(hfit:Nat.ble (o+n) cs.size=true)(h1:v.cells.toList.all (·.oneCell')=true)(hc:over cs o v.cells.toList=cs'):
  MU P β L f ⟨d,.store t x y,ty,ps,af,g⟩ (L.set i (pt b (.cells cs' T))):=fun w hw=>by
 have hb:=hw.pt i hi
 have hs:=(tyF ht).size w
 have hst:=run_storeCells_at P b o T v.cells.toList 0 cs w hb (by simpa[hn]using hfit) (List.all_eq_true.1 h1)
 simp only[Nat.add_zero]at hst
 refine⟨w.setRow b cs',?_,?_⟩
 ·rw[←hc]
  simp only[execOp,hx,hy,Instr.storeAt,Instr.sureAddr,Sem.run_bind,Sem.run_pure,Result.andThen_ok,storeVar,hs,hn,ne_eq,not_true_eq_false,if_false,hst,over]
 ·refine St.back i hi ((hw.front i hi).put rfl rfl rfl (setRow_heap w b cs cs' T _ hb) fun k hk _=>setRow_other w b k cs' hk)
end
open Go.RowKit
def row(v:Value)(T n m:Nat)(vs:List Value):cE:=fun h=>
 vs.length=m*n∧(v= .slice none 0 0∧m=0∨
  ∃g cap cur,v= .slice (some ⟨g,0,none⟩) m cap∧h g=some (.cells cur T (0,0))∧m≤cap∧cap≤maxLen∧cur.size=cap*n∧cur.toList.take (m*n)=vs)
theorem row.owns{v:Value}{T n m:Nat}{vs:List Value}{a:bR}{w:World}(h:row v T n m vs a)(ha:gR a (ph w)):w.ownsRow 0 T n v m vs:=by
 obtain⟨hl,h|⟨g,cap,cur,e,hg,h1,h2,h3,h4⟩⟩:=h
 ·exact⟨hl,.inl h⟩
 ·exact⟨hl,.inr ⟨g,cap,cur,e,Nat.zero_le _,ha _ _ hg,h1,h2,h3,h4⟩⟩
theorem eS(T n:Nat)(a:bR):row (.slice none 0 0) T n 0 [] a:=⟨by simp,.inl ⟨rfl,rfl⟩⟩
theorem St.conseq{β:Base}{r r':cE}{L:List cE}{w:World}(h:St β (r::L) w)(hr:∀a,r a→r' a):St β (r'::L) w:=by
 obtain⟨a,b,c,hh,hd,hs,hs',p,q,hpq,hp,hq,hrp,hL⟩:=h
 exact⟨a,b,c,hh,hd,hs,hs',p,q,hpq,hp,hq,hr _ hrp,hL⟩
theorem St.conseq_at{β:Base}{r r':cE}{L:List cE}{w:World}(h:St β L w)(i:Nat)(hi:L[i]? =some r)(hr:∀a,r a→r' a):St β (L.set i r') w:=
 St.back i hi ((h.front i hi).conseq hr)
theorem St.emp{β:Base}{r:cE}{L:List cE}{w:World}(h:St β L w)(hr:r fun _=>none):St β (r::L) w:=
 h.grow rfl rfl rfl (fun _ _=>rfl) ⟨fun _=>none,hr,fun _ _ h=>(by cases h),fun _ _=>rfl⟩
theorem jA{b T n m:Nat}{cs:Array Value}(hm:m≤maxLen)(hs:cs.size=m*n)(a:bR)(h:pt b (.cells cs T) a):row (.slice (some ⟨b,0,none⟩) m m) T n m cs.toList a:=
 ⟨by rw[Array.length_toList];exact hs,.inr ⟨b,m,cs,rfl,h,Nat.le_refl _,hm,hs,by rw[←hs,←Array.length_toList,List.take_length]⟩⟩
section
variable {P:Program}{β:Base}{L:List cE}{f:Fm}
variable {d:Option Tmp}{ty:TypeId}{ps:String}{af:Array Edge}{g:Option (Nat×Bool)}
def zS(P:Program)(e n bytes:Nat):Bool:=
 match P.info? e with
 |some i=>i.size==n&&i.bytes==bytes&&(match i.zero with|some z=>z.cells.size==n|none=>false)&& !(n==0)
 |none=>false
theorem St.grown{T n m m':Nat}{v v':Value}{vs vs':List Value}{L:List cE}{w w':World}(h:St β (row v T n m vs::L) w)(ho:w'.ownsRow 0 T n v' m' vs')(hg:w.grownBy w' v.ownBlock)
 (hnew:v'.ownBlock=none∨v'.ownBlock=v.ownBlock∨∀k,v'.ownBlock=some k→w.heap.size≤k)(hdr:w.drawn≤w'.drawn):St β (row v' T n m' vs'::L) w':=by
 refine h.turn hg.os hg.tape hg.output (fun a ha hr=> ?_) hdr
 have keep:∀k,k<w.heap.size→a k=none→w'.heap[k]? =w.heap[k]? :=fun k hk hak=>hg.block k hk fun e=>by
  obtain⟨_,⟨rfl,_⟩|⟨b,cap,cur,rfl,hb,_⟩⟩:=hr
  ·cases e
  ·simp only[Value.ownBlock,Option.some.injEq]at e
   subst e;rw[hb]at hak;cases hak
 obtain⟨hl,⟨rfl,hm0⟩|⟨b',cap',cur',rfl,_,hb',h1,h2,h3,h4⟩⟩:=ho
 ·exact⟨fun _=>none,⟨hl,.inl ⟨rfl,hm0⟩⟩,fun _ _ h=>(by cases h),fun k hk hak=>⟨rfl,keep k hk hak⟩⟩
 ·refine⟨fun k=>if k=b' then some (.cells cur' T (0,0))else none,⟨hl,.inr ⟨b',cap',cur',rfl,by simp,h1,h2,h3,h4⟩⟩,?_,?_⟩
  ·intro k o ho
   by_cases e:k=b'
   ·subst e;simp at ho;subst ho;exact hb'
   ·simp[e]at ho
  ·intro k hk hak
   refine⟨?_,keep k hk hak⟩
   have:k≠b':=by
    rintro rfl
    rcases hnew with h|h|h
    ·cases h
    ·obtain⟨_,⟨rfl,_⟩|⟨b,cap,cur,rfl,hb,_⟩⟩:=hr
     ·cases h
     ·simp only[Value.ownBlock,Option.some.injEq]at h
      subst h;rw[hb]at hak;cases hak
    ·have:=h k rfl;omega
   simp[this]
theorem uM{t e n bytes:Nat}(hsl:nB P t e n=true)(hel:zS P e n bytes=true){v:Value}{m:Nat}{vs:List Value}{w:World}(hown:w.ownsRow 0 e n v m vs)
 (ad:Addr)(k c:Nat)(news:List Value)(hl:news.length=k*n)(hnews:Cs (ph w) ad news)(h1:news.all (·.oneCell')=true)(h63:m+k≤maxLen)(hby:(m+k)*bytes≤140737488355328)(ty:TypeId):
  ∃v' w',(Builtin.append_ #[t,t] ty #[v,.slice (some ad) k c]).run P w= .ok v' w'∧w'.ownsRow 0 e n v' (m+k) (vs++news)∧w.grownBy w' v.ownBlock∧(v'= .slice none 0 0↔v= .slice none 0 0∧k=0)∧
   (v'.ownBlock=none∨v'.ownBlock=v.ownBlock∨∀b,v'.ownBlock=some b→w.heap.size≤b)∧w.drawn≤w'.drawn:=by
 unfold nB at hsl
 simp only[Bool.and_eq_true]at hsl
 obtain⟨hs1,hs2⟩:=hsl
 unfold zS at hel
 cases hu:P.underlying t with
 |none=>rw[hu]at hs1;cases hs1
 |some dd=>
  rw[hu]at hs1
  cases dd<;>simp only[]at hs1<;>try (cases hs1)
  rename_i e'
  have he:e'=e:=by simpa using hs1
  subst he
  cases hi:P.info? e' with
  |none=>rw[hi]at hs2;cases hs2
  |some i=>
   rw[hi]at hel
   simp only[Bool.and_eq_true,beq_iff_eq,Bool.not_eq_true',beq_eq_false_iff_ne,ne_eq]at hel
   obtain⟨⟨⟨hn,hb⟩,hz⟩,hn0⟩:=hel
   cases hzz:i.zero with
   |none=>rw[hzz]at hz;cases hz
   |some z=>
    rw[hzz]at hz
    have hz':z.cells.size=n:=by simpa using hz
    have hsub:∃v' w',(Builtin.append_ #[t,t] ty #[v,.slice (some ad) k c]).run P w= .ok v' w'∧w'.ownsRow 0 e' n v' (m+k) (vs++news)∧w.grownBy w' v.ownBlock∧(v'= .slice none 0 0↔v= .slice none 0 0∧k=0):=
     run_append_own (P:=P) w 0 t ty e' i z n bytes hu hi hzz hn hb hz' (by omega) v m vs hown ad k c news hl hnews (List.all_eq_true.1 h1) h63 hby (Nat.zero_le _)
    obtain⟨v',w',hr,ho,hg,hnil⟩:=hsub
    refine⟨v',w',hr,ho,hg,hnil,?_⟩
    have hown':=hown
    subst hn
    subst hb
    rcases hown.2 with⟨rfl,rfl⟩|⟨g,cap,cur,rfl,hbg,hgg,hnc,hcm,hcs,htake⟩
    ·by_cases hk:k=0
     ·have:=hnil.2 ⟨rfl,hk⟩
      subst this
      have hk0:=hk
      subst hk0
      have hn0:news=[]:=List.eq_nil_of_length_eq_zero (by simpa using hl)
      subst hn0
      have hx:(Builtin.append_ #[t,t] ty #[.slice none 0 0,.slice (some ad) 0 c]).run P w= .ok (.slice none 0 0) w:=by
       simp[Builtin.append_,run_underlying hu,sizeOf,typeInfo,hi,Builtin.lenOf,Builtin.firstCells,loadCells,loadCellsFrom]
      rw[hr]at hx
      injection hx with hx1 hx2
      exact⟨.inl rfl,by rw[hx2];exact Nat.le_refl _⟩
     ·have hby':k*i.bytes≤281474976710656:=by simp only[Nat.zero_add]at hby;omega
      have h63':k≤9223372036854775807:=by simp only[maxLen]at h63;omega
      have hx:=run_append_nil (P:=P) w t ty e' i z hu hi hzz ad k c news hl hnews (by omega) (by omega) hby'
      rw[hr]at hx
      injection hx with hx1 hx2
      subst hx1
      exact⟨.inr (.inr fun b hb=>by simp[Value.ownBlock]at hb;omega),by rw[hx2];exact Nat.le_succ _⟩
    ·by_cases hroom:m+k≤cap
     ·have hfit:m*i.size+news.length≤cur.size:=by rw[hl,hcs,←Nat.add_mul];exact Nat.mul_le_mul_right _ hroom
      have hx:=run_append_room (P:=P) w t ty e' i hu hi g m cap cur hgg ad k c news hl hnews (List.all_eq_true.1 h1) hroom hfit
      rw[hr]at hx
      injection hx with hx1 hx2
      subst hx1
      exact⟨.inr (.inl rfl),by rw[hx2];exact Nat.le_refl _⟩
     ·have holds:∀j u,vs[j]? =some u→w.cell? ((⟨g,0,none⟩:Addr).add j)=some u:=hown'.cells (g:=g) rfl
      have h63':m+k≤9223372036854775807:=by simp only[maxLen]at h63;omega
      have hx:=run_append_grow (P:=P) w t ty e' i z hu hi hzz ⟨g,0,none⟩ m cap vs hown'.1 holds ad k c news hl hnews (by omega) (by omega) (growslice_fits (by omega) hby)
      rw[hr]at hx
      injection hx with hx1 hx2
      subst hx1
      exact⟨.inr (.inr fun b hb=>by simp[Value.ownBlock]at hb;omega),by rw[hx2];exact Nat.le_succ _⟩
theorem aEu{x y:Operand}{t e n bytes m k c:Nat}{v:Value}{vs news:List Value}{ad:Addr}(i:Nat)(hsl:nB P t e n=true)(hel:zS P e n bytes=true)(hx:ev f x=v)(hi:L[i]? =some (row v e n m vs))
 (hy:ev f y= .slice (some ad) k c)(hl:news.length=k*n)(hnews:aX β L (fun h=>Cs h ad news))(h1:news.all (·.oneCell')=true)(h63:m+k≤maxLen)(hby:(m+k)*bytes≤140737488355328):
  MV P β L f ⟨d,.call ⟨.builtin .append,#[x,y],#[t,t]⟩,ty,ps,af,g⟩ (fun v' L'=>(v'= .slice none 0 0↔v= .slice none 0 0∧k=0)∧L'=L.set i (row v' e n (m+k) (vs++news))):=fun w hw=>by
 have hown:w.ownsRow 0 e n v m vs:=hw.knows (F:=fun h=>row v e n m vs h∨True) (fun _ _ _=> .inr trivial)|>fun _=>by
  obtain⟨a,ha,hr⟩:∃a,gR a (ph w)∧row v e n m vs a:=by
   obtain⟨_,_,_,hh,hd,hs,hs',hL⟩:=hw
   obtain⟨a,ha,hr⟩:=hL.each _ (List.mem_of_getElem? hi)
   exact⟨a,ha.trans hs',hr⟩
  exact hr.owns ha
 obtain⟨v',w',hr,ho,hg,hnil,hnew,hdr⟩:=uM (P:=P) hsl hel hown ad k c news hl (hw.knows hnews) h1 h63 hby ty
 refine⟨v',w',_,?_,St.back i hi ((hw.front i hi).grown ho hg hnew hdr),hnil,rfl⟩
 simp only[execOp,resolve,invoke,builtin,Sem.run_bind,Sem.run_pure,Result.andThen_ok,List.map_toArray,List.map_cons,List.map_nil,hx,hy,hr]
theorem wV{x y:Operand}{t e n m:Nat}{v:Value}{vs:List Value}{ao:Option Addr}{c:Nat}(i:Nat)(hsl:nB P t e n=true)(hx:ev f x=v)(hi:L[i]? =some (row v e n m vs))(hy:ev f y= .slice ao 0 c):
  MV P β L f ⟨d,.call ⟨.builtin .append,#[x,y],#[t,t]⟩,ty,ps,af,g⟩ (fun v' L'=>v'=v∧L'=L):=fun w hw=>by
 refine⟨v,w,L,?_,hw,rfl,rfl⟩
 obtain⟨a,ha,hr⟩:∃a,gR a (ph w)∧row v e n m vs a:=by
  obtain⟨_,_,_,hh,hd,hs,hs',hL⟩:=hw
  obtain⟨a,ha,hr⟩:=hL.each _ (List.mem_of_getElem? hi)
  exact⟨a,ha.trans hs',hr⟩
 unfold nB at hsl
 simp only[Bool.and_eq_true]at hsl
 obtain⟨hs1,hs2⟩:=hsl
 cases hu:P.underlying t with
 |none=>rw[hu]at hs1;cases hs1
 |some dd=>
  rw[hu]at hs1
  cases dd<;>simp only[]at hs1<;>try (cases hs1)
  rename_i e'
  have he:e'=e:=by simpa using hs1
  subst he
  cases hii:P.info? e' with
  |none=>rw[hii]at hs2;cases hs2
  |some i=>
   have hfirst:∀w,(Builtin.firstCells i.size 0 (.slice ao 0 c)).run P w= .ok #[] w:=fun w=>by
    cases ao<;>simp[Builtin.firstCells,loadCells,loadCellsFrom]
   have key:∀(b:Option Addr) (m cap:Nat),m≤cap→(Builtin.append_ #[t,t] ty #[.slice b m cap,.slice ao 0 c]).run P w= .ok (.slice b m cap) w:=fun b m cap hm=>by
    simp[Builtin.append_,run_underlying hu,sizeOf,typeInfo,hii,Builtin.lenOf,hm,hfirst]
    cases b<;>simp[storeCells]
   have hv:(Builtin.append_ #[t,t] ty #[v,.slice ao 0 c]).run P w= .ok v w:=by
    obtain⟨_,⟨rfl,_⟩|⟨b,cap,cur,rfl,_,hm,_⟩⟩:=hr
    ·exact key none 0 0 (Nat.le_refl _)
    ·exact key _ m cap hm
   simp only[execOp,resolve,invoke,builtin,Sem.run_bind,Sem.run_pure,Result.andThen_ok,List.map_toArray,List.map_cons,List.map_nil,hx,hy,hv]
theorem gN{t e n:Nat}(h:nB P t e n=true):P.underlying t=some (.slice e)∧∃i,P.info? e=some i∧i.size=n:=by
 unfold nB at h
 simp only[Bool.and_eq_true]at h
 obtain⟨h1,h2⟩:=h
 cases hu:P.underlying t with
 |none=>rw[hu]at h1;cases h1
 |some dd=>
  rw[hu]at h1
  cases dd<;>simp only[]at h1<;>try (cases h1)
  rename_i e'
  have he:e'=e:=by simpa using h1
  subst he
  cases hi:P.info? e' with
  |none=>rw[hi]at h2;cases h2
  |some i=>rw[hi]at h2;exact⟨rfl,i,rfl,by simpa using h2⟩
theorem aHv{t e n len:Nat}{parts:List (Nat×Operand)}{z:Value}{vs:List (Nat×Value)}{cells:Array Value}(hsl:nB P t e n=true)(hz:(P.info? e).bind (·.zero)=some z)
 (hp:(parts.map fun(i,x)=>(i,ev f x))=vs)(hs:(Nat.ble 1 (len*n)&&Nat.ble (len*n) 16777216)=true)
 (hf:Instr.fill (fun i=>some (i*n,n)) ((Array.range (len*n)).map (z.cells[· %z.cells.size]!)) vs=some cells):
  MV P β L f ⟨d,.buildSlice t len parts.toArray,ty,ps,af,g⟩ (fun u L'=>∃b,u= .slice (some ⟨b,0,none⟩) len len∧L'=pt b (.cells cells e)::L):=fun w hw=>by
 obtain⟨hu,i,hi,hn⟩:=gN hsl
 simp only[Bool.and_eq_true,Nat.ble_eq]at hs
 have hz':i.zero=some z:=by rw[hi]at hz;simpa using hz
 refine⟨_,_,_,?_,hw.new (.cells cells e),_,rfl,rfl⟩
 have h1:¬(16777216<len*n):=by omega
 have h2:¬(len*n=0):=by omega
 have hzv:∀w,(zeroValue e).run P w= .ok z w:=fun w=>by simp[zeroValue,typeInfo,hi,hz']
 simp only[execOp,Instr.buildSlice,Sem.run_bind,run_underlying hu,Result.andThen_ok,sizeOf,typeInfo,run_program,hi,Sem.run_pure,hn,Nat.reducePow,gt_iff_lt,h1,if_false,h2,hzv,Array.toList_map]at hf⊢
 simp only[hp,hf]
 simp[newRow]
theorem iZ{t e n:Nat}(hsl:nB P t e n=true):
  MV P β L f ⟨d,.buildSlice t 0 #[],ty,ps,af,g⟩ (fun u L'=>∃b,u= .slice (some ⟨b,0,none⟩) 0 0∧L'=pt b (.cells #[] e)::L):=fun w hw=>by
 obtain⟨hu,i,hi,hn⟩:=gN hsl
 refine⟨_,_,_,?_,hw.new (.cells #[] e),_,rfl,rfl⟩
 simp[execOp,Instr.buildSlice,run_underlying hu,sizeOf,typeInfo,hi,Instr.fill,newRow,show(Array.range 0:Array Nat)= #[]from by simp[Array.range]]
end
open Go.RowKit
section
variable {P:Program}{ro:Option Nat}{n:Nat}{ds:List Deferred}{β:Base}{Q:Exit→Act→World→Prop}{f:Fm}{L:List cE}{ops:Array Oper}{rest:List Oper}{o:Oper}
theorem cW{d:Nat}{v:Value}(hg:o.guard=none)(hd:o.dst=some d)(hn:Nat.blt d n=true)(h:EV P β L f o v)(k:cQ P ro n ds β ops Q rest (fS f d v) L):cQ P ro n ds β ops Q (o::rest) f L:=
 nT hg (aIz hd hn h k)
theorem cF{d:Nat}{Post:Value→List cE→Prop}(hg:o.guard=none)(hd:o.dst=some d)(hn:Nat.blt d n=true)(h:MV P β L f o Post)(k:∀v L',Post v L'→cQ P ro n ds β ops Q rest (fS f d v) L'):cQ P ro n ds β ops Q (o::rest) f L:=
 nT hg (aLa hd hn fun w hw=>let⟨v,w',L',hr,hw',hp⟩:=h w hw;⟨v,w',L',hr,hw',k v L' hp⟩)
theorem kD{L':List cE}(hg:o.guard=none)(hd:o.dst=none)(h:MU P β L f o L')(k:cQ P ro n ds β ops Q rest f L'):cQ P ro n ds β ops Q (o::rest) f L:=
 nT hg (aKe hd fun w hw=>let⟨w',hr,hw'⟩:=h w hw;⟨w',L',hr,hw',k⟩)
theorem fN{d j e:Nat}{b:Bool}{v:Value}(hg:o.guard=some (j,b))(ho:(ops[j]?).bind (·.dst)=some e)(hf:f e= .bool b)(hd:o.dst=some d)(hn:Nat.blt d n=true)(h:EV P β L f o v)(k:cQ P ro n ds β ops Q rest (fS f d v) L):cQ P ro n ds β ops Q (o::rest) f L:=
 aEp hg ho hf (aIz hd hn h k)
def cfB(P:Program)(g:FuncId):Bool:=match P.funcs[g]? with|some fn=> !(fn.name=="runtime.NumGoroutine")&&fn.body.isSome|none=>false
theorem oV{g:FuncId}(h:cfB P g=true)(args:Array Value)(w:World):(callFunc g args).run P w= .ok (.enter g args) w:=by
 unfold cfB at h
 cases hf:P.funcs[g]? with
 |none=>rw[hf]at h;cases h
 |some fn=>
  rw[hf]at h
  simp only[Bool.and_eq_true,Bool.not_eq_true']at h
  cases hb:fn.body with
  |none=>rw[hb]at h;simp at h
  |some c=>
   simp[callFunc,hf,hb]
   exact beq_eq_false_iff_ne.1 h.1
def CL(P:Program)(f:Fm)(o:Oper)(g:FuncId)(args:Array Value):Prop:=∀w,(execOp (ev f) o).run P w= .ok (.enter g args) w
theorem cS{d:Option Tmp}{ty:TypeId}{ps:String}{af:Array Edge}{gd:Option (Nat×Bool)}{c:Operand}{xs:List Operand}{ts:Array TypeId}{g:FuncId}{fst cap vs all:List Value}
 (hg:cfB P g=true)(hx:ev f c= .func (.func g) fst.toArray cap.toArray)(ha:xs.map (ev f)=vs)(hall:fst++vs++cap=all):CL P f ⟨d,.call ⟨.value c,xs.toArray,ts⟩,ty,ps,af,gd⟩ g all.toArray:=fun w=>by
 simp[execOp,resolve,invoke,hx,Deferred.ofValue,ha,oV hg,←hall]
theorem bP{d:Nat}{g:FuncId}{args:Array Value}(hgd:o.guard=none)(hd:o.dst=some d)(hn:Nat.blt d n=true)(he:CL P f o g args)
 (hc:∀w,St β L w→Calls P g args w fun e w'=>∃v,e= .returned v∧∃L',St β L' w'∧cQ P ro n ds β ops Q rest (fS f d v) L'):cQ P ro n ds β ops Q (o::rest) f L:=
 nT hgd (aFs hd hn he hc)
theorem eQ{d j e:Nat}{b:Bool}{g:FuncId}{args:Array Value}(hgd:o.guard=some (j,b))(ho:(ops[j]?).bind (·.dst)=some e)(hf:f e= .bool b)(hd:o.dst=some d)(hn:Nat.blt d n=true)(he:CL P f o g args)
 (hc:∀w,St β L w→Calls P g args w fun e w'=>∃v,e= .returned v∧∃L',St β L' w'∧cQ P ro n ds β ops Q rest (fS f d v) L'):cQ P ro n ds β ops Q (o::rest) f L:=
 aEp hgd ho hf (aFs hd hn he hc)
theorem St.frame_all{w:World}(h:St β L w):∃β₁:Base,gR β.heap β₁.heap∧(∀F,aX β L F→F β₁.heap)∧St β₁ [] w∧∀L' w',St β₁ L' w'→St β (L'++L) w':=St.frame (L:=[]) h
def jV(P:Program)(n:Nat)(ds:List Deferred)(β:Base)(ops:Array Oper)(Q:Exit→Act→World→Prop)(rest:List Oper)(f:Fm)(L:List cE):Prop:=
 ∀a,At n ds f a→wpQuiet P ops (fun w=>St β L w) (fun a'=>∀w',St β L w'→Q .normal a' w') rest a
theorem eF{id:Nat}{l:List Oper}(hm:P.follows .mixedOrders=true)(hB:Region.lexB .any l.toArray=true)(h:jV P n ds β l.toArray Q l f L):dE P none n ds β (.region id l.toArray true) Q f L:=
 fun a _ ha hw=>wpIn_wide.2<|wp_region_quiet (C:=fun w=>St β L w) hm hB hw.drew (by simpa using h a ha)
theorem fW(h:iN n ds β Q .normal f L):jV P n ds β ops Q [] f L:=fun a ha=>wpQuiet_nil fun w hw=>h a w ha hw
theorem xB{d:Nat}{v:Value}(hw:∀a,At n ds f a→Region.wanted o (Go.yielded ops a.tmps)=true)(hd:o.dst=some d)(hn:Nat.blt d n=true)
 (h:∀a,At n ds f a→∀w,St β L w→o.quietAt P a (fun w=>St β L w) w v)(k:jV P n ds β ops Q rest (fS f d v) L):jV P n ds β ops Q (o::rest) f L:=by
 intro a ha
 unfold wpQuiet
 rw[if_pos (hw a ha)]
 refine⟨v,h a ha,?_⟩
 rw[hd]
 exact k _ (ha.put hn v)
theorem sS(hg:o.guard=none)(a:Act)(_:At n ds f a):Region.wanted o (Go.yielded ops a.tmps)=true:=by simp[Region.wanted,hg]
theorem sT{j e:Nat}{b:Bool}(hg:o.guard=some (j,b))(ho:(ops[j]?).bind (·.dst)=some e)(hf:f e= .bool b)(a:Act)(ha:At n ds f a):Region.wanted o (Go.yielded ops a.tmps)=true:=by
 simp[Region.wanted,hg,ha.yielded ops j b e ho hf]
theorem yX{v:Value}(h:EV P β L f o v)(a:Act)(ha:At n ds f a)(w:World)(hw:St β L w):o.quietAt P a (fun w=>St β L w) w v:=by
 unfold Oper.quietAt
 rw[ha.eval,h w hw]
 exact⟨rfl,rfl⟩
theorem uB{v:Value}{g:FuncId}{args:Array Value}(he:CL P f o g args)(hc:∀w,St β L w→Calls P g args w fun e w'=>e= .returned v∧St β L w')(a:Act)(ha:At n ds f a)(w:World)(hw:St β L w):
  o.quietAt P a (fun w=>St β L w) w v:=by
 unfold Oper.quietAt
 rw[ha.eval,he w]
 exact⟨rfl,hc w hw⟩
theorem eV{d:Nat}{v:Value}(hg:o.guard=none)(hd:o.dst=some d)(hn:Nat.blt d n=true)(h:EV P β L f o v)(k:jV P n ds β ops Q rest (fS f d v) L):jV P n ds β ops Q (o::rest) f L:=
 xB (sS hg) hd hn (yX h) k
theorem jB{d j e:Nat}{b:Bool}{v:Value}(hg:o.guard=some (j,b))(ho:(ops[j]?).bind (·.dst)=some e)(hf:f e= .bool b)(hd:o.dst=some d)(hn:Nat.blt d n=true)(h:EV P β L f o v)(k:jV P n ds β ops Q rest (fS f d v) L):jV P n ds β ops Q (o::rest) f L:=
 xB (sT hg ho hf) hd hn (yX h) k
theorem iL{d:Nat}{v:Value}{g:FuncId}{args:Array Value}(hg:o.guard=none)(hd:o.dst=some d)(hn:Nat.blt d n=true)(he:CL P f o g args)(hc:∀w,St β L w→Calls P g args w fun e w'=>e= .returned v∧St β L w')
 (k:jV P n ds β ops Q rest (fS f d v) L):jV P n ds β ops Q (o::rest) f L:=
 xB (sS hg) hd hn (uB he hc) k
theorem iJ{d j e:Nat}{b:Bool}{v:Value}{g:FuncId}{args:Array Value}(hg:o.guard=some (j,b))(ho:(ops[j]?).bind (·.dst)=some e)(hf:f e= .bool b)(hd:o.dst=some d)(hn:Nat.blt d n=true)(he:CL P f o g args)
 (hc:∀w,St β L w→Calls P g args w fun e w'=>e= .returned v∧St β L w')(k:jV P n ds β ops Q rest (fS f d v) L):jV P n ds β ops Q (o::rest) f L:=
 xB (sT hg ho hf) hd hn (uB he hc) k
theorem aKd{j d e:Nat}{b b':Bool}(hg:o.guard=some (j,b'))(ho:(ops[j]?).bind (·.dst)=some d)(hf:f d= .bool b)(hb:(b==b')=false)
 (hd:o.dst=some e)(he:Nat.blt e n=true)(h:jV P n ds β ops Q rest (fS f e undef) L):jV P n ds β ops Q (o::rest) f L:=by
 intro a ha
 have hy:=ha.yielded ops j b d ho hf
 unfold wpQuiet
 rw[if_neg (by simp[Region.wanted,hg,hy];simpa using hb),hd]
 exact h _ (ha.put he undef)
theorem enter{g:FuncId}{fn:Func}{c:Code}{args:Array Value}{w:World}{R:Ending→World→Prop}(hf:P.funcs[g]? =some fn)(hb:fn.body=some c)(hn:fn.ntmps=n)(hs:Nat.ble args.size n=true)
 (h:dE P none n [] β c (bodyPost P fn R) (pJ args) L)(hw:St β L w):Calls P g args w R:=by
 refine calls_of_wp hf hb (wpIn_wide.1 (h _ w ⟨rfl,?_,fun i=> ?_⟩ hw))
 ·rw[hn]
  have:args.size≤n:=by simpa using hs
  simp;omega
 ·simp only[pJ,Array.getD_eq_getD_getElem?]
  by_cases hi:i<args.size
  ·rw[Array.getElem?_append_left hi]
  ·rw[Array.getElem?_append_right (by omega),Array.getElem?_eq_none (by omega:args.size≤i)]
   by_cases hj:i-args.size<fn.ntmps-args.size
   ·simp[hj]
   ·simp[hj]
theorem At.result{a:Act}(h:At n ds f a)(t:Nat):a.tmps.getD t undef=f t:=h.get t
theorem aLy{fn:Func}{R:Ending→World→Prop}(hr:fn.results= #[])(h:∀w,St β L w→R (.returned (.tuple #[])) w):iN n [] β (bodyPost P fn R) .ret f L:=
 fun _ w ha hw=>bodyPost_ret (results_none hr _ _ _) ha.defers (h w hw)
theorem nS{fn:Func}{R:Ending→World→Prop}(hr:fn.results= #[])(h:∀w,St β L w→R (.returned (.tuple #[])) w):iN n [] β (bodyPost P fn R) .normal f L:=
 fun _ w ha hw=>bodyPost_end (results_none hr _ _ _) ha.defers (h w hw)
theorem dS{fn:Func}{R:Ending→World→Prop}{t:Nat}{v:Value}(hr:fn.results= #[.tmp t])(hv:f t=v)(h:∀w,St β L w→R (.returned v) w):iN n [] β (bodyPost P fn R) .ret f L:=
 fun _ w ha hw=>bodyPost_ret (v:=v) (by rw[results_tmp hr,ha.result,hv]) ha.defers (h w hw)
theorem vJ{fn:Func}{R:Ending→World→Prop}{t u:Nat}{v v':Value}(hr:fn.results= #[.tmp t,.tmp u])(hv:f t=v)(hv':f u=v')(h:∀w,St β L w→R (.returned (.tuple #[v,v'])) w):iN n [] β (bodyPost P fn R) .ret f L:=
 fun _ w ha hw=>bodyPost_ret (v:= .tuple #[v,v']) (by rw[results_tmp2 hr,ha.result,ha.result,hv,hv']) ha.defers (h w hw)
theorem xE{fn:Func}{t u s:Tmp}(h:fn.results= #[.tmp t,.tmp u,.tmp s])(tmps:Array Value)(w:World):
  (results fn tmps).run P w= .ok (.tuple #[tmps.getD t undef,tmps.getD u undef,tmps.getD s undef]) w:=by
 simp[results,h]
theorem uH{fn:Func}{R:Ending→World→Prop}{t u s:Nat}{v v' v'':Value}(hr:fn.results= #[.tmp t,.tmp u,.tmp s])(hv:f t=v)(hv':f u=v')(hv'':f s=v'')(h:∀w,St β L w→R (.returned (.tuple #[v,v',v''])) w):
  iN n [] β (bodyPost P fn R) .ret f L:=
 fun _ w ha hw=>bodyPost_ret (v:= .tuple #[v,v',v'']) (by rw[xE hr,ha.result,ha.result,ha.result,hv,hv',hv'']) ha.defers (h w hw)
end
abbrev Ux(x:UInt64):Value:= .int .u64 (x.toNat:Int)
abbrev Bx(x:UInt8):Value:= .int .u8 (x.toNat:Int)
abbrev Ix(x:Int):Value:= .int .i64 x
abbrev Nx(n:Nat):Value:= .int .i64 (n:Int)
theorem aHi{z:Int}(h: -9223372036854775808≤z∧z≤9223372036854775807):IntKind.i64.wrap z=z:=by
 simp only[IntKind.wrap,IntKind.bits,IntKind.signed]
 simp
 omega
theorem bU{z:Int}{m:Nat}(h:z=(m:Int))(hm:m≤9223372036854775807):IntKind.i64.wrap z=(m:Int):=by
 rw[h];exact aHi (by omega)
theorem vL(z:Int):IntKind.u64.wrap z=z%18446744073709551616:=by simp[IntKind.wrap,IntKind.bits,IntKind.signed]
theorem u8w(z:Int):IntKind.u8.wrap z=z%256:=by simp[IntKind.wrap,IntKind.bits,IntKind.signed]
theorem lX(x y:UInt64):IntKind.u64.wrap ((x.toNat:Int)*(y.toNat:Int))=((x*y).toNat:Int):=by
 rw[vL,UInt64.toNat_mul];simp
theorem kM(x y:UInt64):IntKind.u64.wrap ((x.toNat:Int)+(y.toNat:Int))=((x+y).toNat:Int):=by
 rw[vL,UInt64.toNat_add];simp
theorem aKk(x y:UInt64):IntKind.u64.wrap ((x.toNat:Int)-(y.toNat:Int))=((x-y).toNat:Int):=by
 rw[vL,UInt64.toNat_sub]
 have:=y.toNat_lt
 omega
theorem aBt(x:UInt64):BitVec.ofInt IntKind.u64.bits (x.toNat:Int)=x.toBitVec:=by
 apply BitVec.eq_of_toNat_eq;simp[IntKind.bits]
theorem oK(x y:UInt64):IntKind.u64.wrap ((BitVec.ofInt IntKind.u64.bits (x.toNat:Int)^^^BitVec.ofInt IntKind.u64.bits (y.toNat:Int)).toNat:Int)=((x^^^y).toNat:Int):=by
 rw[aBt,aBt,vL]
 have h:=(x^^^y).toNat_lt
 show(((x^^^y).toNat:Nat):Int)%18446744073709551616=_
 omega
theorem aLs(x y:UInt64):IntKind.u64.wrap ((BitVec.ofInt IntKind.u64.bits (x.toNat:Int)|||BitVec.ofInt IntKind.u64.bits (y.toNat:Int)).toNat:Int)=((x|||y).toNat:Int):=by
 rw[aBt,aBt,vL]
 have h:=(x|||y).toNat_lt
 show(((x|||y).toNat:Nat):Int)%18446744073709551616=_
 omega
theorem oJ(x:UInt64)(k:Nat)(hk:k<64):(x.toNat:Int).fdiv (2^(min ((k:Int)).toNat IntKind.u64.bits))=((x>>>UInt64.ofNat k).toNat:Int):=by
 have e:(UInt64.ofNat k).toNat%64=k:=by simp;omega
 have hm:min ((k:Int)).toNat IntKind.u64.bits=k:=by simp[IntKind.bits];omega
 rw[hm,UInt64.toNat_shiftRight,e,Nat.shiftRight_eq_div_pow,Int.fdiv_eq_ediv_of_nonneg _ (Int.le_of_lt (Int.pow_pos (by decide)))]
 simp
theorem aKj(x:UInt64)(k:Nat)(hk:k<64):IntKind.u64.wrap ((x.toNat:Int)*2^(min ((k:Int)).toNat IntKind.u64.bits))=((x<<<UInt64.ofNat k).toNat:Int):=by
 have e:(UInt64.ofNat k).toNat%64=k:=by simp;omega
 have hm:min ((k:Int)).toNat IntKind.u64.bits=k:=by simp[IntKind.bits];omega
 rw[hm,vL,UInt64.toNat_shiftLeft,e,Nat.shiftLeft_eq]
 simp
def U(n:Int):UInt64:=UInt64.ofNat (n%18446744073709551616).toNat
theorem jM(n:Int):IntKind.u64.wrap n=((U n).toNat:Int):=by
 rw[vL,U]
 have h1:0≤n%18446744073709551616:=Int.emod_nonneg _ (by decide)
 have h2:n%18446744073709551616<18446744073709551616:=Int.emod_lt_of_pos _ (by decide)
 simp
 omega
theorem xO(x:UInt8):IntKind.u64.wrap (x.toNat:Int)=(x.toUInt64.toNat:Int):=by
 rw[vL]
 have:=x.toNat_lt
 simp
 omega
theorem wK(x:UInt64):IntKind.u8.wrap (x.toNat:Int)=(x.toUInt8.toNat:Int):=by
 rw[u8w];simp
theorem aLr(x y:UInt64):decide ((x.toNat:Int)=(y.toNat:Int))=decide (x=y):=by
 rw[decide_eq_decide]
 constructor
 ·intro h;exact UInt64.toNat_inj.1 (by omega)
 ·rintro rfl;rfl
theorem kL{f:Fm}{d:Nat}{v:Value}(h:f d=v):fS f d v=f:=by
 funext i
 unfold fS
 cases hb:Nat.beq i d with
 |false=>rfl
 |true=>have:=Nat.eq_of_beq_eq_true hb;subst this;exact h.symm
section
variable {P:Program}{ro:Option Nat}{n:Nat}{ds:List Deferred}{β:Base}{Q:Exit→Act→World→Prop}{f:Fm}{L:List cE}{ops:Array Oper}{rest:List Oper}{c:Code}
theorem eZ{d:Nat}{v:Value}(h:f d=v)(k:dE P ro n ds β c Q (fS f d v) L):dE P ro n ds β c Q f L:=by rw[←kL h];exact k
theorem cD{s:Nat}{p:Prop}[Decidable p](hs:f s= .bool (decide p))(ht:p→cQ P ro n ds β ops Q rest (fS f s (.bool true)) L)(hf:¬p→cQ P ro n ds β ops Q rest (fS f s (.bool false)) L):cQ P ro n ds β ops Q rest f L:=by
 by_cases hp:p
 ·have h:=ht hp;rw[kL (by rw[hs,decide_eq_true hp])]at h;exact h
 ·have h:=hf hp;rw[kL (by rw[hs,decide_eq_false hp])]at h;exact h
theorem mW{s:Nat}{p:Prop}[Decidable p](hs:f s= .bool (decide p))(ht:p→jV P n ds β ops Q rest (fS f s (.bool true)) L)(hf:¬p→jV P n ds β ops Q rest (fS f s (.bool false)) L):jV P n ds β ops Q rest f L:=by
 by_cases hp:p
 ·have h:=ht hp;rw[kL (by rw[hs,decide_eq_true hp])]at h;exact h
 ·have h:=hf hp;rw[kL (by rw[hs,decide_eq_false hp])]at h;exact h
theorem qI{s:Nat}{b:Bool}(hs:f s= .bool b)(ht:b=true→cQ P ro n ds β ops Q rest (fS f s (.bool true)) L)(hf:b=false→cQ P ro n ds β ops Q rest (fS f s (.bool false)) L):cQ P ro n ds β ops Q rest f L:=by
 cases b
 ·have h:=hf rfl;rw[kL hs]at h;exact h
 ·have h:=ht rfl;rw[kL hs]at h;exact h
theorem yW{s:Nat}{b:Bool}(hs:f s= .bool b)(ht:b=true→jV P n ds β ops Q rest (fS f s (.bool true)) L)(hf:b=false→jV P n ds β ops Q rest (fS f s (.bool false)) L):jV P n ds β ops Q rest f L:=by
 cases b
 ·have h:=hf rfl;rw[kL hs]at h;exact h
 ·have h:=ht rfl;rw[kL hs]at h;exact h
def vI{α:Type _}(l:List α):List Bool→List α
 |[]=>l
 |b::m=>match l with
  |[]=>[]
  |a::l=>if b then a::vI l m else vI l m
  termination_by structural m=>m
theorem nU{α:Type _}:∀(m:List Bool) (l:List α),(vI l m).Sublist l
 |[],l=>by unfold vI;exact List.Sublist.refl l
 |_::m,[]=>by unfold vI;exact List.Sublist.slnil
 |true::m,a::l=>by unfold vI;exact(nU m l).cons_cons a
 |false::m,a::l=>by unfold vI;exact(nU m l).cons a
theorem kY(m:List Bool){L':List cE}(hm:vI L m=L')(k:dE P ro n ds β c Q f L'):dE P ro n ds β c Q f L:=fun a w ha hw=>k a w ha (by subst hm;exact hw.drop (nU m L))
theorem dL{e:Exit}(m:List Bool){L':List cE}(hm:vI L m=L')(k:iN n ds β Q e f L'):iN n ds β Q e f L:=fun a w ha hw=>k a w ha (by subst hm;exact hw.drop (nU m L))
theorem aF{w:World}(m:List Bool){L':List cE}(hm:vI L m=L')(hw:St β L w):St β L' w:=by subst hm;exact hw.drop (nU m L)
theorem aKv{r:cE}(hr:r fun _=>none)(k:cQ P ro n ds β ops Q rest f (r::L)):cQ P ro n ds β ops Q rest f L:=fun a w ha hw=>k a w ha (hw.emp hr)
theorem iW{r:cE}(hr:r fun _=>none)(k:dE P ro n ds β c Q f (r::L)):dE P ro n ds β c Q f L:=fun a w ha hw=>k a w ha (hw.emp hr)
theorem iY{r r':cE}(i:Nat)(hi:L[i]? =some r)(hr:∀a,r a→r' a)(k:cQ P ro n ds β ops Q rest f (L.set i r')):cQ P ro n ds β ops Q rest f L:=fun a w ha hw=>k a w ha (hw.conseq_at i hi hr)
end
open Go.RowKit
structure Ext(β β':Base):Prop where
 sub:gR β.heap β'.heap
 os:β'.os=β.os
 tape:β'.tape=β.tape
 output:β'.output=β.output∧β.drawn≤β'.drawn
theorem Ext.refl(β:Base):Ext β β:=⟨gR.refl _,rfl,rfl,rfl,Nat.le_refl _⟩
theorem Ext.trans{a b c:Base}(h:Ext a b)(k:Ext b c):Ext a c:=⟨h.sub.trans k.sub,k.os.trans h.os,k.tape.trans h.tape,k.output.1.trans h.output.1,Nat.le_trans h.output.2 k.output.2⟩
theorem St.frameX{β:Base}{L M:List cE}{w:World}(h:St β (L++M) w):
  ∃β₁:Base,Ext β β₁∧(∀F,aX β M F→F β₁.heap)∧St β₁ L w∧∀L' w',St β₁ L' w'→St β (L'++M) w':=by
 obtain⟨ho,ht,hp,hh,hd,hs,hs',hL⟩:=h
 obtain⟨a,b,hab,ha,hb,hLa,hMb⟩:=kI.append.1 hL
 have hdb:lQ β.heap b:=hd.mono (gR.refl _) hb
 refine⟨⟨un β.heap b,β.os,β.tape,β.output,β.drawn⟩,⟨eO _ _,rfl,rfl,rfl,Nat.le_refl _⟩,?_,⟨ho,ht,hp,a,lK (hd.mono (gR.refl _) ha) hab.symm,oH hs (hb.trans hs'),ha.trans hs',hLa⟩,?_⟩
 ·intro F hF
  exact hF _ (eO _ _) fun r hr=>let⟨c,hc,hrc⟩:=hMb.each r hr;⟨c,hc.trans (eH hdb),hrc⟩
 ·rintro L' w' ⟨ho',ht',hp',h',hd',hs1,hs2,hL'⟩
  refine⟨ho',ht',hp',un h' b,?_,(eO _ _).trans hs1,oH hs2 ((eH hdb).trans hs1),?_⟩
  ·exact(lK (pX hd').symm hdb.symm).symm
  ·have hd2:lQ h' b:=(hd'.mono (eH hdb) (gR.refl _)).symm
   exact kI.append.2 ⟨h',b,hd2,eO _ _,eH hd2,hL',hMb⟩
theorem St.putObj{β:Base}{L:List cE}{w:World}{b:Nat}{o o':Obj}(h:St β (Sl.pt b o::L) w):St β (Sl.pt b o'::L) (w.putObj b o'):=by
 have hb:=h.pt 0 rfl
 refine h.put rfl rfl rfl (World.putObj_heap_same (Array.getElem?_eq_some_iff.1 hb).1) fun k hk _=>World.putObj_heap_other hk
def yfn(l:Nat):Value:= .func (.yield l) #[] #[]
section
variable {α:Type}{P:Program}
def sZ(P:Program)(β:Base)(l:Nat)(enc:α→List Value)(S:List α→Prop)(J X:List α→List cE→Prop):Prop:=
 ∀β₁,Ext β β₁→∀pre x M w,(∃xs,S xs∧pre++[x]<+:xs)→J pre M→St β₁ M w→
  ∃fn tmps assign body,(Instr.yield l (enc x).toArray).run P w= .ok (.round l fn tmps assign body) w∧
   RoundIn Fence.wide 2 P l fn tmps assign body w fun e w'=>
    (e= .returned (.bool true)∧∃M',J (pre++[x]) M'∧St β₁ M' w')∨(e= .returned (.bool false)∧∃M',X (pre++[x]) M'∧St β₁ M' w')
def sA(P:Program)(β:Base)(fn:Value)(enc:α→List Value)(S:List α→Prop):Prop:=
 ∃g fst cap,fn= .func (.func g) fst.toArray cap.toArray∧cfB P g=true∧
  ∀β₁,Ext β β₁→∀l J X,sZ P β₁ l enc S J X→∀M w,J [] M→St β₁ M w→
   Calls P g (fst++yfn l::cap).toArray w fun e w'=>(∃v,e= .returned v)∧
    ((∃xs M',S xs∧J xs M'∧St β₁ M' w')∨(∃pre M',X pre M'∧St β₁ M' w'))
def aKo(P:Program)(β:Base)(fn:Value)(enc:α→List Value)(S:List α→Prop)(K:List cE):Prop:=
 ∃g fst cap,fn= .func (.func g) fst.toArray cap.toArray∧cfB P g=true∧
  ∀β₁,Ext β β₁→∀l J X,sZ P β₁ l enc S J X→∀M w,J [] M→St β₁ (M++K) w→
   Calls P g (fst++yfn l::cap).toArray w fun e w'=>(∃v,e= .returned v)∧
    ((∃xs M',S xs∧J xs M'∧St β₁ M' w')∨(∃pre M',X pre M'∧St β₁ M' w'))
theorem sA.toK{β:Base}{fn:Value}{enc:α→List Value}{S:List α→Prop}(h:sA P β fn enc S):aKo P β fn enc S []:=by
 obtain⟨g,fst,cap,e,hc,hk⟩:=h
 exact⟨g,fst,cap,e,hc,fun β₁ h1 l J X hy M w hj hw=>hk β₁ h1 l J X hy M w hj (by simpa using hw)⟩
theorem sA.ext{β β':Base}{fn:Value}{enc:α→List Value}{S:List α→Prop}(h:sA P β fn enc S)(he:Ext β β'):sA P β' fn enc S:=by
 obtain⟨g,fst,cap,e,hc,hk⟩:=h
 exact⟨g,fst,cap,e,hc,fun β₁ h1=>hk β₁ (he.trans h1)⟩
def aCm(D:Nat):Deferred:={target:= .collected D,args:= #[]}
def uT(f:Fm):List Nat→List Value→Fm
 |p::ps,v::vs=>uT (fS f p v) ps vs
 |_,_=>f
def aIp(β:Base)(J:List cE→Prop)(X:Code→List cE→Prop):Exit→Act→World→Prop
 | .normal,_,w=>∃M,J M∧St β M w
 | .ret,_,w=>∃M,X .ret M∧St β M w
 | .exit id,_,w=>∃M,X (.exit id) M∧St β M w
 | .goto t,_,w=>∃M,X (.goto t) M∧St β M w
 |_,_,_=>False
theorem aGo{P:Program}{ro:Option Nat}{m m':Nat}{c:Code}{Q:Exit→Act→World→Prop}{a:Act}{w:World}(h:c.wpIn (Fe ro) m P Q a w):c.wpIn (Fe ro) m' P Q a w:=
 fun b k cs h1 h2 _=>h b k cs h1 h2 fun _ hd=>by simp[Fe]at hd
theorem At.all{n:Nat}{ds:List Deferred}:∀(ps:List Nat) (vs:List Value) {f:Fm} {a:Act},At n ds f a→(∀p∈ps,Nat.blt p n=true)→
  At n ds (uT f ps vs) {a with tmps:=(ps.zip vs).foldl (fun tmps (t,v)=>tmps.setIfInBounds t v) a.tmps}
 |[],_,f,a,h,_=>h
 |p::ps,[],f,a,h,_=>h
 |p::ps,v::vs,f,a,h,hp=>by
  have h1:=h.put (hp p (by simp)) v
  exact At.all ps vs h1 (fun q hq=>hp q (by simp[hq]))
variable {n:Nat}{ds:List Deferred}{β:Base}{Q:Exit→Act→World→Prop}{f:Fm}{L:List cE}
theorem aDr {g : Operand} {K : List cE} {ps : List Nat} {assign body : Code} {fn : Value} {enc : α → List Value} {S : List α → Prop} (hfn : ev f g = fn) (hseq : aKo P β fn enc S K)
    (hlen : ∀ x, (enc x).length = ps.length) (hps : ps.all (fun p => Nat.blt p n) = true)
    (I : List α → List cE → Prop) (X : Code → List α → List cE → Prop) (h0 : I [] L)
    (round : ∀ l β₁ pre x M, Ext β β₁ → (∃ xs, S xs ∧ pre ++ [x] <+: xs) → I pre M →
      dE P (some l) n [] β₁ assign (Exit.then (Cut n [] β₁ fun f' M' => ∀ β₂, Ext β β₂ → dE P (some l) n [] β₂ body (aIp β₂ (I (pre ++ [x])) (fun c => X c (pre ++ [x]))) f' M') (fun _ _ _ => False)) (uT f ps (enc x)) M)
    (done : ∀ D xs M, S xs → I xs M → iN n (aCm D :: ds) β Q .normal f (M ++ [pt D (.deferred (some []))]))
    (stop : ∀ D c pre M, X c pre M → dE P none n (aCm D :: ds) β c Q f (M ++ [pt D (.deferred (some []))])) :
    dE P none n ds β (.rangeFunc g ps.toArray assign body) Q f (L ++ K) := by
  intro a w ha hw
  refine wpIn_rangeFunc fun fnid _ => ?_
  obtain ⟨gg, fst, cap, rfl, hcf, hk⟩ := hseq
  have hw1 : St β (pt (w.heap.size + 1) (.loop { state := .ready, pending := none, fn := fnid, tmps := a.tmps, params := ps.toArray, assign, body, defers := w.heap.size }) :: pt w.heap.size (.deferred (some [])) :: (L ++ K))
      ((w.alloc (.deferred (some []))).alloc (.loop { state := .ready, pending := none, fn := fnid, tmps := a.tmps, params := ps.toArray, assign, body, defers := w.heap.size })) := by
    have h := (hw.new (.deferred (some []))).new (.loop { state := .ready, pending := none, fn := fnid, tmps := a.tmps, params := ps.toArray, assign, body, defers := w.heap.size })
    rwa [World.size_alloc] at h
  have hw1' := hw1
  generalize hW : ((w.alloc (.deferred (some []))).alloc (.loop { state := .ready, pending := none, fn := fnid, tmps := a.tmps, params := ps.toArray, assign, body, defers := w.heap.size })) = W at hw1'
  refine ⟨w.heap.size + 1, [aCm w.heap.size], W, { target := .fn (.func gg) cap.toArray, args := fst.toArray ++ #[yfn (w.heap.size + 1)] }, W, gg, (fst ++ yfn (w.heap.size + 1) :: cap).toArray, W,
    hW ▸ run_enterLoop_outer fnid a.tmps ps.toArray assign body, ?_, fun _ _ => trivial, ?_, fun h => by simp [Fe] at h, mQ.2 ?_⟩
  · have hg : a.eval g = .func (.func gg) fst.toArray cap.toArray := by rw [ha.eval]; exact hfn
    simp only [resolve, List.map_toArray, List.map_cons, List.map_nil, hg, Deferred.ofValue]
    rfl
  · simp only [invoke]
    rw [oV hcf]
    simp
  · -- the block of the deferred calls is set aside
    have hw2 : St β ((pt (w.heap.size + 1) (.loop { state := .ready, pending := none, fn := fnid, tmps := a.tmps, params := ps.toArray, assign, body, defers := w.heap.size }) :: (L ++ K)) ++ [pt w.heap.size (.deferred (some []))]) W :=
      hw1'.perm (by
        refine List.Perm.cons _ ?_
        exact (List.perm_append_singleton _ _).symm)
    obtain ⟨β₁, ext1, _, hw3, back1⟩ := hw2.frameX
    clear hw1 hw1' hW hw2
    generalize w.heap.size = D at *
    let R0 : Loop := { state := .ready, pending := none, fn := fnid, tmps := a.tmps, params := ps.toArray, assign, body, defers := D }
    have hJ := hk β₁ ext1 (D + 1) (fun pre M => ∃ M0, I pre M0 ∧ M = pt (D + 1) (.loop R0) :: M0)
      (fun pre M => ∃ c M0, X c pre M0 ∧ M = pt (D + 1) (.loop { R0 with state := .done, pending := some c }) :: M0) ?_ _ W ⟨L, h0, rfl⟩ hw3
    · refine hJ.mono ?_
      rintro e w' ⟨⟨v, rfl⟩, ⟨xs, M', hS, ⟨M0, hI, rfl⟩, hw'⟩ | ⟨pre, M', ⟨c, M0, hX, rfl⟩, hw'⟩⟩
      · refine ⟨none, w'.putObj (D + 1) (.loop { R0 with state := .exhausted }), ?_, ?_⟩
        · have := run_endLoop (P := P) (w := w') (hw'.pt 0 rfl) (by simp [R0])
          exact this
        · have h5 : St β (M0 ++ [pt D (.deferred (some []))]) (w'.putObj (D + 1) (.loop { R0 with state := .exhausted })) := back1 _ _ ((hw'.putObj (o' := .loop { R0 with state := .exhausted })).drop (List.sublist_cons_self _ _))
          exact done D xs M0 hS hI _ _ ⟨by simp [ha.defers], ha.size, ha.get⟩ h5
      · refine ⟨some c, w'.putObj (D + 1) (.loop { R0 with state := .exhausted, pending := some c }), ?_, ?_⟩
        · have := run_endLoop (P := P) (w := w') (hw'.pt 0 rfl) (by simp)
          exact this
        · have h5 : St β (M0 ++ [pt D (.deferred (some []))]) (w'.putObj (D + 1) (.loop { R0 with state := .exhausted, pending := some c })) := back1 _ _ ((hw'.putObj (o' := .loop { R0 with state := .exhausted, pending := some c })).drop (List.sublist_cons_self _ _))
          exact stop D c pre M0 hX _ _ ⟨by simp [ha.defers], ha.size, ha.get⟩ h5
    · -- a round
      intro β₂ ext2 pre x M w2 hpre ⟨M0, hI, hM⟩ hw2'
      subst hM
      refine ⟨_, _, _, _, run_yield (hw2'.pt 0 rfl) (by simp [R0, hlen x]), ?_⟩
      refine roundIn_of_wpIn trivial ?_
      have hAt : At n [] (uT f ps (enc x)) { tmps := ((R0.params.zip (enc x).toArray).foldl (fun tmps (t, a) => tmps.setIfInBounds t a) R0.tmps), defers := [] } := by
        have h := At.all (n := n) (ds := []) ps (enc x) (f := f) (a := { tmps := a.tmps, defers := [] }) ⟨rfl, ha.size, ha.get⟩ (fun p hp => by have := List.all_eq_true.1 hps p hp; simpa using this)
        have e : (R0.params.zip (enc x).toArray).foldl (fun tmps (t, a) => tmps.setIfInBounds t a) R0.tmps = (ps.zip (enc x)).foldl (fun tmps (t, v) => tmps.setIfInBounds t v) a.tmps := by
          simp [R0]
        rw [e]; exact h
      have hw3' : St β₂ (M0 ++ [pt (D + 1) (.loop R0)]) w2 := hw2'.perm (List.perm_append_singleton _ _).symm
      obtain ⟨β₃, ext3, _, hw4, back3⟩ := hw3'.frameX
      have hr := round (D + 1) β₃ pre x M0 ((ext1.trans ext2).trans ext3) hpre hI _ _ hAt hw4
      refine aGo (ro := some (D + 1)) (m := 3) (m' := 2) (wpIn_mono hr fun e a1 w1 hq => ?_)
      cases e with
      | normal =>
        obtain ⟨f', M', hbody, hAt', hw5⟩ := hq
        have hw6 : St β₂ (pt (D + 1) (.loop R0) :: M') w1 := (back3 _ _ hw5).perm (List.perm_append_singleton _ _)
        refine ⟨_, run_beginRound (hw6.pt 0 rfl) rfl, ?_⟩
        have hw7 : St β₂ (M' ++ [pt (D + 1) (.loop { R0 with state := .busy })]) (w1.putObj (D + 1) (.loop { R0 with state := .busy })) :=
          (hw6.putObj (o' := .loop { R0 with state := .busy })).perm (List.perm_append_singleton _ _).symm
        obtain ⟨β₄, ext4, _, hw8, back4⟩ := hw7.frameX
        have hb := hbody β₄ ((ext1.trans ext2).trans ext4) _ _ hAt' hw8
        refine aGo (ro := some (D + 1)) (m := 3) (m' := 2) (wpIn_mono hb fun e a2 w3 hq => ?_)
        have fin : ∀ M'', St β₄ M'' w3 → St β₂ (pt (D + 1) (.loop { R0 with state := .busy }) :: M'') w3 := fun M'' h => (back4 _ _ h).perm (List.perm_append_singleton _ _)
        cases e with
        | normal =>
          obtain ⟨M'', hI', h9⟩ := hq
          refine ⟨_, _, run_endRound none ((fin _ h9).pt 0 rfl), .inl ⟨rfl, _, ⟨M'', hI', rfl⟩, (fin _ h9).putObj⟩⟩
        | ret =>
          obtain ⟨M'', hX', h9⟩ := hq
          refine ⟨_, _, run_endRound (some .ret) ((fin _ h9).pt 0 rfl), .inr ⟨rfl, _, ⟨.ret, M'', hX', rfl⟩, (fin _ h9).putObj⟩⟩
        | exit id =>
          obtain ⟨M'', hX', h9⟩ := hq
          refine ⟨_, _, run_endRound (some (.exit id)) ((fin _ h9).pt 0 rfl), .inr ⟨rfl, _, ⟨.exit id, M'', hX', rfl⟩, (fin _ h9).putObj⟩⟩
        | goto t =>
          obtain ⟨M'', hX', h9⟩ := hq
          refine ⟨_, _, run_endRound (some (.goto t)) ((fin _ h9).pt 0 rfl), .inr ⟨rfl, _, ⟨.goto t, M'', hX', rfl⟩, (fin _ h9).putObj⟩⟩
        | panic ch => exact hq.elim
        | outgrown => exact hq.elim
      | exit id => exact hq.elim
      | goto t => exact hq.elim
      | ret => exact hq.elim
      | panic ch => exact hq.elim
      | outgrown => exact hq.elim
theorem aGt{g:Operand}{ps:List Nat}{assign body:Code}{fn:Value}{enc:α→List Value}{S:List α→Prop}(hfn:ev f g=fn)(hseq:sA P β fn enc S)
 (hlen:∀x,(enc x).length=ps.length)(hps:ps.all (fun p=>Nat.blt p n)=true)
 (I:List α→List cE→Prop)(X:Code→List α→List cE→Prop)(h0:I [] L)
 (round:∀l β₁ pre x M,Ext β β₁→(∃xs,S xs∧pre++[x]<+:xs)→I pre M→
   dE P (some l) n [] β₁ assign (Exit.then (Cut n [] β₁ fun f' M'=>∀β₂,Ext β β₂→dE P (some l) n [] β₂ body (aIp β₂ (I (pre++[x])) (fun c=>X c (pre++[x]))) f' M') (fun _ _ _=>False)) (uT f ps (enc x)) M)
 (done:∀D xs M,S xs→I xs M→iN n (aCm D::ds) β Q .normal f (M++[pt D (.deferred (some []))]))
 (stop:∀D c pre M,X c pre M→dE P none n (aCm D::ds) β c Q f (M++[pt D (.deferred (some []))])):
  dE P none n ds β (.rangeFunc g ps.toArray assign body) Q f L:=by
 have h:=aDr (K:=[]) (L:=L) hfn hseq.toK hlen hps I X h0 round done stop
 rwa [List.append_nil]at h
theorem aIf{ro:Option Nat}{ops:Array Oper}{rest:List Oper}{own M:List cE}{l d:Nat}{ty:TypeId}{psn:String}{af:Array Edge}{c:Operand}{xs:List Operand}{ts:Array TypeId}{gd:Option (Nat×Bool)}{enc:α→List Value}{S:List α→Prop}
 {J X:List α→List cE→Prop}{pre:List α}{x:α}(hL:L=own++M)(hd:Nat.blt d n=true)(hx:ev f c=yfn l)(ha:xs.map (ev f)=enc x)(hY:sZ P β l enc S J X)(hpre:∃xs,S xs∧pre++[x]<+:xs)(hJ:J pre M)
 (kt:∀M',J (pre++[x]) M'→cQ P ro n ds β ops Q rest (fS f d (.bool true)) (own++M'))(kf:∀M',X (pre++[x]) M'→cQ P ro n ds β ops Q rest (fS f d (.bool false)) (own++M')):
  sC P ro n ds β ⟨some d,.call ⟨.value c,xs.toArray,ts⟩,ty,psn,af,gd⟩ Q (wpListIn (Fe ro) 3 P ops Q rest) f L:=by
 subst hL
 refine fun a w hat hw=>⟨fun _ _=>trivial,?_⟩
 obtain⟨β₁,ext,_,hw1,back⟩:=(hw.perm List.perm_append_comm:St β (M++own) w).frameX
 obtain⟨fn,tmps,assign,body,hy,hr⟩:=hY β₁ ext pre x M w hpre hJ hw1
 have he:(execOp (ev f) ⟨some d,.call ⟨.value c,xs.toArray,ts⟩,ty,psn,af,gd⟩).run P w= .ok (.round l fn tmps assign body) w:=by
  simp only[execOp,resolve,Sem.run_bind,hx,yfn,Deferred.ofValue,Sem.run_pure,Result.andThen_ok,List.map_toArray,ha,invoke]
  simpa using hy
 rw[hat.eval,mH he (by simp),he,Oper.uponIn_round]
 refine⟨fun h=>by simp[Fe]at h,?_⟩
 have hr':RoundIn (Fe ro) (3-1) P l fn tmps assign body w _:=hr
 refine hr'.mono ?_
 rintro e w' (⟨rfl,M',hJ',hw'⟩|⟨rfl,M',hX',hw'⟩)
 ·exact kt M' hJ' _ w' (hat.put hd _) ((back _ _ hw').perm List.perm_append_comm)
 ·exact kf M' hX' _ w' (hat.put hd _) ((back _ _ hw').perm List.perm_append_comm)
theorem aHo{ro:Option Nat}{ops:Array Oper}{rest:List Oper}{own M:List cE}{l d:Nat}{ty:TypeId}{psn:String}{af:Array Edge}{c:Operand}{xs:List Operand}{ts:Array TypeId}{enc:α→List Value}{S:List α→Prop}
 {J X:List α→List cE→Prop}{pre:List α}{x:α}(hL:L=own++M)(hd:Nat.blt d n=true)(hx:ev f c=yfn l)(ha:xs.map (ev f)=enc x)(hY:sZ P β l enc S J X)(hpre:∃xs,S xs∧pre++[x]<+:xs)(hJ:J pre M)
 (kt:∀M',J (pre++[x]) M'→cQ P ro n ds β ops Q rest (fS f d (.bool true)) (own++M'))(kf:∀M',X (pre++[x]) M'→cQ P ro n ds β ops Q rest (fS f d (.bool false)) (own++M')):
  cQ P ro n ds β ops Q (⟨some d,.call ⟨.value c,xs.toArray,ts⟩,ty,psn,af,none⟩::rest) f L:=
 nT rfl (aIf hL hd hx ha hY hpre hJ kt kf)
theorem aJt{g:FuncId}{fn:Func}{c:Code}{args:Array Value}{w:World}{R:Ending→World→Prop}(hf:P.funcs[g]? =some fn)(hb:fn.body=some c)(hn:fn.ntmps=n)(hs:Nat.ble args.size n=true)
 (h:dE P none n [] β c (bodyPostM (Fe none) 3 P fn R) (pJ args) L)(hw:St β L w):Calls P g args w R:=by
 refine mQ (ro:=none) (m:=3)|>.1 (callsIn_of_wp_marks hf hb trivial (h _ w ⟨rfl,?_,fun i=> ?_⟩ hw))
 ·rw[hn]
  have:args.size≤n:=by simpa using hs
  simp;omega
 ·simp only[pJ,Array.getD_eq_getD_getElem?]
  by_cases hi:i<args.size
  ·rw[Array.getElem?_append_left hi]
  ·rw[Array.getElem?_append_right (by omega),Array.getElem?_eq_none (by omega:args.size≤i)]
   by_cases hj:i-args.size<fn.ntmps-args.size
   ·simp[hj]
   ·simp[hj]
theorem aLz{fn:Func}{R:Ending→World→Prop}{t D:Nat}{v:Value}(i:Nat)(hi:L[i]? =some (pt D (.deferred (some []))))(hr:fn.results= #[.tmp t])(hv:f t=v)(h:∀w,St β (L.set i (pt D (.deferred none))) w→R (.returned v) w):
  iN n [aCm D] β (bodyPostM (Fe none) 3 P fn R) .ret f L:=fun a w ha hw=>by
 show LeavesInM _ _ _ _ _ _ a.defers _ _
 rw[ha.defers]
 have hb:=hw.pt i hi
 refine⟨by simp,.inl ⟨D,_,rfl,run_takeDeferred hb,?_⟩⟩
 exact⟨v,by rw[results_tmp hr,ha.result,hv],h _ (St.back i hi (hw.front i hi).putObj)⟩
end
def hZ(i:Nat):List Nat→Bool
 |[]=>false
 |a::l=>Nat.beq i a||hZ i l
theorem fL{i:Nat}:∀{l:List Nat},hZ i l=true↔i∈l
 |[]=>by simp[hZ]
 |a::l=>by simp[hZ,fL (l:=l)]
def cut(sl:List Nat)(f:Fm):Fm:=fun i=>match hZ i sl with|true=>f i|false=>undef
structure Tok where
 prod:Option Nat
 cons:Option Nat
 by_:List Nat
 sl:List Nat
 r:Fm→cE
structure Sp where
 anc:List Nat
 need:List Nat
 ini:List Nat
 sl:List Nat
 k:Fm→Prop
def iA(o:Option Nat)(p:Nat→Bool):Bool:=match o with|none=>true|some i=>p i
def gG(o:Option Nat)(p:Nat→Bool):Bool:=match o with|none=>false|some i=>p i
def isD(o:Oper)(s:Nat):Bool:=match o.dst with|none=>false|some d=>Nat.beq d s
theorem lL{o:Oper}{s:Nat}:isD o s=true↔o.dst=some s:=by
 unfold isD;cases o.dst<;>simp
theorem wO{sl:List Nat}{f g:Fm}(h:∀x∈sl,f x=g x):cut sl f=cut sl g:=by
 funext i
 unfold cut
 cases e:hZ i sl with
 |true=>exact h i (fL.1 e)
 |false=>rfl
def gT(sps:List Sp)(i:Nat):List Nat:=match sps[i]? with|none=>[]|some s=>s.anc
def xU{α:Type _}(p:Nat→α→Bool):List α→Nat→Bool
 |[],_=>true
 |a::l,i=>p i a&&xU p l (i+1)
theorem gS{α:Type _}{p:Nat→α→Bool}:∀{l:List α} {k:Nat},xU p l k=true→∀{i:Nat} {a:α},l[i]? =some a→p (k+i) a=true
 |[],_,_,i,a,h=>by simp at h
 |b::l,k,hp,i,a,h=>by
  simp only[xU,Bool.and_eq_true]at hp
  cases i with
  |zero=>simp only[List.getElem?_cons_zero,Option.some.injEq]at h;subst h;exact hp.1
  |succ i=>have:=gS hp.2 (i:=i) (a:=a) (by simpa using h);rwa [show k+(i+1)=k+1+i by omega]
def aEl(ops:List Oper)(sps:List Sp)(i s:Nat):Bool:=xU (fun j o=> !isD o s||Nat.beq j i||hZ i (gT sps j)) ops 0
def behind(sps:List Sp)(o:Oper)(j:Nat):Bool:=o.after.toList.any fun e=>Region.binds .any e&&(Nat.beq e.on j||hZ j (gT sps e.on))
def nP(ops:List Oper)(sps:List Sp)(ini:List (Nat×Value)):Bool:=
 Nat.beq ops.length sps.length&&
 xU (fun i o=>o.after.toList.all (fun e=> !Region.binds .any e||Nat.blt e.on i)&&(gT sps i).all (behind sps o)) ops 0&&
 xU (fun i s=>s.need.all (fun j=>hZ j s.anc)&&s.ini.all (fun x=>match ini[x]? with|none=>false|some p=>aEl ops sps i p.1)&&
  s.sl.all (fun t=>xU (fun j o=> !isD o t||Nat.beq j i||hZ j s.anc) ops 0)) sps 0
def kZ(ops:List Oper)(sps:List Sp)(t:Tok):Bool:=
 iA t.prod (Nat.blt · ops.length)&&iA t.cons (Nat.blt · ops.length)&&t.by_.all (fun i=>iA t.prod (fun p=>hZ p (gT sps i))&&iA t.cons (fun c=>Nat.beq c i||hZ i (gT sps c)))&&
 iA t.cons (fun c=>hZ c t.by_)&&
 t.sl.all (fun s=>xU (fun j o=> !isD o s||gG t.prod (fun p=>Nat.beq j p||hZ j (gT sps p))) ops 0)
def nC(toks:List Tok)(i:Nat):List Tok:=toks.filter fun t=>hZ i t.by_
def nW(toks:List Tok)(i:Nat):List Tok:=toks.filter fun t=>(hZ i t.by_&& !gG t.cons (Nat.beq · i))||gG t.prod (Nat.beq · i)
def fD(D:Nat→Bool)(t:Tok):Bool:=iA t.prod D&& !gG t.cons D
def mD(toks:List Tok):List Tok:=toks.filter fun t=>match t.cons with|none=>true|some _=>false
def lT(toks:List Tok):List Tok:=toks.filter fun t=>match t.prod with|none=>true|some _=>false
def rs(l:List Tok)(f:Fm):List cE:=l.map (fun t=>t.r (cut t.sl f))
def zV(sps:List Sp):List Nat→Fm→Prop
 |[],_=>True
 |j::l,f=>(match sps[j]? with|none=>True|some s=>s.k (cut s.sl f))∧zV sps l f
def nH(ini:List (Nat×Value)):List Nat→Fm→Prop
 |[],_=>True
 |x::l,f=>(match ini[x]? with|none=>True|some p=>f p.1=p.2)∧nH ini l f
def Qn(K:Act→World→Prop):Exit→Act→World→Prop
 | .normal,a,w=>K a w
 |_,_,_=>False
def pC(n:Nat)(ds:List Deferred)(β:Base)(dst:Option Nat)(k:Fm→Prop)(f:Fm)(out:Fm→List cE)(M:List cE)(a:Act)(w:World):Prop:=
 ∃f',(∀s,dst≠some s→f' s=f s)∧At n ds f' a∧k f'∧St β (out f'++M) w
def Ob(P:Program)(ro:Option Nat)(n:Nat)(ds:List Deferred)(β:Base)(ops:List Oper)(sps:List Sp)(toks:List Tok)(ini:List (Nat×Value))(i:Nat)(o:Oper):Prop:=
 match sps[i]? with
 |none=>False
 |some s=>∀f M,zV sps s.need f→nH ini s.ini f→
  cQ P ro n ds β ops.toArray (Qn (pC n ds β o.dst (fun f=>s.k (cut s.sl f)) f (rs (nW toks i)) M)) [o] f (rs (nC toks i) f++M)
def Obs(P:Program)(ro:Option Nat)(n:Nat)(ds:List Deferred)(β:Base)(ops:List Oper)(sps:List Sp)(toks:List Tok)(ini:List (Nat×Value)):List Oper→Nat→Prop
 |[],_=>True
 |o::l,i=>Ob P ro n ds β ops sps toks ini i o∧Obs P ro n ds β ops sps toks ini l (i+1)
def KEv(sps:List Sp)(f:Fm):List Sp→Prop
 |[]=>True
 |s::l=>s.k (cut s.sl f)∧KEv sps f l
section
variable {P:Program}{ro:Option Nat}{n:Nat}{ds:List Deferred}{β:Base}{Q:Exit→Act→World→Prop}
theorem Obs.get{ops:List Oper}{sps:List Sp}{toks:List Tok}{ini:List (Nat×Value)}:∀{l:List Oper} {k:Nat},Obs P ro n ds β ops sps toks ini l k→∀{i:Nat} {o:Oper},l[i]? =some o→Ob P ro n ds β ops sps toks ini (k+i) o
 |[],_,_,i,o,h=>by simp at h
 |b::l,k,hp,i,a,h=>by
  cases i with
  |zero=>simp only[List.getElem?_cons_zero,Option.some.injEq]at h;subst h;exact hp.1
  |succ i=>have:=Obs.get hp.2 (i:=i) (o:=a) (by simpa using h);rwa [show k+(i+1)=k+1+i by omega]
theorem KEv.of{sps l:List Sp}{f:Fm}(h:∀s∈l,s.k (cut s.sl f)):KEv sps f l:=by
 induction l with
 |nil=>trivial
 |cons a l ih=>exact⟨h a (by simp),ih fun s hs=>h s (by simp[hs])⟩
theorem zV.of{sps:List Sp}{f:Fm}:∀{l:List Nat},(∀j∈l,∀s,sps[j]? =some s→s.k (cut s.sl f))→zV sps l f
 |[],_=>trivial
 |j::l,h=>⟨by cases e:sps[j]? with|none=>trivial|some s=>exact h j (by simp) s e,zV.of fun i hi=>h i (by simp[hi])⟩
theorem nH.of{ini:List (Nat×Value)}{f:Fm}:∀{l:List Nat},(∀j∈l,∀p,ini[j]? =some p→f p.1=p.2)→nH ini l f
 |[],_=>trivial
 |j::l,h=>⟨by cases e:ini[j]? with|none=>trivial|some s=>exact h j (by simp) s e,nH.of fun i hi=>h i (by simp[hi])⟩
theorem aBu{F:Fence}{m:Nat}{o:Oper}{a:Act}{w:World}{K:Act→World→Prop}(h:o.wpIn F m P a w K (Qn K)):o.wpIn F m P a w K Q:=by
 unfold Oper.wpIn at*
 refine⟨h.1,?_⟩
 have hh:=h.2
 generalize (o.semAt F.round a.eval).run P w=r at*
 cases r with
 |ok x w'=>
  cases x<;>simp only[Oper.uponIn]at hh⊢<;>
   first
    |exact hh
    |exact⟨hh.1,CallsIn.mono hh.2 (fun e w'' he=>by cases e<;>first|exact he|exact he.elim|(obtain⟨_,_,hx⟩:=he;exact hx.elim))⟩
    |exact⟨hh.1,RowsIn.mono hh.2 (fun _ _ he=>he)⟩
    |exact⟨hh.1,RoundIn.mono hh.2 (fun e w'' he=>by cases e<;>first|exact he|exact he.elim|(obtain⟨_,_,hx⟩:=he;exact hx.elim))⟩
 |halt x w'=>cases x<;>simp only[Oper.uponIn]at hh⊢<;>exact hh.elim
theorem rJ{p q:Nat→Bool}{i:Nat}(hpq:∀x,q x=true→p x=true)(hp:p i=true)(hq:q i=false):∀{l:List Nat},i∈l→(l.filter q).length<(l.filter p).length
 |[],h=>by simp at h
 |a::l,h=>by
  have hle:∀l:List Nat,(l.filter q).length≤(l.filter p).length:=fun l=>by
   induction l with
   |nil=>simp
   |cons a l ih=>
    by_cases h1:q a=true
    ·simp[h1,hpq a h1];exact ih
    ·by_cases h2:p a=true
     ·simp[h1,h2];omega
     ·simp[h1,h2];exact ih
  by_cases e:a=i
  ·subst e
   have:=hle l
   simp[hp,hq];omega
  ·have hi:i∈l:=by simpa[Ne.symm e]using h
   have ih:=rJ hpq hp hq hi
   by_cases h1:q a=true
   ·simp[h1,hpq a h1];exact ih
   ·by_cases h2:p a=true
    ·simp[h1,h2];omega
    ·simp[h1,h2];exact ih
structure Inv(ops:List Oper)(sps:List Sp)(toks:List Tok)(ini:List (Nat×Value))(n:Nat)(ds:List Deferred)(β:Base)(M:List cE)(D:Nat→Bool)(f:Fm)(a:Act)(w:World):Prop where
 closed:∀j,D j=true→∀m∈gT sps j,D m=true
 k:∀j s,sps[j]? =some s→D j=true→s.k (cut s.sl f)
 ini:∀p∈ini,(∀(j:Nat) o,ops[j]? =some o→D j=true→o.dst≠some p.1)→f p.1=p.2
 hat:At n ds f a
 st:St β (rs (toks.filter (fD D)) f++M) w
def lG(D:Nat→Bool)(i:Nat):Nat→Bool:=fun j=>Nat.beq j i||D j
theorem sI{α:Type _}(p:α→Bool)(l:List α):l.Perm (l.filter p++l.filter (fun x=> !p x)):=by
 induction l with
 |nil=>simp
 |cons a l ih=>
  by_cases h:p a=true
  ·simp[h];exact ih
  ·simp[h];exact(ih.cons a).trans List.perm_middle.symm
theorem vM{sps:List Sp}{ops:List Oper}{toks:List Tok}{D:Nat→Bool}{i:Nat}(hc:∀j,D j=true→∀m∈gT sps j,D m=true)(hi:D i=false)(ha:∀m∈gT sps i,D m=true)
 (ht:toks.all (kZ ops sps)=true):
  (toks.filter (fD D)).Perm (nC toks i++toks.filter (fun t=>fD D t&& !hZ i t.by_))∧
  (toks.filter (fD (lG D i))).Perm (nW toks i++toks.filter (fun t=>fD D t&& !hZ i t.by_)):=by
 have hx:∀t∈toks,(hZ i t.by_=true→fD D t=true)∧(∀c p,t.cons=some c→t.prod=some p→p∈gT sps c)∧(∀c,t.cons=some c→hZ c t.by_=true):=by
  intro t hm
  have h:=List.all_eq_true.1 ht t hm
  simp only[kZ,Bool.and_eq_true,List.all_eq_true]at h
  obtain⟨⟨⟨_,h1⟩,h2⟩,h3⟩:=h
  refine⟨fun hb=> ?_,fun c p ec ep=> ?_,fun c ec=> ?_⟩
  ·have hb':=h1 i (fL.1 hb)
   have hP:iA t.prod D=true:=by
    cases hp:t.prod with
    |none=>rfl
    |some p=>rw[hp]at hb';exact ha _ (fL.1 hb'.1)
   have hC:gG t.cons D=false:=by
    cases hcn:t.cons with
    |none=>rfl
    |some c=>
     rw[hcn]at hb'
     have hb2:Nat.beq c i=true∨hZ i (gT sps c)=true:=by have:=hb'.2;unfold iA at this;simpa only[Bool.or_eq_true]using this
     rcases hb2 with hb2|hb2
     ·have:=Nat.eq_of_beq_eq_true hb2;subst this;exact hi
     ·cases hD:D c with
      |false=>exact hD
      |true=>have:=hc _ hD i (fL.1 hb2);rw[hi]at this;cases this
   unfold fD
   rw[hP,hC];rfl
  ·have hm2:hZ c t.by_=true:=by simpa[ec,iA]using h2
   have:=h1 c (fL.1 hm2)
   rw[ep]at this
   exact fL.1 this.1
  ·simpa[ec,iA]using h2
 constructor
 ·have h:=sI (fun t=>hZ i t.by_) (toks.filter (fD D))
  rw[List.filter_filter,List.filter_filter]at h
  have e1:toks.filter (fun a=>hZ i a.by_&&fD D a)=nC toks i:=by
   refine List.filter_congr fun t hm=> ?_
   cases hb:hZ i t.by_ with
   |false=>rfl
   |true=>simp[(hx t hm).1 hb]
  have e2:toks.filter (fun a=> !hZ i a.by_&&fD D a)=toks.filter (fun t=>fD D t&& !hZ i t.by_):=List.filter_congr fun t _=>Bool.and_comm _ _
  rw[e1,e2]at h
  exact h
 ·have h:=sI (fun t=>(hZ i t.by_&& !gG t.cons (Nat.beq · i))||gG t.prod (Nat.beq · i)) (toks.filter (fD (lG D i)))
  rw[List.filter_filter,List.filter_filter]at h
  have key:∀t∈toks,fD (lG D i) t=(((hZ i t.by_&& !gG t.cons (Nat.beq · i))||gG t.prod (Nat.beq · i))||(fD D t&& !hZ i t.by_)):=by
   intro t hm
   obtain⟨g1,g2,g3⟩:=hx t hm
   have beq_i:∀c,Nat.beq c i=true→c=i:=fun c h=>Nat.eq_of_beq_eq_true h
   have hnc:∀c,t.cons=some c→D c=true→hZ i t.by_=true→False:=by
    intro c ec hD hb
    have:=g1 hb
    unfold fD at this
    simp[ec,gG,hD]at this
   cases hb:hZ i t.by_ with
   |true=>
    have ga:=g1 hb
    unfold fD at ga
    unfold fD lG
    cases hp:t.prod with
    |none=>
     cases hcn:t.cons with
     |none=>simp[iA,gG]
     |some c=>
      have:D c=false:=by simpa[hcn,hp,gG,iA]using ga
      simp[iA,gG,this]
    |some p=>
     have hDp:D p=true:=by
      cases hcn:t.cons<;>simp[hp,hcn,iA,gG]at ga
      ·exact ga
      ·exact ga.1
     have hpi:Nat.beq p i=false:=by
      cases e:Nat.beq p i with
      |false=>rfl
      |true=>have:=beq_i _ e;subst this;rw[hi]at hDp;exact absurd hDp (by simp)
     cases hcn:t.cons with
     |none=>simp[iA,gG,hDp]
     |some c=>
      have:D c=false:=by simpa[hcn,hp,gG,iA,hDp]using ga
      simp[iA,gG,this,hDp]
      intro hx;simp[hx]at hpi
   |false=>
    have hci:∀c,t.cons=some c→Nat.beq c i=false:=by
     intro c ec
     cases e:Nat.beq c i with
     |false=>rfl
     |true=>have:=beq_i _ e;subst this;rw[g3 _ ec]at hb;cases hb
    unfold fD lG
    cases hp:t.prod with
    |none=>
     cases hcn:t.cons with
     |none=>simp[iA,gG]
     |some c=>simp[iA,gG];have:=hci c hcn;intro _;simpa using this
    |some p=>
     cases e:Nat.beq p i with
     |true=>
      have:=beq_i _ e;subst this
      cases hcn:t.cons with
      |none=>simp[iA,gG]
      |some c=>
       have hDc:D c=false:=by
        cases hD:D c with
        |false=>rfl
        |true=>have:=hc c hD _ (g2 c _ hcn hp);rw[hi]at this;cases this
       have:=hci c hcn
       simp[iA,gG,hDc];simpa using this
     |false=>
      cases hcn:t.cons with
      |none=>simp only[iA,gG,e];simp
      |some c=>
       have:=hci c hcn
       simp[iA,gG]at*
       simp[e,this]
  have e1:toks.filter (fun a=>((hZ i a.by_&& !gG a.cons (Nat.beq · i))||gG a.prod (Nat.beq · i))&&fD (lG D i) a)=nW toks i:=by
   refine List.filter_congr fun t hm=> ?_
   rw[key t hm]
   cases((hZ i t.by_&& !gG t.cons (Nat.beq · i))||gG t.prod (Nat.beq · i))<;>simp
  have e2:toks.filter (fun a=> !((hZ i a.by_&& !gG a.cons (Nat.beq · i))||gG a.prod (Nat.beq · i))&&fD (lG D i) a)=toks.filter (fun t=>fD D t&& !hZ i t.by_):=by
   refine List.filter_congr fun t hm=> ?_
   rw[key t hm]
   have hno:(fD D t&& !hZ i t.by_)=true→((hZ i t.by_&& !gG t.cons (Nat.beq · i))||gG t.prod (Nat.beq · i))=false:=by
    intro hh
    simp only[Bool.and_eq_true,Bool.not_eq_true']at hh
    rw[hh.2]
    cases hp:t.prod with
    |none=>simp[gG]
    |some p=>
     cases e:Nat.beq p i with
     |false=>simpa[gG]using e
     |true=>
      have:=Nat.eq_of_beq_eq_true e;subst this
      have:=hh.1
      unfold fD at this
      simp[hp,iA,hi]at this
   cases h1:((hZ i t.by_&& !gG t.cons (Nat.beq · i))||gG t.prod (Nat.beq · i))with
   |false=>simp
   |true=>
    cases h2:(fD D t&& !hZ i t.by_)with
    |false=>simp
    |true=>rw[hno h2]at h1;cases h1
  rw[e1,e2]at h
  exact h
def sJ(ops:List Oper)(ini:List (Nat×Value))(x:Nat):Bool:=match ini[x]? with|none=>false|some p=>ops.all fun o=> !isD o p.1
def rZ(f:Fm):List (Nat×Value)→Prop
 |[]=>True
 |p::l=>f p.1=p.2∧rZ f l
theorem rZ.get{f:Fm}:∀{l:List (Nat×Value)},rZ f l→∀p∈l,f p.1=p.2
 |[],_,s,h=>by simp at h
 |a::l,h,s,hs=>by
  rcases List.mem_cons.1 hs with e|hs
  ·subst e;exact h.1
  ·exact rZ.get h.2 s hs
theorem aHl{ops:List Oper}{sps:List Sp}{toks:List Tok}{ini:List (Nat×Value)}{fin:List Nat}{M:List cE}
 (h1:nP ops sps ini=true)(h2:toks.all (kZ ops sps)=true)(ho:Obs P ro n ds β ops sps toks ini ops 0)(hf:fin.all (sJ ops ini)=true)
 (hQ:∀f',KEv sps f' sps→nH ini fin f'→iN n ds β Q .normal f' (rs (mD toks) f'++M)):
  ∀(fuel:Nat) (listed:Array Bool) (f:Fm) (a:Act) (w:World),listed.size=ops.length→((List.range ops.length).filter (fun j=> !listed.getD j false)).length≤fuel→
   Inv ops sps toks ini n ds β M (fun j=>listed.getD j false) f a w→wpAnyIn (Fe ro) 3 P .any ops.toArray Q fuel listed a w:=by
 have hc:=h1
 simp only[nP,Bool.and_eq_true]at hc
 obtain⟨⟨hlen,hops⟩,hsps⟩:=hc
 have hlen:=Nat.eq_of_beq_eq_true hlen
 have hop:∀{i:Nat} {o:Oper},ops[i]? =some o→(∀e∈o.after,Region.binds .any e=true→e.on<i)∧∀j∈gT sps i,behind sps o j=true:=by
  intro i o hi
  have:=gS hops hi
  simp only[Nat.zero_add,Bool.and_eq_true,List.all_eq_true]at this
  exact⟨fun e he hb=>by have:=this.1 e (by simpa using he);rw[hb]at this;simpa using this,this.2⟩
 have hsp:∀{i:Nat} {s:Sp},sps[i]? =some s→(∀j∈s.need,j∈s.anc)∧(∀x∈s.ini,∀p,ini[x]? =some p→aEl ops sps i p.1=true)∧(∀t∈s.sl,∀(j:Nat) o,ops[j]? =some o→o.dst=some t→j=i∨j∈s.anc):=by
  intro i s hi
  have:=gS hsps hi
  simp only[Nat.zero_add,Bool.and_eq_true,List.all_eq_true]at this
  refine⟨fun j hj=>fL.1 (this.1.1 j hj),fun x hx p hp=> ?_,fun t hts j o hj hd=> ?_⟩
  ·have:=this.1.2 x hx;rw[hp]at this;exact this
  ·have:=gS (this.2 t hts) hj
   simp only[Nat.zero_add,lL.2 hd,Bool.not_true,Bool.false_or,Bool.or_eq_true]at this
   rcases this with h|h
   ·exact .inl (Nat.eq_of_beq_eq_true h)
   ·exact .inr (fL.1 h)
 have done:∀(listed:Array Bool) (f:Fm) (a:Act) (w:World),(∀j,j<ops.length→listed.getD j false=true)→Inv ops sps toks ini n ds β M (fun j=>listed.getD j false) f a w→Q .normal a w:=by
  intro listed f a w hall I
  have hK:KEv sps f sps:=KEv.of fun s hs=>by
   obtain⟨j,hj⟩:=List.getElem?_of_mem hs
   exact I.k j s hj (hall j (by rw[hlen];exact(List.getElem?_eq_some_iff.1 hj).1))
  have hI:nH ini fin f:=nH.of fun x hx p hp=>by
   refine I.ini p (List.mem_of_getElem? hp) fun j o hj _ hd=> ?_
   have:=List.all_eq_true.1 hf x hx
   unfold sJ at this;rw[hp]at this
   have:=List.all_eq_true.1 this o (List.mem_of_getElem? hj)
   rw[lL.2 hd]at this;cases this
  have hT:toks.filter (fD fun j=>listed.getD j false)=mD toks:=by
   refine List.filter_congr fun t hm=> ?_
   have hc:=List.all_eq_true.1 h2 t hm
   simp only[kZ,Bool.and_eq_true,List.all_eq_true]at hc
   obtain⟨⟨⟨⟨c0,c0'⟩,c1⟩,c2⟩,c3⟩:=hc
   have hP:iA t.prod (fun j=>listed.getD j false)=true:=by
    cases hp:t.prod with
    |none=>rfl
    |some p=>rw[hp]at c0;exact hall p (by simpa[iA]using c0)
   unfold fD
   rw[hP]
   cases hcn:t.cons with
   |none=>rfl
   |some c=>rw[hcn]at c0';simp[gG,hall c (by simpa[iA]using c0')]
  have hst:=I.st
  rw[hT]at hst
  exact hQ f hK hI a w I.hat hst
 have least:∀(listed:Array Bool),listed.size=ops.length→Region.ready .any ops.toArray listed=[]→∀j,j<ops.length→listed.getD j false=true:=by
  intro listed hsz hr j
  induction j using Nat.strongRecOn with
  |_ j ih=>
   intro hj
   cases hl:listed.getD j false with
   |true=>rfl
   |false=>
    have hl':listed.getD j true=false:=by
     simp only[Array.getD_eq_getD_getElem?,Array.getElem?_eq_getElem (by omega:j<listed.size),Option.getD_some]at hl⊢
     exact hl
    have ho:=List.getElem?_eq_getElem hj
    have:j∈Region.ready .any ops.toArray listed:=mem_ready.2 ⟨hl',_,(List.getElem?_toArray ..).trans ho,fun e he hb=>ih e.on ((hop ho).1 e he hb) (by have:=(hop ho).1 e he hb;omega)⟩
    rw[hr]at this;simp at this
 intro fuel
 induction fuel with
 |zero=>
  intro listed f a w hsz hle I
  have hall:∀j,j<ops.length→listed.getD j false=true:=by
   intro j hj
   cases hl:listed.getD j false with
   |true=>rfl
   |false=>
    have:j∈(List.range ops.length).filter (fun j=> !listed.getD j false):=List.mem_filter.2 ⟨List.mem_range.2 hj,by simp[hl]⟩
    have:=List.length_pos_of_mem this
    omega
  refine⟨?_,done listed f a w hall I⟩
  refine List.eq_nil_iff_forall_not_mem.2 fun j hj=> ?_
  obtain⟨hl,o,ho',_⟩:=mem_ready.1 hj
  have hj':j<ops.length:=by
   have:=(Array.getElem?_eq_some_iff.1 ho').1
   simpa using this
  have:=hall j hj'
  simp only[Array.getD_eq_getD_getElem?,Array.getElem?_eq_getElem (by omega:j<listed.size),Option.getD_some]at hl this
  rw[hl]at this;cases this
 |succ fuel ih=>
  intro listed f a w hsz hle I
  refine⟨fun hr=>done listed f a w (least listed hsz hr) I,fun i hi=> ?_⟩
  obtain⟨hl,o,ho',hdep⟩:=mem_ready.1 hi
  have ho'':ops[i]? =some o:=by simpa using ho'
  have hi':i<ops.length:=(List.getElem?_eq_some_iff.1 ho'').1
  have hDi:listed.getD i false=false:=by
   simp only[Array.getD_eq_getD_getElem?,Array.getElem?_eq_getElem (by omega:i<listed.size),Option.getD_some]at hl⊢
   exact hl
  have hanc:∀m∈gT sps i,listed.getD m false=true:=by
   intro m hm
   have hb:=(hop ho'').2 m hm
   unfold behind at hb
   obtain⟨e,he,hb⟩:=List.any_eq_true.1 hb
   simp only[Bool.and_eq_true,Bool.or_eq_true]at hb
   have hd:=hdep e (by simpa using he) hb.1
   rcases hb.2 with h|h
   ·have:=Nat.eq_of_beq_eq_true h;subst this;exact hd
   ·exact I.closed e.on hd m (fL.1 h)
  obtain⟨s,hs⟩:∃s,sps[i]? =some s:=⟨_,List.getElem?_eq_getElem (by omega)⟩
  have hsa:gT sps i=s.anc:=by unfold gT;rw[hs]
  have hob:=ho.get ho''
  rw[Nat.zero_add]at hob
  unfold Ob at hob
  rw[hs]at hob
  have hob:=hob f (rs (toks.filter (fun t=>fD (fun j=>listed.getD j false) t&& !hZ i t.by_)) f++M)
   (zV.of fun j hj s' hs'=>I.k j s' hs' (hanc j (by rw[hsa];exact(hsp hs).1 j hj)))
   (nH.of fun x hx p hp=>I.ini p (List.mem_of_getElem? hp) fun j oj hj hD hd=>by
    have:=gS ((hsp hs).2.1 x hx p hp) hj
    simp only[Nat.zero_add,lL.2 hd,Bool.not_true,Bool.false_or,Bool.or_eq_true]at this
    rcases this with h|h
    ·have:=Nat.eq_of_beq_eq_true h;subst this;rw[hDi]at hD;cases hD
    ·have:=I.closed j hD i (fL.1 h);exact absurd (hDi.symm.trans this) (by simp))
  have hsplit:=vM (ops:=ops) (D:=fun j=>listed.getD j false) I.closed hDi hanc h2
  have hst:St β (rs (nC toks i) f++(rs (toks.filter (fun t=>fD (fun j=>listed.getD j false) t&& !hZ i t.by_)) f++M)) w:=by
   have:=I.st.perm (List.Perm.append_right M (List.Perm.map (fun t:Tok=>t.r (cut t.sl f)) hsplit.1))
   simpa[rs,List.append_assoc]using this
  have hD':(fun j=>(listed.setIfInBounds i true).getD j false)=lG (fun j=>listed.getD j false) i:=by
   funext j
   unfold lG
   by_cases e:j=i
   ·subst e
    simp[Array.getD_eq_getD_getElem?,hsz,hi']
   ·have:Nat.beq j i=false:=by
     cases h:Nat.beq j i with
     |false=>rfl
     |true=>exact absurd (Nat.eq_of_beq_eq_true h) e
    rw[this,getD_set_ne _ (Ne.symm e)];rfl
  have step:∀a' w',pC n ds β o.dst (fun f=>s.k (cut s.sl f)) f (rs (nW toks i)) (rs (toks.filter (fun t=>fD (fun j=>listed.getD j false) t&& !hZ i t.by_)) f++M) a' w'→
    wpAnyIn (Fe ro) 3 P .any ops.toArray Q fuel (listed.setIfInBounds i true) a' w':=by
   rintro a' w' ⟨f',hff,hat',hk',hst'⟩
   refine ih _ f' a' w' (by simp[hsz]) ?_ ?_
   ·have:=rJ (p:=fun j=> !listed.getD j false) (q:=fun j=> !(listed.setIfInBounds i true).getD j false) (i:=i) (l:=List.range ops.length) ?_ (by simp only[hDi];rfl) ?_ (List.mem_range.2 hi')
    ·omega
    ·intro x hx
     by_cases e:x=i
     ·subst e;rw[hDi];rfl
     ·rw[getD_set_ne _ (Ne.symm e)]at hx;exact hx
    ·have:=congrFun hD' i
     simp only[lG,Nat.beq_refl,Bool.true_or]at this
     simp only[this];rfl
   ·rw[hD']
    refine⟨?_,?_,?_,hat',?_⟩
    ·intro j hj m hm
     simp only[lG,Bool.or_eq_true]at hj⊢
     rcases hj with hj|hj
     ·have:=Nat.eq_of_beq_eq_true hj;subst this;exact .inr (hanc m hm)
     ·exact .inr (I.closed j hj m hm)
    ·intro j s' hs' hj
     simp only[lG,Bool.or_eq_true]at hj
     by_cases e:j=i
     ·subst e;rw[hs]at hs';injection hs' with hs';subst hs';exact hk'
     ·have hj:listed.getD j false=true:=by
       rcases hj with hj|hj
       ·exact absurd (Nat.eq_of_beq_eq_true hj) e
       ·exact hj
      rw[wO (f:=f') (g:=f) (fun x hx=>hff x fun hd=> ?_)];exact I.k j s' hs' hj
      rcases(hsp hs').2.2 x hx i o ho'' hd with h|h
      ·exact e h.symm
      ·have:=I.closed j hj i (by unfold gT;rw[hs'];exact h);exact absurd (hDi.symm.trans this) (by simp)
    ·intro p hp hno
     rw[hff p.1 fun hd=>hno i o ho'' (by simp[lG]) hd]
     exact I.ini p hp fun j oj hj hD=>hno j oj hj (by simp only[lG,hD,Bool.or_true])
    ·have h3:rs (toks.filter (fun t=>fD (fun j=>listed.getD j false) t&& !hZ i t.by_)) f'=rs (toks.filter (fun t=>fD (fun j=>listed.getD j false) t&& !hZ i t.by_)) f:=by
      unfold rs
      refine List.map_congr_left fun t ht'=> ?_
      obtain⟨hm,hact⟩:=List.mem_filter.1 ht'
      rw[wO (f:=f') (g:=f) fun x hx=>hff x fun hd=> ?_]
      have hc:=List.all_eq_true.1 h2 t hm
      simp only[kZ,Bool.and_eq_true,List.all_eq_true]at hc
      have:=gS (hc.2 x hx) ho''
      simp only[Nat.zero_add,lL.2 hd,Bool.not_true,Bool.false_or]at this
      simp only[Bool.and_eq_true,fD]at hact
      cases hp:t.prod with
      |none=>rw[hp]at this;cases this
      |some q=>
       rw[hp]at this hact
       simp only[gG,Bool.or_eq_true]at this
       have hq:listed.getD q false=true:=hact.1.1
       rcases this with h|h
       ·have:=Nat.eq_of_beq_eq_true h;subst this;rw[hDi]at hq;cases hq
       ·have:=I.closed q hq i (fL.1 h);exact absurd (hDi.symm.trans this) (by simp)
     have:=hst'.perm (L':=rs (toks.filter (fD (lG (fun j=>listed.getD j false) i))) f'++M) ?_
     ·exact this
     ·have hp:=List.Perm.append_right M (List.Perm.map (fun t:Tok=>t.r (cut t.sl f')) hsplit.2)
      refine List.Perm.trans ?_ hp.symm
      rw[←h3]
      simp[rs,List.append_assoc]
  have hob:=hob a w I.hat hst
  unfold wpOpIn
  rw[ho']
  unfold wpListIn at hob
  simp only
  split at hob
  ·rename_i hwn
   rw[if_pos hwn]
   exact Oper.wpIn_mono step (aBu (K:=pC n ds β o.dst (fun f=>s.k (cut s.sl f)) f (rs (nW toks i)) (rs (toks.filter (fun t=>fD (fun j=>listed.getD j false) t&& !hZ i t.by_)) f++M)) (by
    have hfun:(wpListIn (Fe ro) 3 P ops.toArray (Qn (pC n ds β o.dst (fun f=>s.k (cut s.sl f)) f (rs (nW toks i)) (rs (toks.filter (fun t=>fD (fun j=>listed.getD j false) t&& !hZ i t.by_)) f++M))) [])=pC n ds β o.dst (fun f=>s.k (cut s.sl f)) f (rs (nW toks i)) (rs (toks.filter (fun t=>fD (fun j=>listed.getD j false) t&& !hZ i t.by_)) f++M):=by
     funext a w;simp only[wpListIn,Qn]
    rw[hfun]at hob
    exact hob))
  ·rename_i hwn
   rw[if_neg hwn]
   refine⟨hob.1,step _ _ ?_⟩
   have:=hob.2
   simp only[wpListIn,Qn]at this
   exact this
theorem mZ{id:Nat}{ops:List Oper}{f:Fm}{L:List cE}(sps:List Sp)(toks:List Tok)(ini:List (Nat×Value))(fin:List Nat)(M:List cE)(hm:P.follows .mixedOrders=true)
 (h1:nP ops sps ini=true)(h2:toks.all (kZ ops sps)=true)(hf:fin.all (sJ ops ini)=true)(hL:L=rs (lT toks) f++M)(hi:rZ f ini)
 (ho:Obs P ro n ds β ops sps toks ini ops 0)
 (hQ:∀f',KEv sps f' sps→nH ini fin f'→iN n ds β Q .normal f' (rs (mD toks) f'++M)):dE P ro n ds β (.region id ops.toArray true) Q f L:=by
 intro a w ha hw
 have hD0:∀j,(Array.replicate ops.length false).getD j false=false:=by
  intro j
  by_cases hj:j<ops.length<;>simp[Array.getD_eq_getD_getElem?,hj]
 refine wpIn_region_any hm (aHl h1 h2 ho hf hQ _ _ f a _ (by simp) ?_ ?_)
 ·have:=List.length_filter_le (fun j=> !(Array.replicate ops.toArray.size false).getD j false) (List.range ops.length)
  simpa using this
 ·refine⟨fun j hj=> ?_,fun j s _ hj=> ?_,fun p hp _=>hi.get p hp,ha,?_⟩
  ·simp[hD0]at hj
  ·simp[hD0]at hj
  ·have hT:toks.filter (fD fun j=>(Array.replicate ops.toArray.size false).getD j false)=lT toks:=by
    refine List.filter_congr fun t _=> ?_
    unfold fD
    cases t.prod<;>cases t.cons<;>simp[iA,gG,hD0]
   rw[hT,←hL]
   exact hw.drew
theorem aA{g f:Fm}{d:Nat}{v:Value}(e:g=f)(h:f d=v):fS g d v=f:=by subst e;exact kL h
variable {f g:Fm}{L:List cE}{ops:Array Oper}{rest:List Oper}
theorem bC{L':List cE}(hL:L=L')(e:g=f)(k:cQ P ro n ds β ops Q rest g L'):cQ P ro n ds β ops Q rest f L:=by subst hL;subst e;exact k
theorem aI{d:Nat}{v:Value}{k:Fm→Prop}{out:Fm→List cE}{M:List cE}(e:g=f)(hk:k (fS f d v))(hp:L.Perm (out (fS f d v)++M)):
  iN n ds β (Qn (pC n ds β (some d) k f out M)) .normal (fS g d v) L:=by
 subst e
 intro a w ha hw
 refine⟨_,fun s hs=> ?_,ha,hk,hw.perm hp⟩
 unfold fS
 cases h:Nat.beq s d with
 |false=>rfl
 |true=>exact absurd (by rw[Nat.eq_of_beq_eq_true h]) hs
theorem cT{k:Fm→Prop}{out:Fm→List cE}{M:List cE}(e:g=f)(hk:k f)(hp:L.Perm (out f++M)):
  iN n ds β (Qn (pC n ds β none k f out M)) .normal g L:=by
 subst e
 intro a w ha hw
 exact⟨_,fun s hs=>rfl,ha,hk,hw.perm hp⟩
theorem aJ{e:Exit}{d:Nat}{v:Value}(h:f d=v)(k:iN n ds β Q e (fS f d v) L):iN n ds β Q e f L:=by rw[←kL h];exact k
theorem qD{e:Exit}{L':List cE}(hL:L=L')(k:iN n ds β Q e f L'):iN n ds β Q e f L:=by subst hL;exact k
theorem vG{o:Oper}{p:Prop}[Decidable p](h:p)(e:EV P β L f o (.bool (decide p))):EV P β L f o (.bool true):=by rwa [decide_eq_true h]at e
def bI:Value→Nat
 | .pointer (some a)=>a.block
 | .slice (some a) _ _=>a.block
 |_=>0
def aE(i:Nat):Value→Value
 | .agg cs=>cs.getD i undef
 | .tuple cs=>cs.getD i undef
 | .func _ _ cs=>cs.getD i undef
 |_=>undef
end
section
variable {P:Program}{ro:Option Nat}{n:Nat}{ds:List Deferred}{β:Base}{Q:Exit→Act→World→Prop}{f:Fm}{L:List cE}{ops:Array Oper}{rest:List Oper}
variable {d:Option Tmp}{ty:TypeId}{ps:String}{af:Array Edge}{g:Option (Nat×Bool)}
def oQ(P:Program):List Field→List (Nat×Nat)→Bool
 |[],[]=>true
 |x::l,(o,s)::m=>Nat.beq x.offset o&&(match P.info? x.type with|some i=>Nat.beq i.size s|none=>false)&&oQ P l m
 |_,_=>false
def stB(P:Program)(t:Nat)(pl:List (Nat×Nat)):Bool:=
 match P.underlying t with
 |some (.struct fs)=>oQ P fs.toList pl
 |_=>false
theorem uN{w:World}:∀(l:List Field) (m:List (Nat×Nat)),oQ P l m=true→(l.mapM fun x=>do pure (x.offset,←sizeOf x.type):Sem (List (Nat×Nat))).run P w= .ok m w
 |[],[],_=>by simp
 |[],_::_,h=>by simp[oQ]at h
 |_::_,[],h=>by simp[oQ]at h
 |x::l,(o,s)::m,h=>by
  simp only[oQ,Bool.and_eq_true]at h
  obtain⟨⟨h1,h2⟩,h3⟩:=h
  cases hi:P.info? x.type with
  |none=>rw[hi]at h2;cases h2
  |some i=>
   rw[hi]at h2
   have e1:=Nat.eq_of_beq_eq_true h1
   have e2:=Nat.eq_of_beq_eq_true h2
   have ih:=uN (w:=w) l m h3
   have hs:(sizeOf x.type).run P w= .ok s w:=by simp[sizeOf,typeInfo,hi,e2]
   rw[List.mapM_cons,Sem.run_bind,Sem.run_bind,hs]
   simp only[Result.andThen_ok,Sem.run_pure]
   rw[Sem.run_bind,ih]
   simp[e1]
theorem dW{t:Nat}{parts:List (Nat×Operand)}{z:Value}{pl:List (Nat×Nat)}{vs:List (Nat×Value)}{cells:Array Value}(hz:(P.info? t).bind (·.zero)=some z)(ht:stB P t pl=true)
 (hp:(parts.map fun(i,x)=>(i,ev f x))=vs)(hf:Instr.fill (pl[·]?) z.cells vs=some cells):EV P β L f ⟨d,.build t parts.toArray,ty,ps,af,g⟩ (.agg cells):=fun w _=>by
 unfold stB at ht
 cases hu:P.underlying t with
 |none=>rw[hu]at ht;cases ht
 |some dd=>
  rw[hu]at ht
  cases dd<;>simp only[]at ht<;>try (cases ht)
  rename_i fs
  cases hi:P.info? t with
  |none=>rw[hi]at hz;cases hz
  |some i=>
   rw[hi]at hz
   have hz':i.zero=some z:=by simpa using hz
   have hzv:(zeroValue t).run P w= .ok z w:=by simp[zeroValue,typeInfo,hi,hz']
   have hpl:=uN (w:=w) _ _ ht
   have hm:(fs.mapM fun x=>do pure (x.offset,←sizeOf x.type):Sem (Array (Nat×Nat))).run P w= .ok pl.toArray w:=by
    rw[Array.mapM_eq_mapM_toList,map_eq_pure_bind,Sem.run_bind,hpl]
    simp
   simp only[execOp,Instr.build,Sem.run_bind,hzv,Result.andThen_ok,run_underlying hu,hm]
   simp[hp,hf]
theorem aCd{t len e k:Nat}{parts:List (Nat×Operand)}{z:Value}{vs:List (Nat×Value)}{cells:Array Value}(hz:(P.info? t).bind (·.zero)=some z)(ht:arB P t len e k=true)
 (hp:(parts.map fun(i,x)=>(i,ev f x))=vs)(hf:Instr.fill (fun i=>some (i*k,k)) z.cells vs=some cells):EV P β L f ⟨d,.build t parts.toArray,ty,ps,af,g⟩ (.agg cells):=fun w _=>by
 unfold arB at ht
 simp only[Bool.and_eq_true]at ht
 obtain⟨h1,h2⟩:=ht
 cases hu:P.underlying t with
 |none=>rw[hu]at h1;cases h1
 |some dd=>
  rw[hu]at h1
  cases dd<;>simp only[]at h1<;>try (cases h1)
  rename_i l' e'
  simp only[Bool.and_eq_true,beq_iff_eq]at h1
  obtain⟨rfl,rfl⟩:=h1
  cases hi:P.info? t with
  |none=>rw[hi]at hz;cases hz
  |some i=>
   rw[hi]at hz
   have hz':i.zero=some z:=by simpa using hz
   have hzv:(zeroValue t).run P w= .ok z w:=by simp[zeroValue,typeInfo,hi,hz']
   cases he:P.info? e' with
   |none=>rw[he]at h2;cases h2
   |some j=>
    rw[he]at h2
    have h2':j.size=k:=by simpa using h2
    simp only[execOp,Instr.build,Sem.run_bind,hzv,Result.andThen_ok,run_underlying hu,sizeOf,typeInfo,run_program,he,Sem.run_pure,h2']
    simp[hp,hf]
def xK:List Value→Value
 |[v]=>v
 |vs=> .tuple vs.toArray
def uD(tmps:Array Value):ResultVar→Sem Value
 | .tmp t=>pure (tmps.getD t undef)
 | .cell a t=>do loadVar t (←asAddr (tmps.getD a undef))
def Rd(P:Program)(β:Base)(L:List cE)(f:Fm)(r:ResultVar)(v:Value):Prop:=
 ∀(a:Act) w,(∀i,a.tmps.getD i undef=f i)→St β L w→(uD a.tmps r).run P w= .ok v w
def Rds(P:Program)(β:Base)(L:List cE)(f:Fm):List ResultVar→List Value→Prop
 |[],[]=>True
 |r::l,v::m=>Rd P β L f r v∧Rds P β L f l m
 |_,_=>False
theorem cN{t:Nat}{v:Value}(h:f t=v):Rd P β L f (.tmp t) v:=fun a w ha _=>by simp[uD,ha,h]
theorem bY{x t n:Nat}{a:Addr}{cs:List Value}(ht:tyB P t true n=true)(hx:f x= .pointer (some a))(hk:aX β L (fun h=>Cs h a cs))(hl:cs.length=n):Rd P β L f (.cell x t) (.agg cs.toArray):=fun b w ha hw=>by
 have h:=(jD (tyF ht) (hw.knows hk) hl).1 rfl
 simp[uD,ha,hx,asAddr,h]
theorem zC{x t:Nat}{a:Addr}{v:Value}(ht:tyB P t false 1=true)(hx:f x= .pointer (some a))(hk:aX β L (fun h=>Cs h a [v])):Rd P β L f (.cell x t) v:=fun b w ha hw=>by
 have h:=(jD (tyF ht) (hw.knows hk) rfl).2 rfl v rfl
 simp[uD,ha,hx,asAddr,h]
theorem aBh{a:Act}{w:World}(ha:∀i,a.tmps.getD i undef=f i)(hw:St β L w):∀(l:List ResultVar) (m:List Value),Rds P β L f l m→(l.mapM (uD a.tmps)).run P w= .ok m w
 |[],[],_=>by simp
 |[],_::_,h=>h.elim
 |_::_,[],h=>h.elim
 |r::l,v::m,h=>by
  rw[List.mapM_cons,Sem.run_bind,h.1 a w ha hw]
  simp only[Result.andThen_ok]
  rw[Sem.run_bind,aBh ha hw l m h.2]
  simp
theorem oA{fn:Func}{a:Act}{w:World}{l:List ResultVar}{m:List Value}(hr:fn.results=l.toArray)(ha:∀i,a.tmps.getD i undef=f i)(hw:St β L w)(h:Rds P β L f l m):(results fn a.tmps).run P w= .ok (xK m) w:=by
 have hm:(fn.results.mapM (uD a.tmps)).run P w= .ok m.toArray w:=by
  rw[hr,Array.mapM_eq_mapM_toList,map_eq_pure_bind,Sem.run_bind,aBh ha hw l m h]
  simp
 have he:results fn a.tmps=(do
   let vs ←fn.results.mapM (uD a.tmps)
   pure (if h:vs.size=1 then vs[0]else .tuple vs)):=rfl
 rw[he,Sem.run_bind,hm]
 simp only[Result.andThen_ok,Sem.run_pure]
 match m with
 |[]=>simp[xK]
 |[v]=>simp[xK]
 |v::v'::m=>simp[xK]
theorem fH{fn:Func}{R:Ending→World→Prop}{l:List ResultVar}{m:List Value}{v:Value}(hr:fn.results=l.toArray)(h:Rds P β L f l m)(hv:xK m=v)(hR:∀w,St β L w→R (.returned v) w):iN n [] β (bodyPost P fn R) .ret f L:=
 fun a w ha hw=>bodyPost_ret (v:=v) (by rw[oA hr ha.get hw h,hv]) ha.defers (hR w hw)
theorem fE{o:Oper}{v v':Value}(h:v=v')(e:EV P β L f o v):EV P β L f o v':=by subst h;exact e
theorem tP{c:Code}{L':List cE}(hp:L.Perm L')(k:dE P ro n ds β c Q f L'):dE P ro n ds β c Q f L:=fun a w ha hw=>k a w ha (hw.perm hp)
def pF(l:List Value):Nat→List Value
 |0=>[]
 |k+1=>l++pF l k
theorem kG(l:List Value):∀k,(pF l k).length=k*l.length
 |0=>by simp[pF]
 |k+1=>by simp[pF,kG l k,Nat.add_mul,Nat.add_comm]
theorem zE(l:List Value):∀(k i:Nat),i<k*l.length→(pF l k)[i]? =l[i%l.length]?
 |0,i,h=>by simp at h
 |k+1,i,h=>by
  unfold pF
  by_cases hi:i<l.length
  ·rw[List.getElem?_append_left hi,Nat.mod_eq_of_lt hi]
  ·have hl:l.length≤i:=by omega
   rw[List.getElem?_append_right hl,zE l k (i-l.length) (by rw[Nat.add_mul]at h;omega),Nat.mod_eq_sub_mod hl]
theorem aFm(cs:Array Value)(k:Nat):(Array.range (k*cs.size)).map (cs[· %cs.size]!)=(pF cs.toList k).toArray:=by
 apply Array.ext
 ·simp[kG]
 ·intro i h1 h2
  have hi:i<k*cs.size:=by simpa using h1
  have hs:0<cs.size:=by
   rcases Nat.eq_zero_or_pos cs.size with h|h
   ·rw[h]at hi;simp at hi
   ·exact h
  have hg:=zE cs.toList k i (by simpa using hi)
  have hm:i%cs.size<cs.size:=Nat.mod_lt _ hs
  simp only[Array.length_toList,Array.getElem?_toList]at hg
  rw[Array.getElem?_eq_getElem hm]at hg
  have h2':i<(pF cs.toList k).length:=by simpa using h2
  rw[List.getElem?_eq_getElem h2']at hg
  simp only[Array.getElem_map,Array.getElem_range,List.getElem_toArray]
  rw[getElem!_pos cs _ hm]
  exact(Option.some.inj hg).symm
theorem cO{t e n len:Nat}{parts:List (Nat×Operand)}{z:Value}{vs:List (Nat×Value)}{cells:Array Value}(hsl:nB P t e n=true)(hz:(P.info? e).bind (·.zero)=some z)(hn:z.cells.size=n)
 (hp:(parts.map fun(i,x)=>(i,ev f x))=vs)(hs:(Nat.ble 1 (len*n)&&Nat.ble (len*n) 16777216)=true)
 (hf:Instr.fill (fun i=>some (i*n,n)) (pF z.cells.toList len).toArray vs=some cells):
  MV P β L f ⟨d,.buildSlice t len parts.toArray,ty,ps,af,g⟩ (fun u L'=>∃b,u= .slice (some ⟨b,0,none⟩) len len∧L'=pt b (.cells cells e)::L):=by
 subst hn
 exact aHv hsl hz hp hs (by rw[aFm];exact hf)
theorem aAa{e:Exit}{L':List cE}(hp:L.Perm L')(k:iN n ds β Q e f L'):iN n ds β Q e f L:=fun a w ha hw=>k a w ha (hw.perm hp)
theorem St.merge{M:List cE}{w:World}{r:cE}(h:St β (L++M) w)(hr:∀a,kI L a→r a):St β (r::M) w:=by
 obtain⟨ho,ht,hp,a,hd,hs,hs',hL⟩:=h
 obtain⟨x,y,hab,ha,hb,hLa,hMb⟩:=kI.append.1 hL
 exact⟨ho,ht,hp,a,hd,hs,hs',x,y,hab,ha,hb,hr x hLa,hMb⟩
theorem aHc{x:Operand}{t:Nat}{p:Prop}[Decidable p](hx:ev f x= .bool (decide p)):EV P β L f ⟨d,.unOp .not t x,ty,ps,af,g⟩ (.bool (decide ¬p)):=
 fE (by rw[decide_not]) (aIu (a:=decide p) hx)
theorem jP{x y:Operand}{t e n:Nat}{k len cap b o:Nat}(hx:ev f x= .slice (some ⟨b,o,none⟩) len cap)(hy:ev f y= .int .i64 (k:Int))(ht:nB P t e n=true)(hk:k<len):
  EV P β L f ⟨d,.indexAddr t x y,ty,ps,af,g⟩ (.pointer (some ⟨b,o+k*n,none⟩)):=by
 have h:=nR (P:=P) (β:=β) (L:=L) (d:=d) (ty:=ty) (ps:=ps) (af:=af) (g:=g) hx hy ht hk rfl
 have e:(ba (some (⟨b,o,none⟩:Addr))).add (k*n)=⟨b,o+k*n,none⟩:=by unfold ba Addr.add;split<;>simp_all
 rwa [e]at h
theorem Sl.nil{α:Type}(R:Rp α)(h:bR):Sl R h (.slice none 0 0) []:=⟨none,0,rfl,Nat.le_refl _,by omega,fun j x hj=>by simp at hj⟩
end
section
variable {P:Program}{ro:Option Nat}{n:Nat}{ds:List Deferred}{β:Base}{Q:Exit→Act→World→Prop}{f:Fm}{L:List cE}{ops:Array Oper}{rest:List Oper}
variable {d:Option Tmp}{ty:TypeId}{ps:String}{af:Array Edge}{g:Option (Nat×Bool)}
theorem oU{k:Nat}{y:Nat}{c:BoundsCode}{w:World}(h:k≤y):(Instr.sliceBound (.int .i64 (k:Int)) y c).run P w= .ok k w:=by
 unfold Instr.sliceBound asIntOf
 simp only[Sem.run_bind,Sem.run_pure,Result.andThen_ok]
 rw[if_pos (by omega)]
 simp
def gL(a:Option Addr)(cap l k:Nat):Option Addr:=if cap=l then a else a.map (·.add (l*k))
theorem dF{x y:Operand}{t e k len cap h:Nat}{a:Option Addr}(ht:nB P t e k=true)(hx:ev f x= .slice a len cap)(hy:ev f y= .int .i64 (h:Int))(hh:h≤cap):
  EV P β L f ⟨d,.slice t x none (some y) none,ty,ps,af,g⟩ (.slice a h cap):=fun w _=>by
 obtain⟨hu,i,hi,hn⟩:=gN ht
 have e0:∀a:Addr,a.add 0=a:=fun a=>by unfold Addr.add;split<;>simp_all
 simp[execOp,Instr.sliceAt,Instr.slice,run_underlying hu,hx,hy,Instr.sliceBounds,oU hh,sizeOf,typeInfo,hi]
 intro _
 cases a<;>simp[e0]
theorem jQ{x y:Operand}{t e k len cap l:Nat}{a:Option Addr}(ht:nB P t e k=true)(hx:ev f x= .slice a len cap)(hy:ev f y= .int .i64 (l:Int))(hl:l≤len):
  EV P β L f ⟨d,.slice t x (some y) none none,ty,ps,af,g⟩ (.slice (gL a cap l k) (len-l) (cap-l)):=fun w _=>by
 obtain⟨hu,i,hi,hn⟩:=gN ht
 simp[execOp,Instr.sliceAt,Instr.slice,run_underlying hu,hx,hy,Instr.sliceBounds,oU hl,sizeOf,typeInfo,hi,hn,gL]
theorem fT{x y z:Operand}{t e k len cap l h:Nat}{a:Option Addr}(ht:nB P t e k=true)(hx:ev f x= .slice a len cap)(hy:ev f y= .int .i64 (l:Int))(hz:ev f z= .int .i64 (h:Int))(hl:l≤h)(hh:h≤cap):
  EV P β L f ⟨d,.slice t x (some y) (some z) none,ty,ps,af,g⟩ (.slice (gL a cap l k) (h-l) (cap-l)):=fun w _=>by
 obtain⟨hu,i,hi,hn⟩:=gN ht
 simp[execOp,Instr.sliceAt,Instr.slice,run_underlying hu,hx,hy,hz,Instr.sliceBounds,oU hl,oU hh,sizeOf,typeInfo,hi,hn,gL]
theorem bO.take{α:Type}{R:Rp α}{h:bR}{a:Option Addr}{xs:List α}(k:Nat)(he:bO R h a xs):bO R h a (xs.take k):=fun j x hj=>by
 have hlt:=(List.getElem?_eq_some_iff.1 hj).1
 rw[List.getElem?_take_of_lt (by simp at hlt;omega)]at hj
 exact he j x hj
theorem bO.drop{α:Type}{R:Rp α}{h:bR}{a:Option Addr}{xs:List α}{cap:Nat}(l:Nat)(hc:xs.length≤cap)(he:bO R h a xs):bO R h (gL a cap l R.n) (xs.drop l):=fun j x hj=>by
 rw[List.getElem?_drop]at hj
 have hlt:=(List.getElem?_eq_some_iff.1 hj).1
 obtain⟨ha,cs,hcs,hr⟩:=he _ x hj
 have e:gL a cap l R.n=some ((ba a).add (l*R.n)):=by
  unfold gL
  rw[if_neg (by omega)]
  conv=>lhs;rw[ha]
  rfl
 rw[e]
 refine⟨rfl,cs,?_,hr⟩
 show Cs h (((ba a).add (l*R.n)).add (j*R.n)) cs
 rw[Addr.add_add',←Nat.add_mul];exact hcs
theorem eC(a b:Nat):(a:Int).tmod (b:Int)=((a%b:Nat):Int):=by
 rw[Int.tmod_eq_emod_of_nonneg (by omega)];rfl
theorem yR(a b:Nat):(a:Int).tdiv (b:Int)=((a/b:Nat):Int):=by
 rw[Int.tdiv_eq_ediv_of_nonneg (by omega)];rfl
end
section
variable {P:Program}{ro:Option Nat}{n:Nat}{ds:List Deferred}{β:Base}{Q:Exit→Act→World→Prop}{f:Fm}{L:List cE}{ops:Array Oper}{rest:List Oper}
variable {d:Option Tmp}{ty:TypeId}{ps:String}{af:Array Edge}{g:Option (Nat×Bool)}
theorem jC{p:Option Addr}{m c T k:Nat}{vs:List Value}{a:bR}(h:row (.slice p m c) T k m vs a)(hm:0<m):
  ∃b cur,p=some ⟨b,0,none⟩∧a b=some (.cells cur T (0,0))∧m≤c∧c≤maxLen∧cur.size=c*k∧cur.toList.take (m*k)=vs∧vs.length=m*k:=by
 obtain⟨hl,⟨e,h0⟩|⟨b,cap,cur,e,hb,h1,h2,h3,h4⟩⟩:=h
 ·omega
 ·injection e with e1 e2 e3
  subst e3
  exact⟨b,cur,e1,hb,h1,h2,h3,h4,hl⟩
theorem aFp{p:Option Addr}{m c T k:Nat}{vs:List Value}{w:World}(i:Nat)(hi:L[i]? =some (row (.slice p m c) T k m vs))(hm:0<m)(hw:St β L w):p=some (ba p):=
 hw.knows (F:=fun _=>p=some (ba p)) (aX.of_res i hi (fun _ _ _ h=>h) fun a h=>by
  obtain⟨b,cur,rfl,_⟩:=jC h hm
  rfl)
theorem dK{x y:Operand}{t e:Nat}{j len cap m c T k:Nat}{p:Option Addr}{vs:List Value}(i:Nat)(hx:ev f x= .slice p len cap)(hy:ev f y= .int .i64 (j:Int))(ht:nB P t e k=true)(hj:j<len)(hlm:len≤m)
 (hi:L[i]? =some (row (.slice p m c) T k m vs)):EV P β L f ⟨d,.indexAddr t x y,ty,ps,af,g⟩ (.pointer (some ((ba p).add (j*k)))):=fun w hw=>
 nR hx hy ht hj (aFp i hi (by omega) hw) w hw
theorem xH{p:Option Addr}{m c T k o:Nat}{vs us:List Value}{a:bR}(h:row (.slice p m c) T k m vs a)(hu:(vs.drop o).take us.length=us)(h0:0<us.length):Cs a ((ba p).add o) us:=by
 have hm:0<m:=by
  rcases Nat.eq_zero_or_pos m with rfl|hm
  ·have hl:=h.1
   have:vs=[]:=List.eq_nil_of_length_eq_zero (by rw[hl];simp)
   subst this
   have hu':us.length=0:=by rw[←hu];simp
   omega
  ·exact hm
 obtain⟨b,cur,rfl,hb,_,_,_,h4,_⟩:=jC h hm
 have hc:Cs a ⟨b,0,none⟩ vs:=Cs.of_pt (o:=0) hb (by simp only[List.drop_zero];rw[←h4];simp)
 exact Cs.sub o hc hu
theorem sK{p:Option Addr}{m c T k o:Nat}{vs us:List Value}(i:Nat)(hi:L[i]? =some (row (.slice p m c) T k m vs))(hu:(vs.drop o).take us.length=us)(h0:0<us.length):aX β L (fun h=>Cs h ((ba p).add o) us):=
 aX.of_res i hi (Cs.mono _ _) fun _ h=>xH h hu h0
theorem aCp(cur us:List Value)(o M:Nat)(h:o+us.length≤M)(hM:M≤cur.length):
  (cur.take o++us++cur.drop (o+us.length)).take M=(cur.take M).take o++us++(cur.take M).drop (o+us.length):=by
 have hl:(cur.take o++us).length=o+us.length:=by simp;omega
 rw[List.take_append,List.take_of_length_le (by omega),hl,List.take_take,Nat.min_eq_left (by omega),List.drop_take]
def kE(vs:List Value)(o:Nat)(us:List Value):List Value:=vs.take o++us++vs.drop (o+us.length)
theorem wZ{vs us:List Value}{o:Nat}(h:o+us.length≤vs.length):(kE vs o us).length=vs.length:=by
 simp[kE];omega
theorem fJ{x y:Operand}{t m c T k o q:Nat}{agg:Bool}{p:Option Addr}{vs:List Value}{v:Value}(i:Nat)(ht:tyB P t agg q=true)(hx:ev f x= .pointer (some ((ba p).add o)))(hy:ev f y=v)
 (hi:L[i]? =some (row (.slice p m c) T k m vs))(hn:v.cells.size=q)(h1:v.cells.toList.all (·.oneCell')=true)(hfit:o+q≤m*k)(hm:0<m):
  MU P β L f ⟨d,.store t x y,ty,ps,af,g⟩ (L.set i (row (.slice p m c) T k m (kE vs o v.cells.toList))):=fun w hw=>by
 have hex:∃a,gR a (ph w)∧row (.slice p m c) T k m vs a:=by
  obtain⟨_,_,_,hh,hd,hs,hs',hL⟩:=hw
  obtain⟨a,ha,hr⟩:=hL.each _ (List.mem_of_getElem? hi)
  exact⟨a,ha.trans hs',hr⟩
 obtain⟨a,ha,hr⟩:=hex
 obtain⟨b,cur,rfl,hb,h2,h3,h4,h5,h6⟩:=jC hr hm
 have hbw:w.heap[b]? =some (.cells cur T (0,0)):=ha _ _ hb
 have hs:=(tyF ht).size w
 have hmc:m*k≤c*k:=Nat.mul_le_mul_right k h2
 have hst:=run_storeCells_at P b o T v.cells.toList 0 cur w hbw (by simp[hn];omega) (List.all_eq_true.1 h1)
 simp only[Nat.add_zero]at hst
 have hadd:(ba (some (⟨b,0,none⟩:Addr))).add o=⟨b,o,none⟩:=by unfold ba Addr.add;split<;>simp_all
 rw[hadd]at hx
 refine⟨w.setRow b (over cur o v.cells.toList),?_,?_⟩
 ·simp only[execOp,hx,hy,Instr.storeAt,Instr.sureAddr,Sem.run_bind,Sem.run_pure,Result.andThen_ok,storeVar,hs,hn,ne_eq,not_true_eq_false,if_false,hst,over]
 ·refine St.back i hi ((hw.front i hi).turn rfl rfl rfl fun a' ha' hr'=> ?_)
  obtain⟨b',cur',e1,hb',g2,g3,g4,g5,g6⟩:=jC hr' hm
  injection e1 with e1
  injection e1 with e1
  subst e1
  have hbw':w.heap[b]? =some (.cells cur' T (0,0)):=ha' _ _ hb'
  rw[hbw]at hbw'
  injection hbw' with e2
  injection e2 with e2
  subst e2
  have hol:(kE vs o v.cells.toList).length=m*k:=by rw[wZ (by simp[hn];omega),h6]
  have hvl:vs.length=m*k:=h6
  refine⟨fun k'=>if k'=b then some (.cells (over cur o v.cells.toList) T (0,0))else none,?_,?_,?_⟩
  ·refine⟨hol,.inr ⟨b,c,over cur o v.cells.toList,rfl,by simp,h2,h3,?_,?_⟩⟩
   ·simp[over,hn];omega
   ·subst h5
    have hvn:v.cells.toList.length=q:=by simp[hn]
    exact aCp cur.toList v.cells.toList o (m*k) (by omega) (by simp;omega)
  ·intro k' z hz
   by_cases e:k'=b
   ·subst e;simp at hz;subst hz;exact setRow_heap w k' cur _ T _ hbw
   ·simp[e]at hz
  ·intro k' hlt hak
   have hne:k'≠b:=by rintro rfl;rw[hb']at hak;cases hak
   exact⟨by simp[hne],setRow_other w b k' _ hne⟩
theorem bA{code:Code}{p:Option Addr}{m c T k:Nat}{vs:List Value}(i:Nat)(hi:L[i]? =some (row (.slice p m c) T k m vs))(h:m≤c→c≤maxLen→dE P ro n ds β code Q f L):dE P ro n ds β code Q f L:=fun a w ha hw=>by
 have hc:m≤c∧c≤maxLen:=hw.knows (F:=fun _=>m≤c∧c≤maxLen) (aX.of_res i hi (fun _ _ _ h=>h) fun _ hr=>by
  obtain⟨_,⟨e,h0⟩|⟨b,cap,cur,e,hb,h1,h2,_⟩⟩:=hr
  ·injection e with _ _ e3
   subst e3;subst h0;unfold maxLen;omega
  ·injection e with _ _ e3
   subst e3;exact⟨h1,h2⟩)
 exact h hc.1 hc.2 a w ha hw
theorem wU{x y:Operand}{t e n bytes m k c:Nat}{v:Value}{vs news:List Value}{ao:Option Addr}(i:Nat)(hsl:nB P t e n=true)(hel:zS P e n bytes=true)(hx:ev f x=v)(hi:L[i]? =some (row v e n m vs))
 (hy:ev f y= .slice ao k c)(hl:news.length=k*n)(hnews:aX β L (fun h=>Cs h (ba ao) news))(h1:news.all (·.oneCell')=true)(ha:0<k→ao=some (ba ao))(h63:m+k≤maxLen)(hby:(m+k)*bytes≤140737488355328):
  MV P β L f ⟨d,.call ⟨.builtin .append,#[x,y],#[t,t]⟩,ty,ps,af,g⟩ (fun v' L'=>(v'= .slice none 0 0↔v= .slice none 0 0∧k=0)∧L'=L.set i (row v' e n (m+k) (vs++news))):=by
 rcases Nat.eq_zero_or_pos k with rfl|hk
 ·have hz:news=[]:=List.eq_nil_of_length_eq_zero (by simpa using hl)
  subst hz
  intro w hw
  obtain⟨v',w',L',h1,h2,rfl,rfl⟩:=wV (P:=P) (ty:=ty) (ps:=ps) (af:=af) (g:=g) (d:=d) i hsl hx hi hy w hw
  refine⟨v',w',_,h1,h2,by simp,?_⟩
  rw[List.append_nil,Nat.add_zero]
  obtain⟨hlt,he⟩:=List.getElem?_eq_some_iff.1 hi
  rw[←he,List.set_getElem_self]
 ·rw[ha hk]at hy
  exact aEu i hsl hel hx hi hy hl hnews h1 h63 hby
theorem jR{x y:Operand}{t e n bytes m k c:Nat}{v:Value}{vs news:List Value}{ao:Option Addr}(i:Nat)(hsl:nB P t e n=true)(hel:zS P e n bytes=true)(hx:ev f x=v)(hi:L[i]? =some (row v e n m vs))
 (hy:ev f y= .slice ao k c)(hl:news.length=k*n)(hnews:aX β L (fun h=>Cs h (ba ao) news))(h1:news.all (·.oneCell')=true)(ha:0<k→ao=some (ba ao))(h63:m+k≤maxLen)(hby:(m+k)*bytes≤140737488355328):
  MV P β L f ⟨d,.call ⟨.builtin .append,#[x,y],#[t,t]⟩,ty,ps,af,g⟩ (fun v' L'=>∃p c,v'= .slice p (m+k) c∧L'=L.set i (row (.slice p (m+k) c) e n (m+k) (vs++news))):=fun w hw=>by
 obtain⟨v',w',L',g1,g2,_,rfl⟩:=wU (P:=P) (ty:=ty) (ps:=ps) (af:=af) (g:=g) (d:=d) i hsl hel hx hi hy hl hnews h1 ha h63 hby w hw
 have hi':(L.set i (row v' e n (m+k) (vs++news)))[i]? =some (row v' e n (m+k) (vs++news)):=by
  have:=(List.getElem?_eq_some_iff.1 hi).1
  rw[List.getElem?_set_self this]
 have hc:∃p c,v'= .slice p (m+k) c:=g2.knows (F:=fun _=>∃p c,v'= .slice p (m+k) c) (aX.of_res i hi' (fun _ _ _ h=>h) fun _ hr=>by
  obtain⟨_,⟨e,h0⟩|⟨b,cap,cur,e,hb,h1,h2,_⟩⟩:=hr
  ·rw[h0];exact⟨_,_,e⟩
  ·exact⟨_,_,e⟩)
 obtain⟨p,c,rfl⟩:=hc
 exact⟨_,w',_,g1,g2,p,c,rfl,rfl⟩
end
section
variable {P:Program}{ro:Option Nat}{n:Nat}{ds:List Deferred}{β:Base}{Q:Exit→Act→World→Prop}{f:Fm}{L:List cE}{ops:Array Oper}{rest:List Oper}
variable {d:Option Tmp}{ty:TypeId}{ps:String}{af:Array Edge}{g:Option (Nat×Bool)}
end
theorem uU(x y:UInt64):((x.toNat:Int)).tmod (y.toNat:Int)=((x%y).toNat:Int):=by
 rw[eC];simp
section
variable {P:Program}{ro:Option Nat}{n:Nat}{ds:List Deferred}{β:Base}{Q:Exit→Act→World→Prop}{f:Fm}{L:List cE}{ops:Array Oper}{rest:List Oper}
variable {d:Option Tmp}{ty:TypeId}{ps:String}{af:Array Edge}{g:Option (Nat×Bool)}
theorem aEv{x y:Operand}{t e n:Nat}(hsl:nB P t e n=true)(hx:ev f x= .int .i64 0)(hy:ev f y= .int .i64 0):
  MV P β L f ⟨d,.makeSlice t x y,ty,ps,af,g⟩ (fun u L'=>∃b,u= .slice (some ⟨b,0,none⟩) 0 0∧L'=pt b (.cells #[] e)::L):=fun w hw=>by
 obtain⟨hu,i,hi,hn2⟩:=gN hsl
 have hw0:IntKind.i64.wrap 0=0:=by decide
 refine⟨_,_,_,?_,hw.new (.cells #[] e),_,rfl,rfl⟩
 simp only[execOp,Instr.makeSlice,hx,hy,Sem.run_bind,run_underlying hu,Result.andThen_ok,asInt,asIntOf,sizeOf,typeInfo,run_program,hi,Sem.run_pure,hw0]
 simp[askRoom,hi,newRow,show(Array.range 0:Array Nat)= #[]from by simp[Array.range]]
end
section
variable {P:Program}{ro:Option Nat}{n:Nat}{ds:List Deferred}{β:Base}{Q:Exit→Act→World→Prop}{f:Fm}{L:List cE}{ops:Array Oper}{rest:List Oper}
variable {d:Option Tmp}{ty:TypeId}{ps:String}{af:Array Edge}{g:Option (Nat×Bool)}
end
section
variable {P:Program}{ro:Option Nat}{n:Nat}{ds:List Deferred}{β:Base}{Q:Exit→Act→World→Prop}{f:Fm}{L:List cE}{ops:Array Oper}{rest:List Oper}
variable {d:Option Tmp}{ty:TypeId}{ps:String}{af:Array Edge}{g:Option (Nat×Bool)}
def Un(P:Program)(ro:Option Nat)(n:Nat)(ds:List Deferred)(β:Base)(c:Code)(Q:Exit→Act→World→Prop):Nat→Fm→List cE→Prop
 |0,_,_=>False
 |m+1,f,L=>dE P ro n ds β c (Exit.then (Cut n ds β fun f' L'=>Un P ro n ds β c Q m f' L') Q) f L
theorem lO{c:Code}(m:Nat)(h:dE P ro n ds β c (Exit.then (Cut n ds β fun f' L'=>Un P ro n ds β c Q m f' L') Q) f L):Un P ro n ds β c Q (m+1) f L:=h
theorem aDs{c:Code}(m:Nat)(h:Un P ro n ds β c Q m f L):dE P ro n ds β (.loop c) Q f L:=
 dV (fun(x:Nat) f L=>Un P ro n ds β c Q x f L) id m h fun x f' L' hI=>by
  cases x with
  |zero=>exact hI.elim
  |succ x=>
   intro a w ha hw b k cs hro hb hr
   obtain⟨e,a₁,w₁,hq,harr⟩:=hI a w ha hw b k cs hro hb hr
   refine⟨e,a₁,w₁,?_,harr⟩
   cases e with
   |normal=>
    obtain⟨f'',L'',hu,h1,h2⟩:=hq
    exact⟨f'',L'',⟨x,hu,Nat.lt_succ_self x⟩,h1,h2⟩
   |_=>exact hq
theorem aHu{x y:Operand}{t e n bytes c:Nat}{z:Value}(hsl:nB P t e n=true)(hel:zS P e n bytes=true)(hz:(P.info? e).bind (·.zero)=some z)(hzn:z.cells.size=n)(hx:ev f x= .int .i64 (c:Int))(hy:ev f y= .int .i64 (c:Int))
 (h0:0<c*n)(hc:c≤maxLen)(hb:c*bytes≤140737488355328):
  MV P β L f ⟨d,.makeSlice t x y,ty,ps,af,g⟩ (fun u L'=>∃b,u= .slice (some ⟨b,0,none⟩) c c∧L'=row (.slice (some ⟨b,0,none⟩) c c) e n c (pF z.cells.toList c)::L):=fun w hw=>by
 obtain⟨hu,i,hi,hn2⟩:=gN hsl
 have hz':i.zero=some z:=by rw[hi]at hz;simpa using hz
 have hbytes:i.bytes=bytes:=by
  unfold zS at hel;rw[hi]at hel;simp only[Bool.and_eq_true]at hel
  simp only[beq_iff_eq]at hel
  exact hel.1.1.2
 have hw1:IntKind.i64.wrap (c:Int)=(c:Int):=aHi (by unfold maxLen at hc;omega)
 have hroom:¬(roomBytes<c*i.bytes):=by rw[hbytes];unfold roomBytes;omega
 have hbig:¬((281474976710656:Int)<(i.bytes:Int)*(c:Int)):=by
  rw[hbytes,Int.mul_comm]
  have h1:((c*bytes:Nat):Int)≤140737488355328:=by omega
  rw[Int.natCast_mul]at h1
  omega
 have hne:¬(c*n=0):=by omega
 have hzv:∀w,(zeroValue e).run P w= .ok z w:=fun w=>by simp[zeroValue,typeInfo,hi,hz']
 subst hzn
 refine⟨.slice (some ⟨w.heap.size,0,none⟩) c c,w.alloc (.cells (pF z.cells.toList c).toArray e (0,0)),_,?_,(hw.new (.cells (pF z.cells.toList c).toArray e)).conseq (r':=row (.slice (some ⟨w.heap.size,0,none⟩) c c) e z.cells.size c (pF z.cells.toList c)) (fun a ha=> ?_),_,rfl,rfl⟩
 ·simp only[execOp,Instr.makeSlice,hx,hy,Sem.run_bind,run_underlying hu,Result.andThen_ok,asInt,asIntOf,sizeOf,typeInfo,run_program,hi,Sem.run_pure,hw1]
  have hcn:¬((c:Int)<0):=by omega
  rw[←aFm]
  simp[hcn,hbig,askRoom,hroom,hi,hn2,hne,hzv,newRow]
 ·refine⟨by rw[kG];simp,.inr ⟨w.heap.size,c,_,rfl,ha,Nat.le_refl _,hc,by simp[kG],?_⟩⟩
  rw[List.take_of_length_le (by simp[kG])]
end
end Go.Sl
