/-
  Own work; plain Lean (SlCore, SlRun, SlOps, SlMem, SlRow, SlWalk, SlNum).
-/
import Derived.WalkKit
import Derived.TacticsInMore
import Derived.OwnWalkIn
import Derived.LoopIn
import Derived.Laws.AppendOwnNone
import Derived.Deep.Quiet
namespace Go.Sl
open Go.RowKit
abbrev PHeap:=Nat→Option Obj
def Sub(a b:PHeap):Prop:=∀k o,a k=some o→b k=some o
def Disj(a b:PHeap):Prop:=∀k,a k=none∨b k=none
def un(a b:PHeap):PHeap:=fun k=>(a k).or (b k)
theorem Sub.refl(a:PHeap):Sub a a:=fun _ _ h=>h
theorem Sub.trans{a b c:PHeap}(h:Sub a b)(k:Sub b c):Sub a c:=fun i o hi=>k i o (h i o hi)
theorem Disj.symm{a b:PHeap}(h:Disj a b):Disj b a:=fun k=>(h k).symm
theorem Disj.mono{a b a' b':PHeap}(h:Disj a b)(ha:Sub a' a)(hb:Sub b' b):Disj a' b':=by
 intro k
 rcases h k with h|h
 ·left
  cases h':a' k with
  |none=>rfl
  |some o=>rw[ha k o h']at h;cases h
 ·right
  cases h':b' k with
  |none=>rfl
  |some o=>rw[hb k o h']at h;cases h
theorem sub_un_left(a b:PHeap):Sub a (un a b):=fun k o h=>by simp[un,h]
theorem sub_un_right{a b:PHeap}(hd:Disj a b):Sub b (un a b):=fun k o h=>by
 rcases hd k with h'|h'
 ·simp[un,h',h]
 ·rw[h']at h;cases h
theorem un_sub{a b c:PHeap}(ha:Sub a c)(hb:Sub b c):Sub (un a b) c:=fun k o h=>by
 simp only[un]at h
 cases h':a k with
 |some x=>rw[h']at h;simp at h;subst h;exact ha k _ h'
 |none=>rw[h']at h;simp at h;exact hb k _ h
theorem disj_un{a b c:PHeap}(h1:Disj a c)(h2:Disj b c):Disj (un a b) c:=fun k=>by
 rcases h1 k with h|h
 ·rcases h2 k with h'|h'
  ·left;simp[un,h,h']
  ·right;exact h'
 ·right;exact h
theorem disj_un_left{a b c:PHeap}(h:Disj (un a b) c):Disj a c:=h.mono (sub_un_left a b) (Sub.refl c)
abbrev Res:=PHeap→Prop
def Sat:List Res→PHeap→Prop
 |[],_=>True
 |r::rs,h=>∃a b,Disj a b∧Sub a h∧Sub b h∧r a∧Sat rs b
theorem Sat.mono{L:List Res}{h h':PHeap}(hs:Sub h h')(hL:Sat L h):Sat L h':=by
 cases L with
 |nil=>trivial
 |cons r rs=>obtain⟨a,b,hd,ha,hb,hr,hrs⟩:=hL;exact⟨a,b,hd,ha.trans hs,hb.trans hs,hr,hrs⟩
theorem Sat.swap{r s:Res}{L:List Res}{h:PHeap}(hL:Sat (r::s::L) h):Sat (s::r::L) h:=by
 obtain⟨a,b,hd,ha,hb,hr,a',b',hd',ha',hb',hs,hL'⟩:=hL
 refine⟨a',un a b',?_,ha'.trans hb,un_sub ha (hb'.trans hb),hs,a,b',hd.mono (Sub.refl _) hb',sub_un_left _ _,sub_un_right (hd.mono (Sub.refl _) hb'),hr,hL'⟩
 exact(disj_un (hd.mono (Sub.refl _) ha') hd'.symm).symm
theorem Sat.perm{L L':List Res}(hp:L.Perm L'):∀{h:PHeap},Sat L h→Sat L' h:=by
 induction hp with
 |nil=>exact fun h=>h
 |cons r _ ih=>intro h hL;obtain⟨a,b,hd,ha,hb,hr,hrs⟩:=hL;exact⟨a,b,hd,ha,hb,hr,ih hrs⟩
 |swap r s l=>exact fun hL=>hL.swap
 |trans _ _ ih1 ih2=>exact fun hL=>ih2 (ih1 hL)
theorem Sat.tail{r:Res}{L:List Res}{h:PHeap}(hL:Sat (r::L) h):Sat L h:=by
 obtain⟨a,b,hd,ha,hb,hr,hrs⟩:=hL
 exact hrs.mono hb
theorem Sat.drop{L L':List Res}(hp:L'.Sublist L):∀{h:PHeap},Sat L h→Sat L' h:=by
 induction hp with
 |slnil=>exact fun h=>h
 |cons r _ ih=>exact fun h=>ih h.tail
 |cons_cons r _ ih=>intro h hL;obtain⟨a,b,hd,ha,hb,hr,hrs⟩:=hL;exact⟨a,b,hd,ha,hb,hr,ih hrs⟩
theorem Sat.append{L M:List Res}:∀{h:PHeap},Sat (L++M) h↔∃a b,Disj a b∧Sub a h∧Sub b h∧Sat L a∧Sat M b:=by
 induction L with
 |nil=>
  intro h
  refine⟨fun hM=>⟨fun _=>none,h,fun _=> .inl rfl,fun _ _ h=>(by cases h),Sub.refl h,trivial,hM⟩,fun⟨a,b,_,_,hb,_,hM⟩=>hM.mono hb⟩
 |cons r L ih=>
  intro h
  constructor
  ·rintro⟨a,b,hd,ha,hb,hr,hrs⟩
   obtain⟨c,d,hcd,hc,hd',hL,hM⟩:=ih.1 hrs
   exact⟨un a c,d,disj_un (hd.mono (Sub.refl _) hd') hcd,un_sub ha (hc.trans hb),hd'.trans hb,⟨a,c,hd.mono (Sub.refl _) hc,sub_un_left _ _,sub_un_right (hd.mono (Sub.refl _) hc),hr,hL⟩,hM⟩
  ·rintro⟨c,d,hcd,hc,hd',⟨a,b,hd,ha,hb,hr,hrs⟩,hM⟩
   refine⟨a,un b d,?_,ha.trans hc,un_sub (hb.trans hc) hd',hr,ih.2 ⟨b,d,hcd.mono hb (Sub.refl _),sub_un_left _ _,sub_un_right (hcd.mono hb (Sub.refl _)),hrs,hM⟩⟩
   exact(disj_un hd.symm (hcd.mono ha (Sub.refl _)).symm).symm
structure Base where
 heap:PHeap
 os:Os
 tape:Nat→Question→Nat
 output:Array (Nat×ByteArray)
 drawn:Nat
def ph(w:World):PHeap:=fun k=>w.heap[k]?
def World.base(w:World):Base:=⟨ph w,w.os,w.tape,w.output,w.drawn⟩
structure St(β:Base)(L:List Res)(w:World):Prop where
 os:w.os=β.os
 tape:w.tape=β.tape
 output:w.output=β.output∧β.drawn≤w.drawn
 heap:∃h,Disj β.heap h∧Sub β.heap (ph w)∧Sub h (ph w)∧Sat L h
theorem St.base(w:World):St (World.base w) [] w:=⟨rfl,rfl,⟨rfl,Nat.le_refl _⟩,fun _=>none,fun _=> .inr rfl,Sub.refl _,fun _ _ h=>(by cases h),trivial⟩
theorem St.perm{β:Base}{L L':List Res}{w:World}(h:St β L w)(hp:L.Perm L'):St β L' w:=by
 obtain⟨a,b,c,hh,hd,hs,hs',hL⟩:=h
 exact⟨a,b,c,hh,hd,hs,hs',hL.perm hp⟩
theorem St.drop{β:Base}{L L':List Res}{w:World}(h:St β L w)(hp:L'.Sublist L):St β L' w:=by
 obtain⟨a,b,c,hh,hd,hs,hs',hL⟩:=h
 exact⟨a,b,c,hh,hd,hs,hs',hL.drop hp⟩
def Knows(β:Base)(L:List Res)(F:PHeap→Prop):Prop:=∀h,Sub β.heap h→(∀r∈L,∃a,Sub a h∧r a)→F h
theorem Sat.each{L:List Res}:∀{h:PHeap},Sat L h→∀r∈L,∃a,Sub a h∧r a:=by
 induction L with
 |nil=>intro h _ r hr;cases hr
 |cons s L ih=>
  rintro h ⟨a,b,hd,ha,hb,hr,hrs⟩ r hm
  cases hm with
  |head=>exact⟨a,ha,hr⟩
  |tail _ hm=>obtain⟨c,hc,hr'⟩:=ih hrs r hm;exact⟨c,hc.trans hb,hr'⟩
theorem St.knows{β:Base}{L:List Res}{w:World}{F:PHeap→Prop}(h:St β L w)(hF:Knows β L F):F (ph w):=by
 obtain⟨a,b,c,hh,hd,hs,hs',hL⟩:=h
 exact hF _ hs fun r hr=>let⟨a,ha,hra⟩:=hL.each r hr;⟨a,ha.trans hs',hra⟩
def Mono(F:PHeap→Prop):Prop:=∀h h',Sub h h'→F h→F h'
theorem Knows.of_base{β:Base}{L:List Res}{F:PHeap→Prop}(hm:Mono F)(h:F β.heap):Knows β L F:=fun _ hs _=>hm _ _ hs h
theorem Knows.of_res{β:Base}{L:List Res}{F:PHeap→Prop}{r:Res}(i:Nat)(hi:L[i]? =some r)(hm:Mono F)(h:∀a,r a→F a):Knows β L F:=
 fun _ _ hr=>let⟨_,ha,hra⟩:=hr r (List.mem_of_getElem? hi);hm _ _ ha (h _ hra)
theorem Knows.imp{β:Base}{L:List Res}{F G:PHeap→Prop}(h:Knows β L F)(hi:∀a,F a→G a):Knows β L G:=fun a hs hr=>hi a (h a hs hr)
theorem St.turn{β:Base}{r r':Res}{L:List Res}{w w':World}(h:St β (r::L) w)(hos:w'.os=w.os)(htape:w'.tape=w.tape)(hout:w'.output=w.output)
 (ht:∀a,Sub a (ph w)→r a→∃a',r' a'∧Sub a' (ph w')∧∀k,k<w.heap.size→a k=none→a' k=none∧w'.heap[k]? =w.heap[k]?)(hdr:w.drawn≤w'.drawn:=by first|exact Nat.le_refl _|exact Nat.le_add_right _ _):St β (r'::L) w':=by
 obtain⟨a,b,c,hh,hd,hs,hs',p,q,hpq,hp,hq,hr,hL⟩:=h
 obtain⟨p',hr',hp',hk⟩:=ht p (hp.trans hs') hr
 have lt:∀{k o},ph w k=some o→k<w.heap.size:=fun h=>by
  have:=Array.getElem?_eq_some_iff.1 h;exact this.1
 have keep:∀(x:PHeap),Disj p x→Sub x (ph w)→Sub x (ph w')∧Disj p' x:=by
  intro x hx hxs
  refine⟨fun k o ho=> ?_,fun k=> ?_⟩
  ·have hw:=hxs k o ho
   have hpk:p k=none:=by rcases hx k with h|h;exact h;rw[ho]at h;cases h
   show w'.heap[k]? =some o
   rw[(hk k (lt hw) hpk).2];exact hw
  ·cases ho:x k with
   |none=>exact .inr rfl
   |some o=>
    have hw:=hxs k o ho
    have hpk:p k=none:=by rcases hx k with h|h;exact h;rw[ho]at h;cases h
    exact .inl (hk k (lt hw) hpk).1
 have hβ:=keep β.heap ((hd.mono (Sub.refl _) hp).symm) hs
 have hq':=keep q hpq (hq.trans hs')
 refine⟨hos.trans a,htape.trans b,⟨hout.trans c.1,Nat.le_trans c.2 hdr⟩,un p' q,?_,hβ.1,un_sub hp' hq'.1,p',q,hq'.2,sub_un_left _ _,sub_un_right hq'.2,hr',hL⟩
 exact(disj_un hβ.2 (hd.mono (Sub.refl _) hq).symm).symm
theorem St.grow{β:Base}{r':Res}{L:List Res}{w w':World}(h:St β L w)(hos:w'.os=w.os)(htape:w'.tape=w.tape)(hout:w'.output=w.output)
 (hk:∀k,k<w.heap.size→w'.heap[k]? =w.heap[k]?)(hr:∃a',r' a'∧Sub a' (ph w')∧∀k,k<w.heap.size→a' k=none)(hdr:w.drawn≤w'.drawn:=by first|exact Nat.le_refl _|exact Nat.le_add_right _ _):St β (r'::L) w':=by
 have h':St β ((fun _=>True)::L) w:=by
  obtain⟨a,b,c,hh,hd,hs,hs',hL⟩:=h
  exact⟨a,b,c,hh,hd,hs,hs',fun _=>none,hh,fun _=> .inl rfl,fun _ _ h=>(by cases h),Sub.refl _,trivial,hL⟩
 obtain⟨a',hr',hs',hn⟩:=hr
 exact h'.turn hos htape hout (fun a _ _=>⟨a',hr',hs',fun k hlt _=>⟨hn k hlt,hk k hlt⟩⟩) hdr
theorem St.same{β:Base}{L:List Res}{w w':World}(h:St β L w)(hos:w'.os=w.os)(htape:w'.tape=w.tape)(hout:w'.output=w.output)
 (hk:∀k,k<w.heap.size→w'.heap[k]? =w.heap[k]?)(hdr:w.drawn≤w'.drawn:=by first|exact Nat.le_refl _|exact Nat.le_add_right _ _):St β L w':=
 (h.grow (r':=fun _=>True) hos htape hout hk ⟨fun _=>none,trivial,fun _ _ h=>(by cases h),fun _ _=>rfl⟩ hdr).drop (List.sublist_cons_self _ _)
theorem St.drew{β:Base}{L:List Res}{w:World}(h:St β L w):St β L w.drew:=h.same rfl rfl rfl fun _ _=>rfl
def pt(b:Nat)(o:Obj):Res:=fun h=>h b=some o
theorem St.new{β:Base}{L:List Res}{w:World}(h:St β L w)(o:Obj):St β (pt w.heap.size o::L) (w.alloc o):=by
 refine h.grow rfl rfl rfl (fun k hk=>Below.heap_alloc w o k hk) ⟨fun k=>if k=w.heap.size then some o else none,by simp[pt],?_,?_⟩
 ·intro k o' h
  by_cases e:k=w.heap.size
  ·subst e;simp at h;subst h;exact heap_alloc_new w o
  ·simp[e]at h
 ·intro k hk
  have:k≠w.heap.size:=by omega
  simp[this]
theorem St.pt{β:Base}{L:List Res}{w:World}{b:Nat}{o:Obj}(h:St β L w)(i:Nat)(hi:L[i]? =some (pt b o)):w.heap[b]? =some o:=
 h.knows (F:=fun h=>h b=some o) (Knows.of_res i hi (fun _ _ hs hb=>hs _ _ hb) fun _ ha=>ha)
theorem St.put{β:Base}{L:List Res}{w w':World}{b:Nat}{o o':Obj}(h:St β (Sl.pt b o::L) w)(hos:w'.os=w.os)(htape:w'.tape=w.tape)(hout:w'.output=w.output)
 (hb:w'.heap[b]? =some o')(hk:∀k,k≠b→k<w.heap.size→w'.heap[k]? =w.heap[k]?)(hdr:w.drawn≤w'.drawn:=by first|exact Nat.le_refl _|exact Nat.le_add_right _ _):St β (Sl.pt b o'::L) w':=by
 refine h.turn hos htape hout (fun a _ hr=>⟨fun k=>if k=b then some o' else none,by simp[Sl.pt],?_,?_⟩) hdr
 ·intro k x hx
  by_cases e:k=b
  ·subst e;simp at hx;subst hx;exact hb
  ·simp[e]at hx
 ·intro k hlt hak
  have hne:k≠b:=by rintro rfl;rw[Sl.pt]at hr;rw[hr]at hak;cases hak
  exact⟨by simp[hne],hk k hne hlt⟩
theorem perm_front{α:Type _}{L:List α}{r:α}(i:Nat)(hi:L[i]? =some r):L.Perm (r::L.eraseIdx i):=by
 induction L generalizing i with
 |nil=>simp at hi
 |cons s L ih=>
  cases i with
  |zero=>simp at hi;subst hi;exact List.Perm.refl _
  |succ i=>
   simp at hi
   exact((ih i hi).cons s).trans (List.Perm.swap _ _ _)
theorem perm_set{α:Type _}{L:List α}{r r':α}(i:Nat)(hi:L[i]? =some r):(r'::L.eraseIdx i).Perm (L.set i r'):=by
 induction L generalizing i with
 |nil=>simp at hi
 |cons s L ih=>
  cases i with
  |zero=>exact List.Perm.refl _
  |succ i=>
   simp at hi
   exact(List.Perm.swap _ _ _).trans ((ih i hi).cons s)
theorem St.front{β:Base}{L:List Res}{w:World}{r:Res}(h:St β L w)(i:Nat)(hi:L[i]? =some r):St β (r::L.eraseIdx i) w:=h.perm (perm_front i hi)
theorem St.back{β:Base}{L:List Res}{w:World}{r r':Res}(i:Nat)(hi:L[i]? =some r)(h:St β (r'::L.eraseIdx i) w):St β (L.set i r') w:=h.perm (perm_set i hi)
theorem St.frame{β:Base}{L M:List Res}{w:World}(h:St β (L++M) w):
  ∃β₁:Base,Sub β.heap β₁.heap∧(∀F,Knows β M F→F β₁.heap)∧St β₁ L w∧∀L' w',St β₁ L' w'→St β (L'++M) w':=by
 obtain⟨ho,ht,hp,hh,hd,hs,hs',hL⟩:=h
 obtain⟨a,b,hab,ha,hb,hLa,hMb⟩:=Sat.append.1 hL
 have hdb:Disj β.heap b:=hd.mono (Sub.refl _) hb
 refine⟨⟨un β.heap b,β.os,β.tape,β.output,β.drawn⟩,sub_un_left _ _,?_,⟨ho,ht,hp,a,disj_un (hd.mono (Sub.refl _) ha) hab.symm,un_sub hs (hb.trans hs'),ha.trans hs',hLa⟩,?_⟩
 ·intro F hF
  exact hF _ (sub_un_left _ _) fun r hr=>let⟨c,hc,hrc⟩:=hMb.each r hr;⟨c,hc.trans (sub_un_right hdb),hrc⟩
 ·rintro L' w' ⟨ho',ht',hp',h',hd',hs1,hs2,hL'⟩
  refine⟨ho',ht',hp',un h' b,?_,(sub_un_left _ _).trans hs1,un_sub hs2 ((sub_un_right hdb).trans hs1),?_⟩
  ·exact(disj_un (disj_un_left hd').symm hdb.symm).symm
  ·have hd2:Disj h' b:=(hd'.mono (sub_un_right hdb) (Sub.refl _)).symm
   exact Sat.append.2 ⟨h',b,hd2,sub_un_left _ _,sub_un_right hd2,hL',hMb⟩
theorem St.below{L:List Res}{w w':World}(h:St (World.base w) L w'):Below w.heap.size w w':=by
 obtain⟨ho,ht,hp,hh,hd,hs,hs',hL⟩:=h
 refine⟨ho,ht,hp.1,?_,fun k hk=> ?_⟩
 ·by_cases e:w.heap.size=0
  ·omega
  ·have hlt:w.heap.size-1<w.heap.size:=by omega
   have:=hs (w.heap.size-1) _ (Array.getElem?_eq_getElem hlt)
   have h2:=(Array.getElem?_eq_some_iff.1 this).1
   omega
 ·rw[Array.getElem?_eq_getElem hk];exact hs k _ (Array.getElem?_eq_getElem hk)
theorem St.drawn{L:List Res}{w w':World}(h:St (World.base w) L w'):w.drawn≤w'.drawn:=h.output.2
end Go.Sl
namespace Go.Sl
open Go.RowKit
abbrev Fm:=Nat→Value
def upd(f:Fm)(d:Nat)(v:Value):Fm:=fun i=>match Nat.beq i d with|true=>v|false=>f i
def ev(f:Fm):Operand→Value
 | .tmp t=>f t
 | .const v=>v
 | .global g=> .pointer (some ⟨g,0,none⟩)
 | .func f=> .func (.func f) #[] #[]
structure At(n:Nat)(ds:List Deferred)(f:Fm)(a:Act):Prop where
 defers:a.defers=ds
 size:a.tmps.size=n
 get:∀i,a.tmps.getD i undef=f i
theorem At.eval{n:Nat}{ds:List Deferred}{f:Fm}{a:Act}(h:At n ds f a):a.eval=ev f:=by
 funext x
 cases x with
 |tmp t=>exact h.get t
 |const v=>rfl
 |global g=>rfl
 |func g=>rfl
theorem At.put{n:Nat}{ds:List Deferred}{f:Fm}{a:Act}(h:At n ds f a){d:Nat}(hd:Nat.blt d n=true)(v:Value):At n ds (upd f d v) (a.put (some d) v):=by
 have hd':d<n:=by simpa[Nat.blt_eq]using hd
 refine⟨h.defers,by simp[Act.put,h.size],fun i=> ?_⟩
 have hg:=h.get i
 have hs:=h.size
 simp only[Act.put,upd]
 by_cases e:i=d
 ·subst e
  simp[Array.getD_eq_getD_getElem?,hs,hd',Nat.beq_refl]
 ·have e':Nat.beq i d=false:=by
   cases hb:Nat.beq i d with
   |false=>rfl
   |true=>exact absurd (Nat.eq_of_beq_eq_true hb) e
  rw[e']
  rw[←hg]
  simp only[Array.getD_eq_getD_getElem?,Array.getElem?_setIfInBounds]
  rw[if_neg (by omega)]
def initF(args:Array Value):Fm:=fun i=>args.getD i undef
def Fe(r:Option Nat):Fence:={fn:=fun _=>True,depth:=none,alive:=false,round:=r}
section
variable (P:Program)(ro:Option Nat)(n:Nat)(ds:List Deferred)(β:Base)
def RunL(ops:Array Oper)(Q:Exit→Act→World→Prop)(rest:List Oper)(f:Fm)(L:List Res):Prop:=
 ∀a w,At n ds f a→St β L w→wpListIn (Fe ro) 3 P ops Q rest a w
def RunC(c:Code)(Q:Exit→Act→World→Prop)(f:Fm)(L:List Res):Prop:=
 ∀a w,At n ds f a→St β L w→c.wpIn (Fe ro) 3 P Q a w
def Fin(Q:Exit→Act→World→Prop)(e:Exit)(f:Fm)(L:List Res):Prop:=
 ∀a w,At n ds f a→St β L w→Q e a w
def Step1(o:Oper)(Q:Exit→Act→World→Prop)(K:Act→World→Prop)(f:Fm)(L:List Res):Prop:=
 ∀a w,At n ds f a→St β L w→o.wpIn (Fe ro) 3 P a w K Q
end
section rules
variable {P:Program}{ro:Option Nat}{n:Nat}{ds:List Deferred}{β:Base}{Q:Exit→Act→World→Prop}{f:Fm}{L:List Res}{ops:Array Oper}{rest:List Oper}
theorem l_nil(h:Fin n ds β Q .normal f L):RunL P ro n ds β ops Q [] f L:=fun a w ha hw=>wpListIn_nil (h a w ha hw)
theorem l_step{o:Oper}(hg:o.guard=none)(h:Step1 P ro n ds β o Q (wpListIn (Fe ro) 3 P ops Q rest) f L):RunL P ro n ds β ops Q (o::rest) f L:=by
 intro a w ha hw
 unfold wpListIn
 rw[if_pos (by simp[Region.wanted,hg])]
 exact h a w ha hw
theorem callsIn_fe{ro:Option Nat}{m:Nat}{g:FuncId}{args:Array Value}{w:World}{R:Ending→World→Prop}:CallsIn (Fe ro) m P g args w R↔Calls P g args w R:=callsIn_wide (n:=m)
theorem semAt_of{ρ:Operand→Value}{o:Oper}{w w':World}{x:Next}(h:(execOp ρ o).run P w= .ok x w')(hx:∀d,x≠ .defer d):o.semAt ro ρ=execOp ρ o:=by
 refine Oper.semAt_eq ro ρ o fun c hc=> ?_
 simp only[execOp,hc,Sem.run_bind]at h
 cases hr:(resolve ρ c o.type).run P w with
 |ok d w1=>rw[hr]at h;simp at h;exact hx d h.1.symm
 |halt x w1=>rw[hr]at h;simp at h
def gd(ops:Array Oper)(f:Fm)(j:Nat):Option Bool:=
 match(ops[j]?).bind (·.dst)with
 |none=>none
 |some d=>match f d with| .bool b=>some b|_=>none
theorem At.yielded{a:Act}(h:At n ds f a)(ops:Array Oper)(j:Nat)(b:Bool)(d:Nat)(ho:(ops[j]?).bind (·.dst)=some d)(hf:f d= .bool b):Go.yielded ops a.tmps j=some b:=by
 have hg:=h.get d
 rw[hf]at hg
 unfold Go.yielded
 have ht:a.tmps[d]? =some (.bool b):=by
  rw[Array.getD_eq_getD_getElem?]at hg
  cases hx:a.tmps[d]? with
  |none=>rw[hx]at hg;simp[undef]at hg
  |some x=>rw[hx]at hg;simp at hg;rw[hg]
 simp[ho,ht]
theorem l_take{o:Oper}{j d:Nat}{b:Bool}(hg:o.guard=some (j,b))(ho:(ops[j]?).bind (·.dst)=some d)(hf:f d= .bool b)
 (h:Step1 P ro n ds β o Q (wpListIn (Fe ro) 3 P ops Q rest) f L):RunL P ro n ds β ops Q (o::rest) f L:=by
 intro a w ha hw
 have hy:=ha.yielded ops j b d ho hf
 unfold wpListIn
 rw[if_pos (by simp[Region.wanted,hg,hy])]
 exact h a w ha hw
theorem l_skip{o:Oper}{j d e:Nat}{b b':Bool}(hg:o.guard=some (j,b'))(ho:(ops[j]?).bind (·.dst)=some d)(hf:f d= .bool b)(hb:(b==b')=false)
 (hd:o.dst=some e)(he:Nat.blt e n=true)(h:RunL P ro n ds β ops Q rest (upd f e undef) L):RunL P ro n ds β ops Q (o::rest) f L:=by
 intro a w ha hw
 have hy:=ha.yielded ops j b d ho hf
 unfold wpListIn
 rw[if_neg (by simp[Region.wanted,hg,hy];simpa using hb),hd]
 exact⟨fun _ _=>trivial,h _ w (ha.put he undef) hw⟩
theorem s_val{o:Oper}{d:Nat}{v:Value}(hd:o.dst=some d)(hn:Nat.blt d n=true)(hv:∀w,St β L w→(execOp (ev f) o).run P w= .ok (.value v) w)
 (k:RunL P ro n ds β ops Q rest (upd f d v) L):Step1 P ro n ds β o Q (wpListIn (Fe ro) 3 P ops Q rest) f L:=by
 intro a w ha hw
 refine⟨fun _ _=>trivial,?_⟩
 have h:=hv w hw
 rw[ha.eval,semAt_of h (by simp),h,Oper.uponIn_value,hd]
 exact k _ w (ha.put hn v) hw
theorem s_mem{o:Oper}{d:Nat}(hd:o.dst=some d)(hn:Nat.blt d n=true)
 (hv:∀w,St β L w→∃v w' L',(execOp (ev f) o).run P w= .ok (.value v) w'∧St β L' w'∧RunL P ro n ds β ops Q rest (upd f d v) L'):Step1 P ro n ds β o Q (wpListIn (Fe ro) 3 P ops Q rest) f L:=by
 intro a w ha hw
 obtain⟨v,w',L',hr,hw',k⟩:=hv w hw
 refine⟨fun _ _=>trivial,?_⟩
 rw[ha.eval,semAt_of hr (by simp),hr,Oper.uponIn_value,hd]
 exact k _ w' (ha.put hn v) hw'
theorem s_unit{o:Oper}(hd:o.dst=none)
 (hv:∀w,St β L w→∃w' L',(execOp (ev f) o).run P w= .ok .skip w'∧St β L' w'∧RunL P ro n ds β ops Q rest f L'):Step1 P ro n ds β o Q (wpListIn (Fe ro) 3 P ops Q rest) f L:=by
 intro a w ha hw
 obtain⟨w',L',hr,hw',k⟩:=hv w hw
 refine⟨fun _ _=>trivial,?_⟩
 rw[ha.eval,semAt_of hr (by simp),hr,Oper.uponIn_skip,hd]
 exact k _ w' ha hw'
theorem s_call{o:Oper}{d:Nat}{g:FuncId}{args:Array Value}(hd:o.dst=some d)(hn:Nat.blt d n=true)
 (he:∀w,(execOp (ev f) o).run P w= .ok (.enter g args) w)
 (hc:∀w,St β L w→Calls P g args w fun e w'=>∃v,e= .returned v∧∃L',St β L' w'∧RunL P ro n ds β ops Q rest (upd f d v) L'):Step1 P ro n ds β o Q (wpListIn (Fe ro) 3 P ops Q rest) f L:=by
 intro a w ha hw
 refine⟨fun _ _=>trivial,?_⟩
 rw[ha.eval,semAt_of (he w) (by simp),he w,Oper.uponIn_enter,hd]
 refine⟨fun h=>by simp[Fe]at h,CallsIn.mono (callsIn_fe.2 (hc w hw)) ?_⟩
 rintro e w' ⟨v,rfl,L',hw',k⟩
 exact k _ w' (ha.put hn v) hw'
theorem c_region{id:Nat}{l:List Oper}(h:RunL P ro n ds β l.toArray Q l f L):RunC P ro n ds β (.region id l.toArray false) Q f L:=
 fun a w ha hw=>wpIn_region_lit (h a w ha hw)
theorem c_seq{x y:Code}(h:RunC P ro n ds β x (Exit.then (y.wpIn (Fe ro) 3 P Q) Q) f L):RunC P ro n ds β (.seq x y) Q f L:=fun a w ha hw=>wpIn_seq (h a w ha hw)
theorem c_skip(h:Fin n ds β Q .normal f L):RunC P ro n ds β .skip Q f L:=fun a w ha hw=>wpIn_skip (h a w ha hw)
theorem c_ret(h:Fin n ds β Q .ret f L):RunC P ro n ds β .ret Q f L:=fun a w ha hw=>wpIn_ret (h a w ha hw)
theorem c_exit{id:Nat}(h:Fin n ds β Q (.exit id) f L):RunC P ro n ds β (.exit id) Q f L:=fun a w ha hw=>wpIn_exit (h a w ha hw)
theorem c_block{id:Nat}{c:Code}(h:RunC P ro n ds β c (Exit.inBlock id Q) f L):RunC P ro n ds β (.block id c) Q f L:=fun a w ha hw=>wpIn_block (h a w ha hw)
theorem c_if{c:Operand}{x y:Code}(p:Prop)[Decidable p](hc:ev f c= .bool (decide p))(ht:p→RunC P ro n ds β x Q f L)(hf:¬p→RunC P ro n ds β y Q f L):
  RunC P ro n ds β (.cond c x y) Q f L:=fun a w ha hw=>by
 have e:a.eval c= .bool (decide p):=by rw[ha.eval];exact hc
 by_cases hp:p
 ·exact wpIn_cond_true (by rw[e,decide_eq_true hp]) (ht hp a w ha hw)
 ·exact wpIn_cond_false (by rw[e,decide_eq_false hp]) (hf hp a w ha hw)
theorem c_ifb{c:Operand}{x y:Code}(b:Bool)(hc:ev f c= .bool b)(ht:b=true→RunC P ro n ds β x Q f L)(hf:b=false→RunC P ro n ds β y Q f L):
  RunC P ro n ds β (.cond c x y) Q f L:=fun a w ha hw=>by
 have e:a.eval c= .bool b:=by rw[ha.eval];exact hc
 cases b
 ·exact wpIn_cond_false e (hf rfl a w ha hw)
 ·exact wpIn_cond_true e (ht rfl a w ha hw)
theorem c_yes{c:Operand}{x y:Code}(hc:ev f c= .bool true)(ht:RunC P ro n ds β x Q f L):RunC P ro n ds β (.cond c x y) Q f L:=fun a w ha hw=>
 wpIn_cond_true (by rw[ha.eval];exact hc) (ht a w ha hw)
theorem c_no{c:Operand}{x y:Code}(hc:ev f c= .bool false)(hf:RunC P ro n ds β y Q f L):RunC P ro n ds β (.cond c x y) Q f L:=fun a w ha hw=>
 wpIn_cond_false (by rw[ha.eval];exact hc) (hf a w ha hw)
theorem f_then{y:Code}(h:RunC P ro n ds β y Q f L):Fin n ds β (Exit.then (y.wpIn (Fe ro) 3 P Q) Q) .normal f L:=h
theorem f_block{id:Nat}(h:Fin n ds β Q .normal f L):Fin n ds β (Exit.inBlock id Q) .normal f L:=h
theorem f_exit{id:Nat}(h:Fin n ds β Q .normal f L):Fin n ds β (Exit.inBlock id Q) (.exit id) f L:=fun a w ha hw=>by
 simp only[Exit.inBlock,if_true];exact h a w ha hw
theorem f_then_exit{K:Act→World→Prop}{id:Nat}(h:Fin n ds β Q (.exit id) f L):Fin n ds β (Exit.then K Q) (.exit id) f L:=h
theorem f_then_ret{K:Act→World→Prop}(h:Fin n ds β Q .ret f L):Fin n ds β (Exit.then K Q) .ret f L:=h
theorem f_block_ret{id:Nat}(h:Fin n ds β Q .ret f L):Fin n ds β (Exit.inBlock id Q) .ret f L:=h
def Cut(n:Nat)(ds:List Deferred)(β:Base)(J:Fm→List Res→Prop)(a:Act)(w:World):Prop:=∃f L,J f L∧At n ds f a∧St β L w
theorem f_cut{J:Fm→List Res→Prop}(h:J f L):Fin n ds β (Exit.then (Cut n ds β J) Q) .normal f L:=fun _ _ ha hw=>⟨f,L,h,ha,hw⟩
theorem c_seq_cut{x y:Code}(J:Fm→List Res→Prop)(hx:RunC P ro n ds β x (Exit.then (Cut n ds β J) Q) f L)(hy:∀f' L',J f' L'→RunC P ro n ds β y Q f' L'):
  RunC P ro n ds β (.seq x y) Q f L:=fun a w ha hw=>
 wpIn_seq (wpIn_mono (hx a w ha hw) fun e a' w' hq=>by
  cases e with
  |normal=>obtain⟨f',L',hJ,ha',hw'⟩:=hq;exact hy f' L' hJ a' w' ha' hw'
  |_=>exact hq)
theorem c_loop{c:Code}{α:Type}(I:α→Fm→List Res→Prop)(μ:α→Nat)(x₀:α)(h₀:I x₀ f L)
 (round:∀x f' L',I x f' L'→RunC P ro n ds β c (Exit.then (Cut n ds β fun f'' L''=>∃y,I y f'' L''∧μ y<μ x) Q) f' L'):RunC P ro n ds β (.loop c) Q f L:=by
 have key:∀m x f' L' a w,μ x=m→I x f' L'→At n ds f' a→St β L' w→
   ∀(b:Frame) (k:List Item) (cs:List Frame),b.roundOf=(Fe ro).round→(Fe ro).fn b.fn→(Fe ro).room (cs.length+1+3)→
   ∃e a' w',Q e a' w'∧ArrivesIn (Machine.fenced P (Fe ro)) P (lone (b.atR a (.code c:: .inLoop c::k)) cs w) b k cs e a' w':=by
  intro m
  induction m using Nat.strongRecOn with
  |_ m ih=>
   intro x f' L' a w hm hI ha hw b k cs hro hb hr
   obtain⟨e,a₁,w₁,hq,harr⟩:=round x f' L' hI a w ha hw b (.inLoop c::k) cs hro hb hr
   cases e with
   |normal=>
    obtain⟨f'',L'',⟨y,hy,hlt⟩,ha',hw'⟩:=hq
    obtain⟨e₂,a₂,w₂,hq₂,harr₂⟩:=ih (μ y) (hm▸hlt) y f'' L'' a₁ w₁ rfl hy ha' hw' b k cs hro hb hr
    exact⟨e₂,a₂,w₂,hq₂,.of_steps (StepsIn.trans harr (.one (fenced_calm (fr:=b.atR a₁ (.inLoop c::k)) hb hr rfl) stepR_inLoop)) harr₂⟩
   |exit id=>exact⟨_,a₁,w₁,hq,.pass (x:= .inLoop c) rfl (fun _ _=> .inl (by simp)) harr⟩
   |goto l=>exact⟨_,a₁,w₁,hq,.pass (x:= .inLoop c) rfl (fun _ _=> .inl (by simp)) harr⟩
   |ret=>exact⟨_,a₁,w₁,hq,.pass (x:= .inLoop c) rfl (fun _ _=> .inl (by simp)) harr⟩
   |panic ch=>exact⟨_,a₁,w₁,hq,.pass (x:= .inLoop c) rfl (fun _ _=> .inl (by simp)) harr⟩
   |outgrown=>exact⟨_,a₁,w₁,hq,.pass (x:= .inLoop c) rfl (fun _ _=> .inl (by simp)) harr⟩
 intro a w ha hw b k cs hro hb hr
 obtain⟨e,a',w',hq,harr⟩:=key _ x₀ f L a w rfl h₀ ha hw b k cs hro hb hr
 exact⟨e,a',w',hq,.of_steps (.one (fenced_calm (fr:=b.atR a (.code (.loop c)::k)) hb hr rfl) stepR_loop) harr⟩
end rules
end Go.Sl
namespace Go.Sl
open Go.RowKit
def tyB(P:Program)(t:TypeId)(agg:Bool)(n:Nat):Bool:=
 (match P.underlying t with|some (.struct _)=>agg|some (.array _ _)=>agg|some _=> !agg|none=>false)&&
 (match P.info? t with|some i=>i.size==n|none=>false)
def fldB(P:Program)(s k off n:Nat)(agg:Bool):Bool:=
 match P.underlying s with
 |some (.struct fs)=>(match fs[k]? with|some f=>f.offset==off&&tyB P f.type agg n&& !(n==0)|none=>false)
 |_=>false
def slB(P:Program)(t e n:Nat):Bool:=
 (match P.underlying t with|some (.slice e')=>e'==e|_=>false)&&(match P.info? e with|some i=>i.size==n|none=>false)
structure TyF(P:Program)(t:TypeId)(agg:Bool)(n:Nat):Prop where
 agg:∀w,(isAgg t).run P w= .ok agg w
 size:∀w,(sizeOf t).run P w= .ok n w
theorem tyF{P:Program}{t:TypeId}{agg:Bool}{n:Nat}(h:tyB P t agg n=true):TyF P t agg n:=by
 unfold tyB at h
 simp only[Bool.and_eq_true]at h
 obtain⟨h1,h2⟩:=h
 refine⟨fun w=> ?_,fun w=> ?_⟩
 ·cases hu:P.underlying t with
  |none=>rw[hu]at h1;simp at h1
  |some d=>
   unfold isAgg
   rw[Sem.run_bind,run_underlying hu w]
   cases d<;>simp_all
 ·cases hi:P.info? t with
  |none=>rw[hi]at h2;simp at h2
  |some i=>
   rw[hi]at h2;simp at h2
   simp[sizeOf,typeInfo,hi,h2]
section
variable {P:Program}{β:Base}{L:List Res}{f:Fm}
def EV(P:Program)(β:Base)(L:List Res)(f:Fm)(o:Oper)(v:Value):Prop:=∀w,St β L w→(execOp (ev f) o).run P w= .ok (.value v) w
variable {d:Option Tmp}{ty:TypeId}{ps:String}{af:Array Edge}{g:Option (Nat×Bool)}
theorem e_move{x:Operand}:EV P β L f ⟨d,.move x,ty,ps,af,g⟩ (ev f x):=fun _ _=>rfl
theorem e_assign{x:Operand}:EV P β L f ⟨d,.assign x,ty,ps,af,g⟩ (ev f x):=fun _ _=>rfl
theorem e_pick_t{c x y:Operand}(hc:ev f c= .bool true):EV P β L f ⟨d,.pick c x y,ty,ps,af,g⟩ (ev f x):=fun w _=>by
 simp[execOp,hc,asBool]
theorem e_pick_f{c x y:Operand}(hc:ev f c= .bool false):EV P β L f ⟨d,.pick c x y,ty,ps,af,g⟩ (ev f y):=fun w _=>by
 simp[execOp,hc,asBool]
section ints
variable {t t':TypeId}{x y:Operand}{k:IntKind}{a b:Int}
theorem e_add(hx:ev f x= .int k a)(hy:ev f y= .int k b){c:Int}(hc:k.wrap (a+b)=c):EV P β L f ⟨d,.binOp .add t x y t',ty,ps,af,g⟩ (.int k c):=fun w _=>by
 simp[execOp,hx,hy,eqGuard,binOp,Op.intArith,hc]
theorem e_sub(hx:ev f x= .int k a)(hy:ev f y= .int k b){c:Int}(hc:k.wrap (a-b)=c):EV P β L f ⟨d,.binOp .sub t x y t',ty,ps,af,g⟩ (.int k c):=fun w _=>by
 simp[execOp,hx,hy,eqGuard,binOp,Op.intArith,hc]
theorem e_mul(hx:ev f x= .int k a)(hy:ev f y= .int k b){c:Int}(hc:k.wrap (a*b)=c):EV P β L f ⟨d,.binOp .mul t x y t',ty,ps,af,g⟩ (.int k c):=fun w _=>by
 simp[execOp,hx,hy,eqGuard,binOp,Op.intArith,hc]
theorem e_lss(hx:ev f x= .int k a)(hy:ev f y= .int k b):EV P β L f ⟨d,.binOp .lss t x y t',ty,ps,af,g⟩ (.bool (decide (a<b))):=fun w _=>by
 simp[execOp,hx,hy,eqGuard,binOp,Op.intCmp]
theorem e_leq(hx:ev f x= .int k a)(hy:ev f y= .int k b):EV P β L f ⟨d,.binOp .leq t x y t',ty,ps,af,g⟩ (.bool (decide (a≤b))):=fun w _=>by
 simp[execOp,hx,hy,eqGuard,binOp,Op.intCmp]
theorem e_gtr(hx:ev f x= .int k a)(hy:ev f y= .int k b):EV P β L f ⟨d,.binOp .gtr t x y t',ty,ps,af,g⟩ (.bool (decide (b<a))):=fun w _=>by
 simp[execOp,hx,hy,eqGuard,binOp,Op.intCmp]
theorem e_geq(hx:ev f x= .int k a)(hy:ev f y= .int k b):EV P β L f ⟨d,.binOp .geq t x y t',ty,ps,af,g⟩ (.bool (decide (b≤a))):=fun w _=>by
 simp[execOp,hx,hy,eqGuard,binOp,Op.intCmp]
theorem e_eql(hx:ev f x= .int k a)(hy:ev f y= .int k b):EV P β L f ⟨d,.binOp .eql t x y t',ty,ps,af,g⟩ (.bool (decide (a=b))):=fun w _=>by
 simp only[execOp,hx,hy,eqGuard,binOp,Op.intCmp]
 simp
 rfl
theorem e_neq(hx:ev f x= .int k a)(hy:ev f y= .int k b):EV P β L f ⟨d,.binOp .neq t x y t',ty,ps,af,g⟩ (.bool (decide (a≠b))):=fun w _=>by
 simp only[execOp,hx,hy,eqGuard,binOp,Op.intCmp]
 simp
 by_cases h:a=b<;>simp[h]
theorem e_quo(hx:ev f x= .int k a)(hy:ev f y= .int k b)(hb:¬b=0){c:Int}(hc:k.wrap (a.tdiv b)=c):EV P β L f ⟨d,.binOp .quo t x y t',ty,ps,af,g⟩ (.int k c):=fun w _=>by
 simp[execOp,hx,hy,eqGuard,binOp,Op.intDiv,hb,hc]
theorem e_rem(hx:ev f x= .int k a)(hy:ev f y= .int k b)(hb:¬b=0){c:Int}(hc:a.tmod b=c):EV P β L f ⟨d,.binOp .rem t x y t',ty,ps,af,g⟩ (.int k c):=fun w _=>by
 simp[execOp,hx,hy,eqGuard,binOp,Op.intDiv,hb,hc]
theorem e_neg{t:TypeId}(hx:ev f x= .int k a){c:Int}(hc:k.wrap (0-a)=c):EV P β L f ⟨d,.unOp .neg t x,ty,ps,af,g⟩ (.int k c):=fun w _=>by
 subst hc;simp[execOp,hx,Op.unary,Op.intArith]
theorem e_min(hx:ev f x= .int k a)(hy:ev f y= .int k b){ts:Array TypeId}:EV P β L f ⟨d,.call ⟨.builtin .min,#[x,y],ts⟩,ty,ps,af,g⟩ (.int k (min a b)):=fun w _=>by
 simp[execOp,resolve,invoke,builtin,hx,hy,run_min_int2]
 omega
theorem e_max(hx:ev f x= .int k a)(hy:ev f y= .int k b){ts:Array TypeId}:EV P β L f ⟨d,.call ⟨.builtin .max,#[x,y],ts⟩,ty,ps,af,g⟩ (.int k (max a b)):=fun w _=>by
 simp[execOp,resolve,invoke,builtin,hx,hy,run_max_int2]
 omega
end ints
section bools
variable {t t':TypeId}{x y:Operand}{a b:Bool}
theorem e_not(hx:ev f x= .bool a):EV P β L f ⟨d,.unOp .not t x,ty,ps,af,g⟩ (.bool (!a)):=fun w _=>by
 simp[execOp,hx,Op.unary]
theorem e_eql_b(hx:ev f x= .bool a)(hy:ev f y= .bool b)(ht:P.underlying t=some .bool):EV P β L f ⟨d,.binOp .eql t x y t',ty,ps,af,g⟩ (.bool (a==b)):=fun w _=>by
 simp[execOp,hx,hy,eqGuard,run_eql_bool w t a b ht]
end bools
section plain
variable {x y:Operand}
theorem e_extract{vs:Array Value}{i:Nat}{v:Value}(hx:ev f x= .tuple vs)(hv:vs[i]? =some v):EV P β L f ⟨d,.extract x i,ty,ps,af,g⟩ v:=fun w _=>by
 simp[execOp,hx,Instr.extract,hv]
theorem e_len{a:Option Addr}{n c:Nat}{t e:TypeId}(hx:ev f x= .slice a n c)(ht:P.underlying t=some (.slice e)):EV P β L f ⟨d,.call ⟨.builtin .len,#[x],#[t]⟩,ty,ps,af,g⟩ (.int .i64 (n:Int)):=fun w _=>by
 simp[execOp,resolve,invoke,builtin,hx,Builtin.len_,goInt,run_underlying ht]
theorem e_nil{a:Addr}(hx:ev f x= .pointer (some a)):EV P β L f ⟨d,.nilCheck x,ty,ps,af,g⟩ (.pointer (some a)):=fun w _=>by
 simp[execOp,hx]
theorem e_func{fn:Fn}{a b:List Operand}{u v:List Value}(hu:a.map (ev f)=u)(hv:b.map (ev f)=v):EV P β L f ⟨d,.makeFunc fn a.toArray b.toArray,ty,ps,af,g⟩ (.func fn u.toArray v.toArray):=fun w _=>by
 simp[execOp,Instr.makeFunc,hu,hv]
end plain
end
end Go.Sl
namespace Go.Sl
open Go.RowKit
def cellAt(h:PHeap)(a:Addr):Option Value:=
 match h a.block with
 |some (.cells c _ _)=>if a.spot.isSome then none else c[a.off]?
 |_=>none
theorem cellAt_mono(a:Addr)(v:Value):Mono (fun h=>cellAt h a=some v):=by
 intro h h' hs hc
 unfold cellAt at*
 cases hb:h a.block with
 |none=>rw[hb]at hc;cases hc
 |some o=>rw[hs _ _ hb];rw[hb]at hc;exact hc
def Cs(h:PHeap)(a:Addr)(cs:List Value):Prop:=∀j v,cs[j]? =some v→cellAt h (a.add j)=some v
theorem Cs.mono(a:Addr)(cs:List Value):Mono (fun h=>Cs h a cs):=fun h h' hs hc j v hj=>cellAt_mono _ _ h h' hs (hc j v hj)
theorem Cs.of_pt{h:PHeap}{b o:Nat}{cs:Array Value}{T:TypeId}{fr:Nat×Nat}(hb:h b=some (.cells cs T fr)){vs:List Value}(hv:(cs.toList.drop o).take vs.length=vs):Cs h ⟨b,o,none⟩ vs:=by
 intro j v hj
 have e:(⟨b,o,none⟩:Addr).add j=⟨b,o+j,none⟩:=by unfold Addr.add;split<;>simp_all
 rw[e]
 have hlt:j<vs.length:=(List.getElem?_eq_some_iff.1 hj).1
 rw[←hv,List.getElem?_take_of_lt hlt,List.getElem?_drop]at hj
 simpa[cellAt,hb]using hj
theorem Addr.add_add'(a:Addr)(m n:Nat):(a.add m).add n=a.add (m+n):=by
 unfold Addr.add
 by_cases hm:m=0<;>by_cases hn:n=0<;>simp[hm,hn,Nat.add_assoc]
theorem Cs.sub{h:PHeap}{a:Addr}{cs vs:List Value}(o:Nat)(hc:Cs h a cs)(hv:(cs.drop o).take vs.length=vs):Cs h (a.add o) vs:=by
 intro j v hj
 have hlt:j<vs.length:=(List.getElem?_eq_some_iff.1 hj).1
 rw[←hv,List.getElem?_take_of_lt hlt,List.getElem?_drop]at hj
 rw[Addr.add_add'];exact hc _ _ hj
structure Rp(α:Type) where
 n:Nat
 rep:PHeap→List Value→α→Prop
 len:∀h cs x,rep h cs x→cs.length=n
 mono:∀cs x,Mono (fun h=>rep h cs x)
def Rp.flat{α:Type}(n:Nat)(enc:α→List Value)(hl:∀x,(enc x).length=n):Rp α:=
 ⟨n,fun _ cs x=>cs=enc x,fun _ _ x h=>by rw[h];exact hl x,fun _ _ _ _ _ h=>h⟩
def ba(a:Option Addr):Addr:=a.getD ⟨0,0,none⟩
def Elems{α:Type}(R:Rp α)(h:PHeap)(a:Option Addr)(xs:List α):Prop:=
 ∀j x,xs[j]? =some x→a=some (ba a)∧∃cs,Cs h ((ba a).add (j*R.n)) cs∧R.rep h cs x
theorem Elems.mono{α:Type}(R:Rp α)(a:Option Addr)(xs:List α):Mono (fun h=>Elems R h a xs):=fun h h' hs he j x hx=>
 let⟨ha,cs,hc,hr⟩:=he j x hx;⟨ha,cs,Cs.mono _ _ h h' hs hc,R.mono _ _ h h' hs hr⟩
structure Sl{α:Type}(R:Rp α)(h:PHeap)(v:Value)(xs:List α):Prop where
 get:∃a c,v= .slice a xs.length c∧xs.length≤c∧c≤9223372036854775807∧Elems R h a xs
theorem Sl.mono{α:Type}(R:Rp α)(v:Value)(xs:List α):Mono (fun h=>Sl R h v xs):=fun h h' hs ⟨a,c,e,hl,hm,he⟩=>⟨a,c,e,hl,hm,Elems.mono R a xs h h' hs he⟩
def Rp.slice{α:Type}(R:Rp α):Rp (List α):=
 ⟨1,fun h cs xs=>∃v,cs=[v]∧Sl R h v xs,fun _ _ _ ⟨_,e,_⟩=>by rw[e];rfl,fun _ _ h h' hs ⟨v,e,hv⟩=>⟨v,e,Sl.mono R v _ h h' hs hv⟩⟩
section
variable {P:Program}{β:Base}{L:List Res}{f:Fm}
variable {d:Option Tmp}{ty:TypeId}{ps:String}{af:Array Edge}{g:Option (Nat×Bool)}
theorem e_fieldAddr{x:Operand}{s k off n:Nat}{agg:Bool}{a:Addr}(hx:ev f x= .pointer (some a))(hf:fldB P s k off n agg=true):
  EV P β L f ⟨d,.fieldAddr s x k,ty,ps,af,g⟩ (.pointer (some (a.add off))):=fun w _=>by
 unfold fldB at hf
 cases hu:P.underlying s with
 |none=>rw[hu]at hf;cases hf
 |some dd=>
  rw[hu]at hf
  cases dd<;>simp only[]at hf<;>try (cases hf)
  rename_i fs
  cases hk:fs[k]? with
  |none=>rw[hk]at hf;cases hf
  |some fl=>
   rw[hk]at hf
   simp only[Bool.and_eq_true,Bool.not_eq_true',beq_eq_false_iff_ne,ne_eq,beq_iff_eq]at hf
   obtain⟨⟨ho,ht⟩,hn⟩:=hf
   have hs:=(tyF ht).size w
   simp[execOp,hx,Instr.fieldAt,run_underlying hu,hk,Instr.sureAddr,fieldPlace,hs,hn,ho]
theorem e_fieldPt{x:Operand}{s k off n:Nat}{agg:Bool}{b o:Nat}(hx:ev f x= .pointer (some ⟨b,o,none⟩))(hf:fldB P s k off n agg=true):
  EV P β L f ⟨d,.fieldAddr s x k,ty,ps,af,g⟩ (.pointer (some ⟨b,o+off,none⟩)):=by
 have h:=e_fieldAddr (P:=P) (β:=β) (L:=L) (d:=d) (ty:=ty) (ps:=ps) (af:=af) (g:=g) hx hf
 have e:(⟨b,o,none⟩:Addr).add off=⟨b,o+off,none⟩:=by unfold Addr.add;split<;>simp_all
 rwa [e]at h
theorem e_indexAddr{x y:Operand}{t e n:Nat}{k len cap:Nat}{a:Option Addr}(hx:ev f x= .slice a len cap)(hy:ev f y= .int .i64 (k:Int))(ht:slB P t e n=true)(hk:k<len)(ha:a=some (ba a)):
  EV P β L f ⟨d,.indexAddr t x y,ty,ps,af,g⟩ (.pointer (some ((ba a).add (k*n)))):=fun w _=>by
 unfold slB at ht
 simp only[Bool.and_eq_true]at ht
 obtain⟨h1,h2⟩:=ht
 cases hu:P.underlying t with
 |none=>rw[hu]at h1;cases h1
 |some dd=>
  rw[hu]at h1
  cases dd<;>simp only[]at h1<;>try (cases h1)
  rename_i e'
  have he:e'=e:=by simpa using h1
  subst he
  cases hi:P.info? e' with
  |none=>rw[hi]at h2;cases h2
  |some i=>
   rw[hi]at h2
   have hn:i.size=n:=by simpa using h2
   rw[ha]at hx
   simp only[execOp,hx,hy,Instr.indexAt,asIntOf,Sem.run_bind,run_underlying hu,Sem.run_pure,Result.andThen_ok]
   simp[hk,sizeOf,typeInfo,hi,hn]
theorem run_loadVar_cs{t:TypeId}{agg:Bool}{n:Nat}(ht:TyF P t agg n){a:Addr}{cs:List Value}{w:World}(hc:Cs (ph w) a cs)(hl:cs.length=n):
  (agg=true→(loadVar t a).run P w= .ok (.agg cs.toArray) w)∧(agg=false→∀v,cs=[v]→(loadVar t a).run P w= .ok v w):=by
 have hcell:∀j v,cs[j]? =some v→w.cell? (a.add j)=some v:=fun j v hj=>hc j v hj
 constructor
 ·rintro rfl
  have h:=run_loadCells_list (P:=P) w a cs hcell
  rw[hl]at h
  simp[loadVar,ht.agg w,ht.size w,h]
 ·rintro rfl v rfl
  have h:=hcell 0 v rfl
  rw[Addr.add_zero']at h
  simp[loadVar,ht.agg w,run_load,h]
theorem e_load{x:Operand}{t n:Nat}{a:Addr}{cs:List Value}(ht:tyB P t true n=true)(hx:ev f x= .pointer (some a))(hk:Knows β L (fun h=>Cs h a cs))(hl:cs.length=n):
  EV P β L f ⟨d,.load t x,ty,ps,af,g⟩ (.agg cs.toArray):=fun w hw=>by
 have h:=(run_loadVar_cs (tyF ht) (hw.knows hk) hl).1 rfl
 simp[execOp,hx,Instr.loadAt,Instr.sureAddr,h]
theorem e_load1{x:Operand}{t:Nat}{a:Addr}{v:Value}(ht:tyB P t false 1=true)(hx:ev f x= .pointer (some a))(hk:Knows β L (fun h=>Cs h a [v])):
  EV P β L f ⟨d,.load t x,ty,ps,af,g⟩ v:=fun w hw=>by
 have h:=(run_loadVar_cs (tyF ht) (hw.knows hk) rfl).2 rfl v rfl
 simp[execOp,hx,Instr.loadAt,Instr.sureAddr,h]
theorem k_pt{b o:Nat}{cs:Array Value}{T:TypeId}{fr:Nat×Nat}{vs:List Value}(i:Nat)(hi:L[i]? =some (pt b (.cells cs T fr)))(hv:(cs.toList.drop o).take vs.length=vs):
  Knows β L (fun h=>Cs h ⟨b,o,none⟩ vs):=Knows.of_res i hi (Cs.mono _ _) fun _ ha=>Cs.of_pt ha hv
def MV(P:Program)(β:Base)(L:List Res)(f:Fm)(o:Oper)(Post:Value→List Res→Prop):Prop:=
 ∀w,St β L w→∃v w' L',(execOp (ev f) o).run P w= .ok (.value v) w'∧St β L' w'∧Post v L'
def MU(P:Program)(β:Base)(L:List Res)(f:Fm)(o:Oper)(L':List Res):Prop:=
 ∀w,St β L w→∃w',(execOp (ev f) o).run P w= .ok .skip w'∧St β L' w'
theorem m_box{x:Operand}{t:Nat}{v:Value}(hx:ev f x=v):MV P β L f ⟨d,.box t x,ty,ps,af,g⟩ (fun u L'=>∃b,u= .pointer (some ⟨b,0,none⟩)∧L'=pt b (.cells v.cells t)::L):=fun w hw=>by
 refine⟨_,_,_,?_,hw.new (.cells v.cells t),_,rfl,rfl⟩
 simp[execOp,hx,Instr.box,newVar,newRow]
theorem m_alloc{t:Nat}{v:Value}(hz:(P.info? t).bind (·.zero)=some v):MV P β L f ⟨d,.alloc t,ty,ps,af,g⟩ (fun u L'=>∃b,u= .pointer (some ⟨b,0,none⟩)∧L'=pt b (.cells v.cells t)::L):=fun w hw=>by
 refine⟨_,_,_,?_,hw.new (.cells v.cells t),_,rfl,rfl⟩
 cases hi:P.info? t with
 |none=>rw[hi]at hz;cases hz
 |some i=>
  rw[hi]at hz
  have hz':i.zero=some v:=by simpa using hz
  simp[execOp,Instr.alloc,zeroValue,typeInfo,hi,hz',newVar,newRow]
def over(cs:Array Value)(o:Nat)(vs:List Value):Array Value:=(cs.toList.take o++vs++cs.toList.drop (o+vs.length)).toArray
theorem m_store{x y:Operand}{t T n b o:Nat}{agg:Bool}{cs cs':Array Value}{v:Value}(i:Nat)(ht:tyB P t agg n=true)(hx:ev f x= .pointer (some ⟨b,o,none⟩))(hi:L[i]? =some (pt b (.cells cs T)))
 (hy:ev f y=v)(hn:v.cells.size=n)(hfit:Nat.ble (o+n) cs.size=true)(h1:v.cells.toList.all (·.oneCell')=true)(hc:over cs o v.cells.toList=cs'):
  MU P β L f ⟨d,.store t x y,ty,ps,af,g⟩ (L.set i (pt b (.cells cs' T))):=fun w hw=>by
 have hb:=hw.pt i hi
 have hs:=(tyF ht).size w
 have hst:=run_storeCells_at P b o T v.cells.toList 0 cs w hb (by simpa[hn]using hfit) (List.all_eq_true.1 h1)
 simp only[Nat.add_zero]at hst
 refine⟨w.setRow b cs',?_,?_⟩
 ·rw[←hc]
  simp only[execOp,hx,hy,Instr.storeAt,Instr.sureAddr,Sem.run_bind,Sem.run_pure,Result.andThen_ok,storeVar,hs,hn,ne_eq,not_true_eq_false,if_false,hst,over]
 ·refine St.back i hi ((hw.front i hi).put rfl rfl rfl (setRow_heap w b cs cs' T _ hb) fun k hk _=>setRow_other w b k cs' hk)
end
end Go.Sl
namespace Go.Sl
open Go.RowKit
def row(v:Value)(T n m:Nat)(vs:List Value):Res:=fun h=>
 vs.length=m*n∧(v= .slice none 0 0∧m=0∨
  ∃g cap cur,v= .slice (some ⟨g,0,none⟩) m cap∧h g=some (.cells cur T (0,0))∧m≤cap∧cap≤maxLen∧cur.size=cap*n∧cur.toList.take (m*n)=vs)
theorem row.owns{v:Value}{T n m:Nat}{vs:List Value}{a:PHeap}{w:World}(h:row v T n m vs a)(ha:Sub a (ph w)):w.ownsRow 0 T n v m vs:=by
 obtain⟨hl,h|⟨g,cap,cur,e,hg,h1,h2,h3,h4⟩⟩:=h
 ·exact⟨hl,.inl h⟩
 ·exact⟨hl,.inr ⟨g,cap,cur,e,Nat.zero_le _,ha _ _ hg,h1,h2,h3,h4⟩⟩
theorem row_nil(T n:Nat)(a:PHeap):row (.slice none 0 0) T n 0 [] a:=⟨by simp,.inl ⟨rfl,rfl⟩⟩
theorem St.conseq{β:Base}{r r':Res}{L:List Res}{w:World}(h:St β (r::L) w)(hr:∀a,r a→r' a):St β (r'::L) w:=by
 obtain⟨a,b,c,hh,hd,hs,hs',p,q,hpq,hp,hq,hrp,hL⟩:=h
 exact⟨a,b,c,hh,hd,hs,hs',p,q,hpq,hp,hq,hr _ hrp,hL⟩
theorem St.conseq_at{β:Base}{r r':Res}{L:List Res}{w:World}(h:St β L w)(i:Nat)(hi:L[i]? =some r)(hr:∀a,r a→r' a):St β (L.set i r') w:=
 St.back i hi ((h.front i hi).conseq hr)
theorem St.emp{β:Base}{r:Res}{L:List Res}{w:World}(h:St β L w)(hr:r fun _=>none):St β (r::L) w:=
 h.grow rfl rfl rfl (fun _ _=>rfl) ⟨fun _=>none,hr,fun _ _ h=>(by cases h),fun _ _=>rfl⟩
theorem pt_row{b T n m:Nat}{cs:Array Value}(hm:m≤maxLen)(hs:cs.size=m*n)(a:PHeap)(h:pt b (.cells cs T) a):row (.slice (some ⟨b,0,none⟩) m m) T n m cs.toList a:=
 ⟨by rw[Array.length_toList];exact hs,.inr ⟨b,m,cs,rfl,h,Nat.le_refl _,hm,hs,by rw[←hs,←Array.length_toList,List.take_length]⟩⟩
section
variable {P:Program}{β:Base}{L:List Res}{f:Fm}
variable {d:Option Tmp}{ty:TypeId}{ps:String}{af:Array Edge}{g:Option (Nat×Bool)}
def elB(P:Program)(e n bytes:Nat):Bool:=
 match P.info? e with
 |some i=>i.size==n&&i.bytes==bytes&&(match i.zero with|some z=>z.cells.size==n|none=>false)&& !(n==0)
 |none=>false
theorem St.grown{T n m m':Nat}{v v':Value}{vs vs':List Value}{L:List Res}{w w':World}(h:St β (row v T n m vs::L) w)(ho:w'.ownsRow 0 T n v' m' vs')(hg:w.grownBy w' v.ownBlock)
 (hnew:v'.ownBlock=none∨v'.ownBlock=v.ownBlock∨∀k,v'.ownBlock=some k→w.heap.size≤k)(hdr:w.drawn≤w'.drawn):St β (row v' T n m' vs'::L) w':=by
 refine h.turn hg.os hg.tape hg.output (fun a ha hr=> ?_) hdr
 have keep:∀k,k<w.heap.size→a k=none→w'.heap[k]? =w.heap[k]? :=fun k hk hak=>hg.block k hk fun e=>by
  obtain⟨_,⟨rfl,_⟩|⟨b,cap,cur,rfl,hb,_⟩⟩:=hr
  ·cases e
  ·simp only[Value.ownBlock,Option.some.injEq]at e
   subst e;rw[hb]at hak;cases hak
 obtain⟨hl,⟨rfl,hm0⟩|⟨b',cap',cur',rfl,_,hb',h1,h2,h3,h4⟩⟩:=ho
 ·exact⟨fun _=>none,⟨hl,.inl ⟨rfl,hm0⟩⟩,fun _ _ h=>(by cases h),fun k hk hak=>⟨rfl,keep k hk hak⟩⟩
 ·refine⟨fun k=>if k=b' then some (.cells cur' T (0,0))else none,⟨hl,.inr ⟨b',cap',cur',rfl,by simp,h1,h2,h3,h4⟩⟩,?_,?_⟩
  ·intro k o ho
   by_cases e:k=b'
   ·subst e;simp at ho;subst ho;exact hb'
   ·simp[e]at ho
  ·intro k hk hak
   refine⟨?_,keep k hk hak⟩
   have:k≠b':=by
    rintro rfl
    rcases hnew with h|h|h
    ·cases h
    ·obtain⟨_,⟨rfl,_⟩|⟨b,cap,cur,rfl,hb,_⟩⟩:=hr
     ·cases h
     ·simp only[Value.ownBlock,Option.some.injEq]at h
      subst h;rw[hb]at hak;cases hak
    ·have:=h k rfl;omega
   simp[this]
theorem run_append_row{t e n bytes:Nat}(hsl:slB P t e n=true)(hel:elB P e n bytes=true){v:Value}{m:Nat}{vs:List Value}{w:World}(hown:w.ownsRow 0 e n v m vs)
 (ad:Addr)(k c:Nat)(news:List Value)(hl:news.length=k*n)(hnews:Cs (ph w) ad news)(h1:news.all (·.oneCell')=true)(h63:m+k≤maxLen)(hby:(m+k)*bytes≤140737488355328)(ty:TypeId):
  ∃v' w',(Builtin.append_ #[t,t] ty #[v,.slice (some ad) k c]).run P w= .ok v' w'∧w'.ownsRow 0 e n v' (m+k) (vs++news)∧w.grownBy w' v.ownBlock∧(v'= .slice none 0 0↔v= .slice none 0 0∧k=0)∧
   (v'.ownBlock=none∨v'.ownBlock=v.ownBlock∨∀b,v'.ownBlock=some b→w.heap.size≤b)∧w.drawn≤w'.drawn:=by
 unfold slB at hsl
 simp only[Bool.and_eq_true]at hsl
 obtain⟨hs1,hs2⟩:=hsl
 unfold elB at hel
 cases hu:P.underlying t with
 |none=>rw[hu]at hs1;cases hs1
 |some dd=>
  rw[hu]at hs1
  cases dd<;>simp only[]at hs1<;>try (cases hs1)
  rename_i e'
  have he:e'=e:=by simpa using hs1
  subst he
  cases hi:P.info? e' with
  |none=>rw[hi]at hs2;cases hs2
  |some i=>
   rw[hi]at hel
   simp only[Bool.and_eq_true,beq_iff_eq,Bool.not_eq_true',beq_eq_false_iff_ne,ne_eq]at hel
   obtain⟨⟨⟨hn,hb⟩,hz⟩,hn0⟩:=hel
   cases hzz:i.zero with
   |none=>rw[hzz]at hz;cases hz
   |some z=>
    rw[hzz]at hz
    have hz':z.cells.size=n:=by simpa using hz
    have hsub:∃v' w',(Builtin.append_ #[t,t] ty #[v,.slice (some ad) k c]).run P w= .ok v' w'∧w'.ownsRow 0 e' n v' (m+k) (vs++news)∧w.grownBy w' v.ownBlock∧(v'= .slice none 0 0↔v= .slice none 0 0∧k=0):=
     run_append_own (P:=P) w 0 t ty e' i z n bytes hu hi hzz hn hb hz' (by omega) v m vs hown ad k c news hl hnews (List.all_eq_true.1 h1) h63 hby (Nat.zero_le _)
    obtain⟨v',w',hr,ho,hg,hnil⟩:=hsub
    refine⟨v',w',hr,ho,hg,hnil,?_⟩
    have hown':=hown
    subst hn
    subst hb
    rcases hown.2 with⟨rfl,rfl⟩|⟨g,cap,cur,rfl,hbg,hgg,hnc,hcm,hcs,htake⟩
    ·by_cases hk:k=0
     ·have:=hnil.2 ⟨rfl,hk⟩
      subst this
      have hk0:=hk
      subst hk0
      have hn0:news=[]:=List.eq_nil_of_length_eq_zero (by simpa using hl)
      subst hn0
      have hx:(Builtin.append_ #[t,t] ty #[.slice none 0 0,.slice (some ad) 0 c]).run P w= .ok (.slice none 0 0) w:=by
       simp[Builtin.append_,run_underlying hu,sizeOf,typeInfo,hi,Builtin.lenOf,Builtin.firstCells,loadCells,loadCellsFrom]
      rw[hr]at hx
      injection hx with hx1 hx2
      exact⟨.inl rfl,by rw[hx2];exact Nat.le_refl _⟩
     ·have hby':k*i.bytes≤281474976710656:=by simp only[Nat.zero_add]at hby;omega
      have h63':k≤9223372036854775807:=by simp only[maxLen]at h63;omega
      have hx:=run_append_nil (P:=P) w t ty e' i z hu hi hzz ad k c news hl hnews (by omega) (by omega) hby'
      rw[hr]at hx
      injection hx with hx1 hx2
      subst hx1
      exact⟨.inr (.inr fun b hb=>by simp[Value.ownBlock]at hb;omega),by rw[hx2];exact Nat.le_succ _⟩
    ·by_cases hroom:m+k≤cap
     ·have hfit:m*i.size+news.length≤cur.size:=by rw[hl,hcs,←Nat.add_mul];exact Nat.mul_le_mul_right _ hroom
      have hx:=run_append_room (P:=P) w t ty e' i hu hi g m cap cur hgg ad k c news hl hnews (List.all_eq_true.1 h1) hroom hfit
      rw[hr]at hx
      injection hx with hx1 hx2
      subst hx1
      exact⟨.inr (.inl rfl),by rw[hx2];exact Nat.le_refl _⟩
     ·have holds:∀j u,vs[j]? =some u→w.cell? ((⟨g,0,none⟩:Addr).add j)=some u:=hown'.cells (g:=g) rfl
      have h63':m+k≤9223372036854775807:=by simp only[maxLen]at h63;omega
      have hx:=run_append_grow (P:=P) w t ty e' i z hu hi hzz ⟨g,0,none⟩ m cap vs hown'.1 holds ad k c news hl hnews (by omega) (by omega) (growslice_fits (by omega) hby)
      rw[hr]at hx
      injection hx with hx1 hx2
      subst hx1
      exact⟨.inr (.inr fun b hb=>by simp[Value.ownBlock]at hb;omega),by rw[hx2];exact Nat.le_succ _⟩
theorem m_append{x y:Operand}{t e n bytes m k c:Nat}{v:Value}{vs news:List Value}{ad:Addr}(i:Nat)(hsl:slB P t e n=true)(hel:elB P e n bytes=true)(hx:ev f x=v)(hi:L[i]? =some (row v e n m vs))
 (hy:ev f y= .slice (some ad) k c)(hl:news.length=k*n)(hnews:Knows β L (fun h=>Cs h ad news))(h1:news.all (·.oneCell')=true)(h63:m+k≤maxLen)(hby:(m+k)*bytes≤140737488355328):
  MV P β L f ⟨d,.call ⟨.builtin .append,#[x,y],#[t,t]⟩,ty,ps,af,g⟩ (fun v' L'=>(v'= .slice none 0 0↔v= .slice none 0 0∧k=0)∧L'=L.set i (row v' e n (m+k) (vs++news))):=fun w hw=>by
 have hown:w.ownsRow 0 e n v m vs:=hw.knows (F:=fun h=>row v e n m vs h∨True) (fun _ _ _=> .inr trivial)|>fun _=>by
  obtain⟨a,ha,hr⟩:∃a,Sub a (ph w)∧row v e n m vs a:=by
   obtain⟨_,_,_,hh,hd,hs,hs',hL⟩:=hw
   obtain⟨a,ha,hr⟩:=hL.each _ (List.mem_of_getElem? hi)
   exact⟨a,ha.trans hs',hr⟩
  exact hr.owns ha
 obtain⟨v',w',hr,ho,hg,hnil,hnew,hdr⟩:=run_append_row (P:=P) hsl hel hown ad k c news hl (hw.knows hnews) h1 h63 hby ty
 refine⟨v',w',_,?_,St.back i hi ((hw.front i hi).grown ho hg hnew hdr),hnil,rfl⟩
 simp only[execOp,resolve,invoke,builtin,Sem.run_bind,Sem.run_pure,Result.andThen_ok,List.map_toArray,List.map_cons,List.map_nil,hx,hy,hr]
theorem m_append_nil{x y:Operand}{t e n m:Nat}{v:Value}{vs:List Value}{ao:Option Addr}{c:Nat}(i:Nat)(hsl:slB P t e n=true)(hx:ev f x=v)(hi:L[i]? =some (row v e n m vs))(hy:ev f y= .slice ao 0 c):
  MV P β L f ⟨d,.call ⟨.builtin .append,#[x,y],#[t,t]⟩,ty,ps,af,g⟩ (fun v' L'=>v'=v∧L'=L):=fun w hw=>by
 refine⟨v,w,L,?_,hw,rfl,rfl⟩
 obtain⟨a,ha,hr⟩:∃a,Sub a (ph w)∧row v e n m vs a:=by
  obtain⟨_,_,_,hh,hd,hs,hs',hL⟩:=hw
  obtain⟨a,ha,hr⟩:=hL.each _ (List.mem_of_getElem? hi)
  exact⟨a,ha.trans hs',hr⟩
 unfold slB at hsl
 simp only[Bool.and_eq_true]at hsl
 obtain⟨hs1,hs2⟩:=hsl
 cases hu:P.underlying t with
 |none=>rw[hu]at hs1;cases hs1
 |some dd=>
  rw[hu]at hs1
  cases dd<;>simp only[]at hs1<;>try (cases hs1)
  rename_i e'
  have he:e'=e:=by simpa using hs1
  subst he
  cases hii:P.info? e' with
  |none=>rw[hii]at hs2;cases hs2
  |some i=>
   have hfirst:∀w,(Builtin.firstCells i.size 0 (.slice ao 0 c)).run P w= .ok #[] w:=fun w=>by
    cases ao<;>simp[Builtin.firstCells,loadCells,loadCellsFrom]
   have key:∀(b:Option Addr) (m cap:Nat),m≤cap→(Builtin.append_ #[t,t] ty #[.slice b m cap,.slice ao 0 c]).run P w= .ok (.slice b m cap) w:=fun b m cap hm=>by
    simp[Builtin.append_,run_underlying hu,sizeOf,typeInfo,hii,Builtin.lenOf,hm,hfirst]
    cases b<;>simp[storeCells]
   have hv:(Builtin.append_ #[t,t] ty #[v,.slice ao 0 c]).run P w= .ok v w:=by
    obtain⟨_,⟨rfl,_⟩|⟨b,cap,cur,rfl,_,hm,_⟩⟩:=hr
    ·exact key none 0 0 (Nat.le_refl _)
    ·exact key _ m cap hm
   simp only[execOp,resolve,invoke,builtin,Sem.run_bind,Sem.run_pure,Result.andThen_ok,List.map_toArray,List.map_cons,List.map_nil,hx,hy,hv]
theorem slB_split{t e n:Nat}(h:slB P t e n=true):P.underlying t=some (.slice e)∧∃i,P.info? e=some i∧i.size=n:=by
 unfold slB at h
 simp only[Bool.and_eq_true]at h
 obtain⟨h1,h2⟩:=h
 cases hu:P.underlying t with
 |none=>rw[hu]at h1;cases h1
 |some dd=>
  rw[hu]at h1
  cases dd<;>simp only[]at h1<;>try (cases h1)
  rename_i e'
  have he:e'=e:=by simpa using h1
  subst he
  cases hi:P.info? e' with
  |none=>rw[hi]at h2;cases h2
  |some i=>rw[hi]at h2;exact⟨rfl,i,rfl,by simpa using h2⟩
theorem m_slice{t e n len:Nat}{parts:List (Nat×Operand)}{z:Value}{vs:List (Nat×Value)}{cells:Array Value}(hsl:slB P t e n=true)(hz:(P.info? e).bind (·.zero)=some z)
 (hp:(parts.map fun(i,x)=>(i,ev f x))=vs)(hs:(Nat.ble 1 (len*n)&&Nat.ble (len*n) 16777216)=true)
 (hf:Instr.fill (fun i=>some (i*n,n)) ((Array.range (len*n)).map (z.cells[· %z.cells.size]!)) vs=some cells):
  MV P β L f ⟨d,.buildSlice t len parts.toArray,ty,ps,af,g⟩ (fun u L'=>∃b,u= .slice (some ⟨b,0,none⟩) len len∧L'=pt b (.cells cells e)::L):=fun w hw=>by
 obtain⟨hu,i,hi,hn⟩:=slB_split hsl
 simp only[Bool.and_eq_true,Nat.ble_eq]at hs
 have hz':i.zero=some z:=by rw[hi]at hz;simpa using hz
 refine⟨_,_,_,?_,hw.new (.cells cells e),_,rfl,rfl⟩
 have h1:¬(16777216<len*n):=by omega
 have h2:¬(len*n=0):=by omega
 have hzv:∀w,(zeroValue e).run P w= .ok z w:=fun w=>by simp[zeroValue,typeInfo,hi,hz']
 simp only[execOp,Instr.buildSlice,Sem.run_bind,run_underlying hu,Result.andThen_ok,sizeOf,typeInfo,run_program,hi,Sem.run_pure,hn,Nat.reducePow,gt_iff_lt,h1,if_false,h2,hzv,Array.toList_map]at hf⊢
 simp only[hp,hf]
 simp[newRow]
end
end Go.Sl
namespace Go.Sl
open Go.RowKit
section
variable {P:Program}{ro:Option Nat}{n:Nat}{ds:List Deferred}{β:Base}{Q:Exit→Act→World→Prop}{f:Fm}{L:List Res}{ops:Array Oper}{rest:List Oper}{o:Oper}
theorem l_val{d:Nat}{v:Value}(hg:o.guard=none)(hd:o.dst=some d)(hn:Nat.blt d n=true)(h:EV P β L f o v)(k:RunL P ro n ds β ops Q rest (upd f d v) L):RunL P ro n ds β ops Q (o::rest) f L:=
 l_step hg (s_val hd hn h k)
theorem l_mv{d:Nat}{Post:Value→List Res→Prop}(hg:o.guard=none)(hd:o.dst=some d)(hn:Nat.blt d n=true)(h:MV P β L f o Post)(k:∀v L',Post v L'→RunL P ro n ds β ops Q rest (upd f d v) L'):RunL P ro n ds β ops Q (o::rest) f L:=
 l_step hg (s_mem hd hn fun w hw=>let⟨v,w',L',hr,hw',hp⟩:=h w hw;⟨v,w',L',hr,hw',k v L' hp⟩)
theorem l_mu{L':List Res}(hg:o.guard=none)(hd:o.dst=none)(h:MU P β L f o L')(k:RunL P ro n ds β ops Q rest f L'):RunL P ro n ds β ops Q (o::rest) f L:=
 l_step hg (s_unit hd fun w hw=>let⟨w',hr,hw'⟩:=h w hw;⟨w',L',hr,hw',k⟩)
theorem g_val{d j e:Nat}{b:Bool}{v:Value}(hg:o.guard=some (j,b))(ho:(ops[j]?).bind (·.dst)=some e)(hf:f e= .bool b)(hd:o.dst=some d)(hn:Nat.blt d n=true)(h:EV P β L f o v)(k:RunL P ro n ds β ops Q rest (upd f d v) L):RunL P ro n ds β ops Q (o::rest) f L:=
 l_take hg ho hf (s_val hd hn h k)
theorem g_mv{d j e:Nat}{b:Bool}{Post:Value→List Res→Prop}(hg:o.guard=some (j,b))(ho:(ops[j]?).bind (·.dst)=some e)(hf:f e= .bool b)(hd:o.dst=some d)(hn:Nat.blt d n=true)(h:MV P β L f o Post)
 (k:∀v L',Post v L'→RunL P ro n ds β ops Q rest (upd f d v) L'):RunL P ro n ds β ops Q (o::rest) f L:=
 l_take hg ho hf (s_mem hd hn fun w hw=>let⟨v,w',L',hr,hw',hp⟩:=h w hw;⟨v,w',L',hr,hw',k v L' hp⟩)
def cfB(P:Program)(g:FuncId):Bool:=match P.funcs[g]? with|some fn=> !(fn.name=="runtime.NumGoroutine")&&fn.body.isSome|none=>false
theorem run_callF{g:FuncId}(h:cfB P g=true)(args:Array Value)(w:World):(callFunc g args).run P w= .ok (.enter g args) w:=by
 unfold cfB at h
 cases hf:P.funcs[g]? with
 |none=>rw[hf]at h;cases h
 |some fn=>
  rw[hf]at h
  simp only[Bool.and_eq_true,Bool.not_eq_true']at h
  cases hb:fn.body with
  |none=>rw[hb]at h;simp at h
  |some c=>
   simp[callFunc,hf,hb]
   exact beq_eq_false_iff_ne.1 h.1
def CL(P:Program)(f:Fm)(o:Oper)(g:FuncId)(args:Array Value):Prop:=∀w,(execOp (ev f) o).run P w= .ok (.enter g args) w
theorem cl_value{d:Option Tmp}{ty:TypeId}{ps:String}{af:Array Edge}{gd:Option (Nat×Bool)}{c:Operand}{xs:List Operand}{ts:Array TypeId}{g:FuncId}{fst cap vs all:List Value}
 (hg:cfB P g=true)(hx:ev f c= .func (.func g) fst.toArray cap.toArray)(ha:xs.map (ev f)=vs)(hall:fst++vs++cap=all):CL P f ⟨d,.call ⟨.value c,xs.toArray,ts⟩,ty,ps,af,gd⟩ g all.toArray:=fun w=>by
 simp[execOp,resolve,invoke,hx,Deferred.ofValue,ha,run_callF hg,←hall]
theorem l_call{d:Nat}{g:FuncId}{args:Array Value}(hgd:o.guard=none)(hd:o.dst=some d)(hn:Nat.blt d n=true)(he:CL P f o g args)
 (hc:∀w,St β L w→Calls P g args w fun e w'=>∃v,e= .returned v∧∃L',St β L' w'∧RunL P ro n ds β ops Q rest (upd f d v) L'):RunL P ro n ds β ops Q (o::rest) f L:=
 l_step hgd (s_call hd hn he hc)
theorem g_call{d j e:Nat}{b:Bool}{g:FuncId}{args:Array Value}(hgd:o.guard=some (j,b))(ho:(ops[j]?).bind (·.dst)=some e)(hf:f e= .bool b)(hd:o.dst=some d)(hn:Nat.blt d n=true)(he:CL P f o g args)
 (hc:∀w,St β L w→Calls P g args w fun e w'=>∃v,e= .returned v∧∃L',St β L' w'∧RunL P ro n ds β ops Q rest (upd f d v) L'):RunL P ro n ds β ops Q (o::rest) f L:=
 l_take hgd ho hf (s_call hd hn he hc)
theorem St.frame_all{w:World}(h:St β L w):∃β₁:Base,Sub β.heap β₁.heap∧(∀F,Knows β L F→F β₁.heap)∧St β₁ [] w∧∀L' w',St β₁ L' w'→St β (L'++L) w':=St.frame (L:=[]) h
def RunQ(P:Program)(n:Nat)(ds:List Deferred)(β:Base)(ops:Array Oper)(Q:Exit→Act→World→Prop)(rest:List Oper)(f:Fm)(L:List Res):Prop:=
 ∀a,At n ds f a→wpQuiet P ops (fun w=>St β L w) (fun a'=>∀w',St β L w'→Q .normal a' w') rest a
theorem c_quiet{id:Nat}{l:List Oper}(hm:P.follows .mixedOrders=true)(hB:Region.lexB .any l.toArray=true)(h:RunQ P n ds β l.toArray Q l f L):RunC P none n ds β (.region id l.toArray true) Q f L:=
 fun a _ ha hw=>wpIn_wide.2<|wp_region_quiet (C:=fun w=>St β L w) hm hB hw.drew (by simpa using h a ha)
theorem q_nil(h:Fin n ds β Q .normal f L):RunQ P n ds β ops Q [] f L:=fun a ha=>wpQuiet_nil fun w hw=>h a w ha hw
theorem q_step{d:Nat}{v:Value}(hw:∀a,At n ds f a→Region.wanted o (Go.yielded ops a.tmps)=true)(hd:o.dst=some d)(hn:Nat.blt d n=true)
 (h:∀a,At n ds f a→∀w,St β L w→o.quietAt P a (fun w=>St β L w) w v)(k:RunQ P n ds β ops Q rest (upd f d v) L):RunQ P n ds β ops Q (o::rest) f L:=by
 intro a ha
 unfold wpQuiet
 rw[if_pos (hw a ha)]
 refine⟨v,h a ha,?_⟩
 rw[hd]
 exact k _ (ha.put hn v)
theorem wanted_none(hg:o.guard=none)(a:Act)(_:At n ds f a):Region.wanted o (Go.yielded ops a.tmps)=true:=by simp[Region.wanted,hg]
theorem wanted_take{j e:Nat}{b:Bool}(hg:o.guard=some (j,b))(ho:(ops[j]?).bind (·.dst)=some e)(hf:f e= .bool b)(a:Act)(ha:At n ds f a):Region.wanted o (Go.yielded ops a.tmps)=true:=by
 simp[Region.wanted,hg,ha.yielded ops j b e ho hf]
theorem quiet_ev{v:Value}(h:EV P β L f o v)(a:Act)(ha:At n ds f a)(w:World)(hw:St β L w):o.quietAt P a (fun w=>St β L w) w v:=by
 unfold Oper.quietAt
 rw[ha.eval,h w hw]
 exact⟨rfl,rfl⟩
theorem quiet_call{v:Value}{g:FuncId}{args:Array Value}(he:CL P f o g args)(hc:∀w,St β L w→Calls P g args w fun e w'=>e= .returned v∧St β L w')(a:Act)(ha:At n ds f a)(w:World)(hw:St β L w):
  o.quietAt P a (fun w=>St β L w) w v:=by
 unfold Oper.quietAt
 rw[ha.eval,he w]
 exact⟨rfl,hc w hw⟩
theorem q_val{d:Nat}{v:Value}(hg:o.guard=none)(hd:o.dst=some d)(hn:Nat.blt d n=true)(h:EV P β L f o v)(k:RunQ P n ds β ops Q rest (upd f d v) L):RunQ P n ds β ops Q (o::rest) f L:=
 q_step (wanted_none hg) hd hn (quiet_ev h) k
theorem qg_val{d j e:Nat}{b:Bool}{v:Value}(hg:o.guard=some (j,b))(ho:(ops[j]?).bind (·.dst)=some e)(hf:f e= .bool b)(hd:o.dst=some d)(hn:Nat.blt d n=true)(h:EV P β L f o v)(k:RunQ P n ds β ops Q rest (upd f d v) L):RunQ P n ds β ops Q (o::rest) f L:=
 q_step (wanted_take hg ho hf) hd hn (quiet_ev h) k
theorem q_call{d:Nat}{v:Value}{g:FuncId}{args:Array Value}(hg:o.guard=none)(hd:o.dst=some d)(hn:Nat.blt d n=true)(he:CL P f o g args)(hc:∀w,St β L w→Calls P g args w fun e w'=>e= .returned v∧St β L w')
 (k:RunQ P n ds β ops Q rest (upd f d v) L):RunQ P n ds β ops Q (o::rest) f L:=
 q_step (wanted_none hg) hd hn (quiet_call he hc) k
theorem qg_call{d j e:Nat}{b:Bool}{v:Value}{g:FuncId}{args:Array Value}(hg:o.guard=some (j,b))(ho:(ops[j]?).bind (·.dst)=some e)(hf:f e= .bool b)(hd:o.dst=some d)(hn:Nat.blt d n=true)(he:CL P f o g args)
 (hc:∀w,St β L w→Calls P g args w fun e w'=>e= .returned v∧St β L w')(k:RunQ P n ds β ops Q rest (upd f d v) L):RunQ P n ds β ops Q (o::rest) f L:=
 q_step (wanted_take hg ho hf) hd hn (quiet_call he hc) k
theorem q_skip{j d e:Nat}{b b':Bool}(hg:o.guard=some (j,b'))(ho:(ops[j]?).bind (·.dst)=some d)(hf:f d= .bool b)(hb:(b==b')=false)
 (hd:o.dst=some e)(he:Nat.blt e n=true)(h:RunQ P n ds β ops Q rest (upd f e undef) L):RunQ P n ds β ops Q (o::rest) f L:=by
 intro a ha
 have hy:=ha.yielded ops j b d ho hf
 unfold wpQuiet
 rw[if_neg (by simp[Region.wanted,hg,hy];simpa using hb),hd]
 exact h _ (ha.put he undef)
theorem enter{g:FuncId}{fn:Func}{c:Code}{args:Array Value}{w:World}{R:Ending→World→Prop}(hf:P.funcs[g]? =some fn)(hb:fn.body=some c)(hn:fn.ntmps=n)(hs:Nat.ble args.size n=true)
 (h:RunC P none n [] β c (bodyPost P fn R) (initF args) L)(hw:St β L w):Calls P g args w R:=by
 refine calls_of_wp hf hb (wpIn_wide.1 (h _ w ⟨rfl,?_,fun i=> ?_⟩ hw))
 ·rw[hn]
  have:args.size≤n:=by simpa using hs
  simp;omega
 ·simp only[initF,Array.getD_eq_getD_getElem?]
  by_cases hi:i<args.size
  ·rw[Array.getElem?_append_left hi]
  ·rw[Array.getElem?_append_right (by omega),Array.getElem?_eq_none (by omega:args.size≤i)]
   by_cases hj:i-args.size<fn.ntmps-args.size
   ·simp[hj]
   ·simp[hj]
theorem At.result{a:Act}(h:At n ds f a)(t:Nat):a.tmps.getD t undef=f t:=h.get t
theorem ret0{fn:Func}{R:Ending→World→Prop}(hr:fn.results= #[])(h:∀w,St β L w→R (.returned (.tuple #[])) w):Fin n [] β (bodyPost P fn R) .ret f L:=
 fun _ w ha hw=>bodyPost_ret (results_none hr _ _ _) ha.defers (h w hw)
theorem end0{fn:Func}{R:Ending→World→Prop}(hr:fn.results= #[])(h:∀w,St β L w→R (.returned (.tuple #[])) w):Fin n [] β (bodyPost P fn R) .normal f L:=
 fun _ w ha hw=>bodyPost_end (results_none hr _ _ _) ha.defers (h w hw)
theorem ret1{fn:Func}{R:Ending→World→Prop}{t:Nat}{v:Value}(hr:fn.results= #[.tmp t])(hv:f t=v)(h:∀w,St β L w→R (.returned v) w):Fin n [] β (bodyPost P fn R) .ret f L:=
 fun _ w ha hw=>bodyPost_ret (v:=v) (by rw[results_tmp hr,ha.result,hv]) ha.defers (h w hw)
theorem ret2{fn:Func}{R:Ending→World→Prop}{t u:Nat}{v v':Value}(hr:fn.results= #[.tmp t,.tmp u])(hv:f t=v)(hv':f u=v')(h:∀w,St β L w→R (.returned (.tuple #[v,v'])) w):Fin n [] β (bodyPost P fn R) .ret f L:=
 fun _ w ha hw=>bodyPost_ret (v:= .tuple #[v,v']) (by rw[results_tmp2 hr,ha.result,ha.result,hv,hv']) ha.defers (h w hw)
end
end Go.Sl
namespace Go.Sl
abbrev Bx(x:UInt8):Value:= .int .u8 (x.toNat:Int)
abbrev Ix(x:Int):Value:= .int .i64 x
abbrev Nx(n:Nat):Value:= .int .i64 (n:Int)
theorem i64w{z:Int}(h: -9223372036854775808≤z∧z≤9223372036854775807):IntKind.i64.wrap z=z:=by
 simp only[IntKind.wrap,IntKind.bits,IntKind.signed]
 simp
 omega
theorem i64n{z:Int}{m:Nat}(h:z=(m:Int))(hm:m≤9223372036854775807):IntKind.i64.wrap z=(m:Int):=by
 rw[h];exact i64w (by omega)
theorem upd_eq{f:Fm}{d:Nat}{v:Value}(h:f d=v):upd f d v=f:=by
 funext i
 unfold upd
 cases hb:Nat.beq i d with
 |false=>rfl
 |true=>have:=Nat.eq_of_beq_eq_true hb;subst this;exact h.symm
section
variable {P:Program}{ro:Option Nat}{n:Nat}{ds:List Deferred}{β:Base}{Q:Exit→Act→World→Prop}{f:Fm}{L:List Res}{ops:Array Oper}{rest:List Oper}{c:Code}
theorem rebase{d:Nat}{v:Value}(h:f d=v)(k:RunC P ro n ds β c Q (upd f d v) L):RunC P ro n ds β c Q f L:=by rw[←upd_eq h];exact k
theorem l_split{s:Nat}{p:Prop}[Decidable p](hs:f s= .bool (decide p))(ht:p→RunL P ro n ds β ops Q rest (upd f s (.bool true)) L)(hf:¬p→RunL P ro n ds β ops Q rest (upd f s (.bool false)) L):RunL P ro n ds β ops Q rest f L:=by
 by_cases hp:p
 ·have h:=ht hp;rw[upd_eq (by rw[hs,decide_eq_true hp])]at h;exact h
 ·have h:=hf hp;rw[upd_eq (by rw[hs,decide_eq_false hp])]at h;exact h
theorem q_split{s:Nat}{p:Prop}[Decidable p](hs:f s= .bool (decide p))(ht:p→RunQ P n ds β ops Q rest (upd f s (.bool true)) L)(hf:¬p→RunQ P n ds β ops Q rest (upd f s (.bool false)) L):RunQ P n ds β ops Q rest f L:=by
 by_cases hp:p
 ·have h:=ht hp;rw[upd_eq (by rw[hs,decide_eq_true hp])]at h;exact h
 ·have h:=hf hp;rw[upd_eq (by rw[hs,decide_eq_false hp])]at h;exact h
theorem l_splitb{s:Nat}{b:Bool}(hs:f s= .bool b)(ht:b=true→RunL P ro n ds β ops Q rest (upd f s (.bool true)) L)(hf:b=false→RunL P ro n ds β ops Q rest (upd f s (.bool false)) L):RunL P ro n ds β ops Q rest f L:=by
 cases b
 ·have h:=hf rfl;rw[upd_eq hs]at h;exact h
 ·have h:=ht rfl;rw[upd_eq hs]at h;exact h
theorem q_splitb{s:Nat}{b:Bool}(hs:f s= .bool b)(ht:b=true→RunQ P n ds β ops Q rest (upd f s (.bool true)) L)(hf:b=false→RunQ P n ds β ops Q rest (upd f s (.bool false)) L):RunQ P n ds β ops Q rest f L:=by
 cases b
 ·have h:=hf rfl;rw[upd_eq hs]at h;exact h
 ·have h:=ht rfl;rw[upd_eq hs]at h;exact h
def mask{α:Type _}(l:List α):List Bool→List α
 |[]=>l
 |b::m=>match l with
  |[]=>[]
  |a::l=>if b then a::mask l m else mask l m
  termination_by structural m=>m
theorem mask_sub{α:Type _}:∀(m:List Bool) (l:List α),(mask l m).Sublist l
 |[],l=>by unfold mask;exact List.Sublist.refl l
 |_::m,[]=>by unfold mask;exact List.Sublist.slnil
 |true::m,a::l=>by unfold mask;exact(mask_sub m l).cons_cons a
 |false::m,a::l=>by unfold mask;exact(mask_sub m l).cons a
theorem c_mask(m:List Bool){L':List Res}(hm:mask L m=L')(k:RunC P ro n ds β c Q f L'):RunC P ro n ds β c Q f L:=fun a w ha hw=>k a w ha (by subst hm;exact hw.drop (mask_sub m L))
theorem f_mask{e:Exit}(m:List Bool){L':List Res}(hm:mask L m=L')(k:Fin n ds β Q e f L'):Fin n ds β Q e f L:=fun a w ha hw=>k a w ha (by subst hm;exact hw.drop (mask_sub m L))
theorem st_mask{w:World}(m:List Bool){L':List Res}(hm:mask L m=L')(hw:St β L w):St β L' w:=by subst hm;exact hw.drop (mask_sub m L)
theorem c_emp{r:Res}(hr:r fun _=>none)(k:RunC P ro n ds β c Q f (r::L)):RunC P ro n ds β c Q f L:=fun a w ha hw=>k a w ha (hw.emp hr)
theorem l_conseq{r r':Res}(i:Nat)(hi:L[i]? =some r)(hr:∀a,r a→r' a)(k:RunL P ro n ds β ops Q rest f (L.set i r')):RunL P ro n ds β ops Q rest f L:=fun a w ha hw=>k a w ha (hw.conseq_at i hi hr)
end
end Go.Sl
