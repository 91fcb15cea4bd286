/-
  Own work; plain Lean (HvOrd, HvNet, HvPass, HvMove, HvNetR, HvRet, HvOnce, HvTorn, HvNetB, HvTown, HvFind).
-/
import Derived.Test.YtmhlglginimmnaaGreatDoorHv27
set_option linter.all false
namespace Go.Hv
open Go Go.Sl Go.Proofs
theorem right_thE{id tag:Int}(h:1≤id∧id≤65536)(h2: -2147483648≤tag∧tag≤2147483647):rightE (thE id tag)=true:=by
 unfold rightE
 rw[decide_eq_true h.1,decide_eq_true h.2]
 have h3:fitC ⟨10,tag,0,0,0⟩=true:=by
  unfold fitC
  rw[if_neg (show ¬((10:UInt8).toNat<1∨10<(10:UInt8).toNat) by decide)]
  show fitK (rg4 (-2147483648) 2147483647) ⟨10,tag,0,0,0⟩=true
  unfold fitK outR
  simp[h2.1,h2.2]
 simp[risB,h3]
end Go.Hv
namespace Go.Hv
open Go Go.Sl Go.Proofs
def gt(Xs:List KG)(a:Nat):KG:=Xs.getD a (freshG 0)
theorem gt_of{Xs:List KG}{a:Nat}{X:KG}(h:Xs[a]? =some X):gt Xs a=X:=by unfold gt;rw[List.getD_eq_getElem?_getD,h];rfl
theorem gt_get{Xs:List KG}{a:Nat}(h:a<Xs.length):Xs[a]? =some (gt Xs a):=by unfold gt;rw[List.getD_eq_getElem?_getD,List.getElem?_eq_getElem h];rfl
theorem gt_self{Xs:List KG}{a:Nat}{X:KG}(h:a<Xs.length):gt (Xs.set a X) a=X:=gt_of (List.getElem?_set_self h)
theorem gt_ne{Xs:List KG}{a b:Nat}{X:KG}(h:a≠b):gt (Xs.set a X) b=gt Xs b:=by
 unfold gt;rw[List.getD_eq_getElem?_getD,List.getD_eq_getElem?_getD,List.getElem?_set_ne h]
theorem gt_setSame{Xs:List KG}{a:Nat}(h:a<Xs.length):Xs.set a (gt Xs a)=Xs:=by
 refine List.ext_getElem? fun i=> ?_
 by_cases e:a=i
 ·subst e;rw[List.getElem?_set_self h,gt_get h]
 ·rw[List.getElem?_set_ne e]
abbrev ix(a:Nat):Int:=((a+1:Nat):Int)
def Way(Xs:List KG)(a:Nat)(m:KMs):Prop:=m∈(gt Xs a).out∧(gt Xs (m.to.toNat-1)).lv.at (a+1)<m.number
theorem ixto{b:Nat}{t:Int}(h:t=ix b):t.toNat-1=b:=by subst h;show((b+1:Nat):Int).toNat-1=b;omega
structure Net(n:Nat)(Xs:List KG):Prop where
 n6:n≤6
 len:Xs.length=n
 ok:∀a,a<n→(∃N,XOk (gt Xs a) N)∧(gt Xs a).zone=ix a
 le:∀a b,a<n→b<n→a≠b→(gt Xs b).lv.at (a+1)≤(gt Xs a).gv.at (b+1)
 all:∀a b,a<n→b<n→a≠b→∀k:Int,(gt Xs b).lv.at (a+1)<k→k≤(gt Xs a).gv.at (b+1)→∃m∈(gt Xs a).out,m.to=ix b∧m.number=k
 to:∀a,a<n→∀m∈(gt Xs a).out,∃b,b<n∧b≠a∧m.to=ix b
 lz:∀a,a<n→∀z,z<7→0<(gt Xs a).lv.at z→∃b,b<n∧b≠a∧z=b+1
 hh:∀a b e d,a<n→b<n→e∈(gt Xs a).here→d∈(gt Xs b).here→e.id=d.id→a=b
 hw:∀a b e m,a<n→b<n→e∈(gt Xs a).here→Way Xs b m→e.id≠m.e.id
 ww:∀a b m m',a<n→b<n→Way Xs a m→Way Xs b m'→m.e.id=m'.e.id→a=b∧m=m'
 small:∀a,a<n→(∀e∈(gt Xs a).here,e.id≤8)∧∀m∈(gt Xs a).out,m.e.id≤8
structure Flow(n:Nat)(Xs Ys:List KG):Prop where
 gv:∀b,(gt Ys b).gv=(gt Xs b).gv
 lv:∀b z,z<7→(gt Xs b).lv.at z≤(gt Ys b).lv.at z
 out:∀b,∀m∈(gt Ys b).out,m∈(gt Xs b).out
 p1:∀b,∀e∈(gt Xs b).here,e∈(gt Ys b).here
 p2:∀b m,b<n→Way Xs b m→Way Ys b m∨m.e∈(gt Ys (m.to.toNat-1)).here
 p3:∀b,∀e∈(gt Ys b).here,e∈(gt Xs b).here∨∃c m,c<n∧Way Xs c m∧m.to=ix b∧m.e=e
theorem Flow.refl(n:Nat)(Xs:List KG):Flow n Xs Xs:=⟨fun _=>rfl,fun _ _ _=>Int.le_refl _,fun _ _ h=>h,fun _ _ h=>h,fun _ _ _ h=> .inl h,fun _ _ h=> .inl h⟩
theorem Flow.way{n:Nat}{Xs Ys:List KG}(h:Flow n Xs Ys){c:Nat}{m:KMs}(hc:c<n)(hn:n≤6)(hm:Way Ys c m):Way Xs c m:=⟨h.out _ _ hm.1,Int.lt_of_le_of_lt (h.lv _ _ (by omega)) hm.2⟩
theorem Flow.trans{n:Nat}{Xs Ys Zs:List KG}(hn:n≤6)(h:Flow n Xs Ys)(g:Flow n Ys Zs):Flow n Xs Zs where
 gv b:=(g.gv b).trans (h.gv b)
 lv b z hz:=Int.le_trans (h.lv b z hz) (g.lv b z hz)
 out b m hm:=h.out b m (g.out b m hm)
 p1 b e he:=g.p1 b e (h.p1 b e he)
 p2 b m hb hm:=by
  rcases h.p2 b m hb hm with h1|h1
  ·exact g.p2 b m hb h1
  ·exact .inr (g.p1 _ _ h1)
 p3 b e he:=by
  rcases g.p3 b e he with h1|⟨c,m,hc,h1,h2⟩
  ·exact h.p3 b e h1
  ·exact .inr ⟨c,m,hc,h.way hc hn h1,h2⟩
theorem sort_len:∀{l:List KEnt} {lo hi:Int},SortE l→(∀e∈l,lo≤e.id∧e.id≤hi)→lo≤hi+1→(l.length:Int)≤hi-lo+1
 |[],lo,hi,_,_,h=>by simp;omega
 |a::l,lo,hi,hs,hb,h=>by
  rw[SortE,List.pairwise_cons]at hs
  have h1:=hb a List.mem_cons_self
  have:=sort_len (l:=l) (lo:=a.id+1) (hi:=hi) hs.2 (fun e he=>⟨by have:=hs.1 e he;omega,(hb e (List.mem_cons_of_mem _ he)).2⟩) (by omega)
  rw[List.length_cons];push_cast;omega
theorem osort_uni:∀{l:List KMs} {m s:KMs},l.Pairwise (fun a b=>a.to<b.to∨(a.to=b.to∧a.number<b.number))→m∈l→s∈l→m.to=s.to→m.number=s.number→m=s
 |a::l,m,s,hp,hm,hs,h1,h2=>by
  rw[List.pairwise_cons]at hp
  rcases List.mem_cons.1 hm with rfl|hm'<;>rcases List.mem_cons.1 hs with rfl|hs'
  ·rfl
  ·have:=hp.1 _ hs';omega
  ·have:=hp.1 _ hm';omega
  ·exact osort_uni hp.2 hm' hs' h1 h2
section
variable {n:Nat}{Xs:List KG}
theorem Net.few(h:Net n Xs){a:Nat}(ha:a<n):(gt Xs a).here.length≤8:=by
 obtain⟨⟨N,hx⟩,_⟩:=h.ok a ha
 have:=sort_len (lo:=1) (hi:=8) hx.sort (fun e he=>⟨(hx.right e he).id.1,(h.small a ha).1 e he⟩) (by decide)
 omega
def TookTo(X:KG)(s:KMs)(Y:KG):Prop:=(takeF X s=some 0∧Y=X)∨(takeF X s=none∧Y=playX X (takeO s))
theorem other_ix{a b:Nat}(ha:a<6)(h:a≠b):otherB (ix b) (ix a)=true:=other_iff.2 ⟨by show 1≤((a+1:Nat):Int);omega,by show((a+1:Nat):Int)≤6;omega,by show((a+1:Nat):Int)≠((b+1:Nat):Int);omega⟩
theorem Net.take(h:Net n Xs){a b:Nat}(ha:a<n)(hb:b<n)(hab:a≠b){s:KMs}(hs:s∈(gt Xs a).out)(ht:s.to=ix b)(hn:s.number≤(gt Xs b).lv.at (a+1)+1):
  ∃Y,TookTo (gt Xs b) s Y∧Net n (Xs.set b Y)∧Flow n Xs (Xs.set b Y)∧s.number≤(gt (Xs.set b Y) b).lv.at (a+1):=by
 have n6:=h.n6
 obtain⟨⟨Na,hxa⟩,hza⟩:=h.ok a ha
 obtain⟨⟨Nb,hxb⟩,hzb⟩:=h.ok b hb
 obtain⟨hsrc,hack,_,hn1,hng⟩:=hxa.ohd s hs
 have hsrc:s.src=ix a:=hsrc.trans hza
 have hbl:b<Xs.length:=by rw[h.len];exact hb
 have ho:otherB (gt Xs b).zone s.src=true:=by rw[hzb,hsrc];exact other_ix (by omega) hab
 have hsn:s.src.toNat=a+1:=by rw[hsrc];rfl
 have h0:takeF (gt Xs b) s=takeE (gt Xs b) s:=by
  unfold takeF
  rw[if_neg (by rw[ho,hzb,ht];simp),hack,if_neg (by decide)]
 by_cases hold:s.number≤(gt Xs b).lv.at (a+1)
 ·refine⟨gt Xs b,.inl ⟨?_,rfl⟩,?_⟩
  ·rw[h0];unfold takeE;rw[hsn,if_pos hold]
  ·rw[gt_setSame hbl];exact⟨h,Flow.refl n Xs,hold⟩
 ·have hnum:s.number=(gt Xs b).lv.at (a+1)+1:=by omega
  have hway:Way Xs a s:=⟨hs,by rw[ixto ht];omega⟩
  have hno:hereB (gt Xs b) s.e.id=false:=by
   refine List.any_eq_false.2 fun e he=> ?_
   have:=h.hw b a e s hb ha he hway
   simp[this]
  have hr:rightE s.e=true:=right_iff.2 (hxa.oright s hs)
  have hlen:=h.few hb
  have hq:takeF (gt Xs b) s=none:=by
   rw[h0];unfold takeE
   rw[hsn,if_neg hold,if_neg (by omega),if_neg (by rw[hr,hno];decide),if_neg (by omega)]
  have hop:takeO s= .take (ix a) s.e:=by unfold takeO;rw[hack,if_neg (by decide),hsrc]
  refine⟨playX (gt Xs b) (takeO s),.inr ⟨hq,rfl⟩,?_⟩
  rw[hop]
  let Y:KG:=playX (gt Xs b) (.take (ix a) s.e)
  have hY:Y={gt Xs b with here:=insE s.e (gt Xs b).here,lv:=(gt Xs b).lv.upd (a+1) ((gt Xs b).lv.at (a+1)+1)}:=rfl
  have gs:gt (Xs.set b Y) b=Y:=gt_self hbl
  have gn:∀c,c≠b→gt (Xs.set b Y) c=gt Xs c:=fun c hc=>gt_ne (Ne.symm hc)
  have a7:a+1<7:=by omega
  have lvY:∀z,z<7→Y.lv.at z=if z=a+1 then(gt Xs b).lv.at (a+1)+1 else(gt Xs b).lv.at z:=fun z hz=>by
   show((gt Xs b).lv.upd (a+1) ((gt Xs b).lv.at (a+1)+1)).at z=_
   rw[KN7.at_upd a7 hz]
  have lvA:∀c z,z<7→(gt (Xs.set b Y) c).lv.at z=if c=b∧z=a+1 then(gt Xs b).lv.at (a+1)+1 else(gt Xs c).lv.at z:=fun c z hz=>by
   by_cases hc:c=b
   ·subst hc;rw[gs,lvY z hz]
    by_cases e:z=a+1<;>simp[e]
   ·rw[gn c hc,if_neg (fun q=>hc q.1)]
  have outA:∀c,(gt (Xs.set b Y) c).out=(gt Xs c).out:=fun c=>by
   by_cases hc:c=b
   ·subst hc;rw[gs];rfl
   ·rw[gn c hc]
  have gvA:∀c,(gt (Xs.set b Y) c).gv=(gt Xs c).gv:=fun c=>by
   by_cases hc:c=b
   ·subst hc;rw[gs];rfl
   ·rw[gn c hc]
  have hereA:∀c e,e∈(gt (Xs.set b Y) c).here↔e∈(gt Xs c).here∨(c=b∧e=s.e):=fun c e=>by
   by_cases hc:c=b
   ·subst hc;rw[gs]
    show e∈insE s.e (gt Xs c).here↔_
    rw[insE_mem hxb.sort]
    constructor
    ·rintro(rfl|⟨h1,_⟩)
     ·exact .inr ⟨rfl,rfl⟩
     ·exact .inl h1
    ·rintro(h1|⟨_,rfl⟩)
     ·exact .inr ⟨h1,fun q=>h.hw c a e s hb ha h1 hway q⟩
     ·exact .inl rfl
   ·rw[gn c hc];exact⟨.inl,fun q=>q.elim id fun q=>absurd q.1 hc⟩
  have wayA:∀c m,c<n→(Way (Xs.set b Y) c m↔Way Xs c m∧¬(c=a∧m=s)):=fun c m hc=>by
   unfold Way
   rw[outA,lvA _ _ (by omega)]
   constructor
   ·rintro⟨h1,h2⟩
    obtain⟨d,hd,hdc,hmt⟩:=h.to c hc m h1
    rw[ixto hmt]at h2
    by_cases e:d=b∧c+1=a+1
    ·obtain⟨rfl,e2⟩:=e
     have:c=a:=by omega
     subst this
     rw[if_pos ⟨rfl,rfl⟩]at h2
     refine⟨⟨h1,by rw[ixto hmt];omega⟩,fun q=> ?_⟩
     rw[q.2]at h2;omega
    ·rw[if_neg e]at h2
     refine⟨⟨h1,by rw[ixto hmt];exact h2⟩,fun q=> ?_⟩
     obtain⟨rfl,rfl⟩:=q
     rw[ht]at hmt
     have:b=d:=by have:((b+1:Nat):Int)=((d+1:Nat):Int):=hmt;omega
     exact e ⟨this.symm,rfl⟩
   ·rintro⟨⟨h1,h2⟩,h3⟩
    obtain⟨d,hd,hdc,hmt⟩:=h.to c hc m h1
    refine⟨h1,?_⟩
    rw[ixto hmt]at h2⊢
    by_cases e:d=b∧c+1=a+1
    ·obtain⟨rfl,e2⟩:=e
     have:c=a:=by omega
     subst this
     rw[if_pos ⟨rfl,rfl⟩]
     rcases Int.lt_or_eq_of_le (show(gt Xs d).lv.at (c+1)+1≤m.number by omega)with h4|h4
     ·exact h4
     ·refine absurd ⟨rfl,?_⟩ h3
      exact(h.ww c c m s hc hc ⟨h1,by rw[ixto hmt];exact h2⟩ hway (by
       have:m=s:=osort_uni hxa.osort h1 hs (hmt.trans ht.symm) (by rw[hnum,←h4])
       rw[this])).2
    ·rw[if_neg e];exact h2
  refine⟨⟨n6,by rw[List.length_set];exact h.len,fun c hc=> ?_,fun c d hc hd hcd=> ?_,fun c d hc hd hcd k hk1 hk2=> ?_,fun c hc m hm=> ?_,fun c hc z hz hp=> ?_,fun c d e f hc hd he hf hid=> ?_,fun c d e m hc hd he hm=> ?_,fun c d m m' hc hd hm hm' hid=> ?_,fun c hc=> ?_⟩,⟨gvA,fun c z hz=> ?_,fun c m hm=>by rw[outA]at hm;exact hm,fun c e he=>(hereA c e).2 (.inl he),fun c m hc hm=> ?_,fun c e he=> ?_⟩,?_⟩
  ·by_cases e:c=b
   ·subst e
    rw[gs]
    exact⟨⟨Nb+1,hxb.play (o:= .take (ix a) s.e) ⟨hxa.oright s hs,⟨by show 1≤((a+1:Nat):Int);omega,by show((a+1:Nat):Int)≤6;omega⟩,by omega⟩ (fun _ q=>by cases q)⟩,hzb⟩
   ·rw[gn c e];exact h.ok c hc
  ·rw[lvA _ _ (by omega),gvA]
   split
   ·rename_i e
    obtain⟨rfl,e2⟩:=e
    have:c=a:=by omega
    subst this
    rw[ht]at hng
    rw[←hnum];exact hng
   ·exact h.le c d hc hd hcd
  ·rw[lvA _ _ (by omega)]at hk1
   rw[gvA]at hk2
   rw[outA]
   refine h.all c d hc hd hcd k ?_ hk2
   split at hk1
   ·rename_i e
    obtain⟨rfl,e2⟩:=e
    have:c=a:=by omega
    subst this
    omega
   ·exact hk1
  ·rw[outA]at hm;exact h.to c hc m hm
  ·rw[lvA _ _ hz]at hp
   split at hp
   ·rename_i e
    exact⟨a,ha,by rw[e.1];exact hab,e.2⟩
   ·exact h.lz c hc z hz hp
  ·rcases(hereA c e).1 he with h1|⟨rfl,rfl⟩<;>rcases(hereA d f).1 hf with h2|⟨rfl,rfl⟩
   ·exact h.hh c d e f hc hd h1 h2 hid
   ·exact absurd hid (h.hw c a e s hc ha h1 hway)
   ·exact absurd hid.symm (h.hw d a f s hd ha h2 hway)
   ·rfl
  ·obtain⟨h2,h3⟩:=(wayA d m hd).1 hm
   rcases(hereA c e).1 he with h1|⟨rfl,rfl⟩
   ·exact h.hw c d e m hc hd h1 h2
   ·intro q
    obtain⟨h4,h5⟩:=h.ww a d s m ha hd hway h2 q
    exact h3 ⟨h4.symm,h5.symm⟩
  ·exact h.ww c d m m' hc hd ((wayA c m hc).1 hm).1 ((wayA d m' hd).1 hm').1 hid
  ·refine⟨fun e he=> ?_,fun m hm=> ?_⟩
   ·rcases(hereA c e).1 he with h1|⟨_,rfl⟩
    ·exact(h.small c hc).1 e h1
    ·exact(h.small a ha).2 s hs
   ·rw[outA]at hm;exact(h.small c hc).2 m hm
  ·rw[lvA _ _ hz]
   split
   ·rename_i e;rw[e.1,e.2];omega
   ·exact Int.le_refl _
  ·by_cases e:c=a∧m=s
   ·refine .inr ?_
    rw[e.2,ixto ht]
    exact(hereA b s.e).2 (.inr ⟨rfl,rfl⟩)
   ·exact .inl ((wayA c m hc).2 ⟨hm,e⟩)
  ·rcases(hereA c e).1 he with h1|⟨rfl,rfl⟩
   ·exact .inl h1
   ·exact .inr ⟨a,s,ha,hway,ht,rfl⟩
  ·rw[lvA _ _ (by omega),if_pos ⟨rfl,rfl⟩,←hnum];exact Int.le_refl _
end
end Go.Hv
namespace Go.Hv
open Go Go.Sl Go.Proofs
section
variable {n:Nat}{Xs:List KG}
theorem Net.ack(h:Net n Xs){a b:Nat}(ha:a<n)(hb:b<n)(hab:a≠b){s:KMs}(hsrc:s.src=ix a)(hack:s.ack=true)(ht:s.to=ix b)(hn:s.number≤(gt Xs a).lv.at (b+1))(hp:0<s.number):
  ∃Y,TookTo (gt Xs b) s Y∧Net n (Xs.set b Y)∧Flow n Xs (Xs.set b Y)∧(∀m∈Y.out,¬(m.to=ix a∧m.number≤s.number))∧
   ∀c m,c<n→m∈(gt Xs c).out→(gt Xs (m.to.toNat-1)).lv.at (c+1)<m.number→m∈(gt (Xs.set b Y) c).out:=by
 have n6:=h.n6
 obtain⟨⟨Nb,hxb⟩,hzb⟩:=h.ok b hb
 have hbl:b<Xs.length:=by rw[h.len];exact hb
 have ho:otherB (gt Xs b).zone s.src=true:=by rw[hzb,hsrc];exact other_ix (by omega) hab
 have hsn:s.src.toNat=a+1:=by rw[hsrc];rfl
 have hle:=h.le b a hb ha (Ne.symm hab)
 have h0:takeF (gt Xs b) s=takeA (gt Xs b) s:=by
  unfold takeF
  rw[if_neg (by rw[ho,hzb,ht];simp),if_pos hack]
 have h1:takeA (gt Xs b) s=if(!(gt Xs b).out.any (ackB s.src s.number))=true then some 0 else none:=by
  unfold takeA
  rw[if_neg]
  rw[hsn]
  simp only[Bool.or_eq_true,decide_eq_true_eq]
  omega
 by_cases hany:(gt Xs b).out.any (ackB s.src s.number)=true
 ·refine⟨playX (gt Xs b) (takeO s),.inr ⟨by rw[h0,h1,hany];rfl,rfl⟩,?_⟩
  have hop:takeO s= .ack (ix a) s.number:=by unfold takeO;rw[if_pos hack,hsrc]
  rw[hop]
  let Y:KG:=playX (gt Xs b) (.ack (ix a) s.number)
  have gs:gt (Xs.set b Y) b=Y:=gt_self hbl
  have gn:∀c,c≠b→gt (Xs.set b Y) c=gt Xs c:=fun c hc=>gt_ne (Ne.symm hc)
  have hereA:∀c,(gt (Xs.set b Y) c).here=(gt Xs c).here:=fun c=>by
   by_cases hc:c=b
   ·subst hc;rw[gs];rfl
   ·rw[gn c hc]
  have gvA:∀c,(gt (Xs.set b Y) c).gv=(gt Xs c).gv:=fun c=>by
   by_cases hc:c=b
   ·subst hc;rw[gs];rfl
   ·rw[gn c hc]
  have lvA:∀c,(gt (Xs.set b Y) c).lv=(gt Xs c).lv:=fun c=>by
   by_cases hc:c=b
   ·subst hc;rw[gs];rfl
   ·rw[gn c hc]
  have outB_:∀m,m∈Y.out↔m∈(gt Xs b).out∧¬(m.to=ix a∧m.number≤s.number):=fun m=>by
   show m∈(gt Xs b).out.filter _↔_
   rw[List.mem_filter]
   unfold ackB
   simp only[Bool.not_eq_true',Bool.and_eq_false_iff,decide_eq_false_iff_not]
   refine and_congr Iff.rfl ⟨fun q r=>q.elim (fun q=>q r.1) fun q=>q r.2,fun q=> ?_⟩
   by_cases e:m.to=ix a
   ·exact .inr fun r=>q ⟨e,r⟩
   ·exact .inl e
  have outA:∀c m,m∈(gt (Xs.set b Y) c).out→m∈(gt Xs c).out:=fun c m hm=>by
   by_cases hc:c=b
   ·subst hc;rw[gs]at hm;exact((outB_ m).1 hm).1
   ·rw[gn c hc]at hm;exact hm
  have outW:∀c m,c<n→m∈(gt Xs c).out→(gt Xs (m.to.toNat-1)).lv.at (c+1)<m.number→m∈(gt (Xs.set b Y) c).out:=fun c m hc hm hl=>by
   by_cases hcb:c=b
   ·subst hcb;rw[gs]
    refine(outB_ m).2 ⟨hm,fun q=> ?_⟩
    rw[ixto q.1]at hl
    have:=q.2
    omega
   ·rw[gn c hcb];exact hm
  have wayA:∀c m,c<n→(Way (Xs.set b Y) c m↔Way Xs c m):=fun c m hc=>by
   unfold Way
   rw[lvA]
   exact⟨fun q=>⟨outA c m q.1,q.2⟩,fun q=>⟨outW c m hc q.1 q.2,q.2⟩⟩
  refine⟨⟨n6,by rw[List.length_set];exact h.len,fun c hc=> ?_,fun c d hc hd hcd=>by rw[lvA,gvA];exact h.le c d hc hd hcd,fun c d hc hd hcd k hk1 hk2=> ?_,fun c hc m hm=>h.to c hc m (outA c m hm),fun c hc z hz hp=>h.lz c hc z hz (by rw[lvA]at hp;exact hp),fun c d e f hc hd he hf hid=>h.hh c d e f hc hd (by rw[hereA]at he;exact he) (by rw[hereA]at hf;exact hf) hid,
   fun c d e m hc hd he hm=>h.hw c d e m hc hd (by rw[hereA]at he;exact he) ((wayA d m hd).1 hm),fun c d m m' hc hd hm hm' hid=>h.ww c d m m' hc hd ((wayA c m hc).1 hm) ((wayA d m' hd).1 hm') hid,fun c hc=>⟨fun e he=>(h.small c hc).1 e (by rw[hereA]at he;exact he),fun m hm=>(h.small c hc).2 m (outA c m hm)⟩⟩,
   ⟨gvA,fun c z hz=>by rw[lvA];exact Int.le_refl _,outA,fun c e he=>by rw[hereA];exact he,fun c m hc hm=> .inl ((wayA c m hc).2 hm),fun c e he=> .inl (by rw[hereA]at he;exact he)⟩,fun m hm=>((outB_ m).1 hm).2,outW⟩
  ·by_cases e:c=b
   ·subst e
    rw[gs]
    exact⟨⟨Nb,hxb.zone,hxb.sort,hxb.right,hxb.few,hxb.osort.filter _,fun m hm=>hxb.oright m (List.mem_filter.1 hm).1,fun m hm=>hxb.ohd m (List.mem_filter.1 hm).1,Nat.le_trans (List.length_filter_le ..) hxb.ofew,hxb.gv,hxb.lv⟩,hzb⟩
   ·rw[gn c e];exact h.ok c hc
  ·rw[lvA]at hk1
   rw[gvA]at hk2
   obtain⟨m,hm,h3,h4⟩:=h.all c d hc hd hcd k hk1 hk2
   exact⟨m,outW c m hc hm (by rw[ixto h3,h4];exact hk1),h3,h4⟩
 ·have hf:(gt Xs b).out.any (ackB s.src s.number)=false:=by simpa using hany
  refine⟨gt Xs b,.inl ⟨by rw[h0,h1,hf];rfl,rfl⟩,?_⟩
  rw[gt_setSame hbl]
  refine⟨h,Flow.refl n Xs,fun m hm q=> ?_,fun _ _ _ q _=>q⟩
  have:=List.any_eq_false.1 hf m hm
  unfold ackB at this
  rw[hsrc]at this
  simp[q.1,q.2]at this
structure PassIn(n:Nat)(X0 Xs:List KG)(a j:Nat):Prop where
 net:Net n Xs
 flow:Flow n X0 Xs
 same:gt Xs a=gt X0 a
 done:∀i s,i<j→(msgsX (gt X0 a))[i]? =some s→(s.ack=false→s.number≤(gt Xs (s.to.toNat-1)).lv.at (a+1))∧(s.ack=true→∀m∈(gt Xs (s.to.toNat-1)).out,¬(m.to=ix a∧m.number≤s.number))
theorem PassIn.start{X0:List KG}(h:Net n X0)(a:Nat):PassIn n X0 X0 a 0:=⟨h,Flow.refl n X0,rfl,fun i s hi=>absurd hi (Nat.not_lt_zero i)⟩
theorem acks_mem{X:KG}{s:KMs}(h:s∈acksTo X 7):s.src=X.zone∧s.ack=true∧∃z,z<7∧0<X.lv.at z∧s.to=((z:Nat):Int)∧s.number=X.lv.at z:=by
 unfold acksTo at h
 obtain⟨z,hz,rfl⟩:=List.mem_map.1 h
 obtain⟨h1,h2⟩:=List.mem_filter.1 hz
 exact⟨rfl,rfl,z,List.mem_range.1 h1,of_decide_eq_true h2,rfl,rfl⟩
theorem PassIn.next{X0 Xs:List KG}{a j:Nat}(h:PassIn n X0 Xs a j)(ha:a<n){s:KMs}(hs:(msgsX (gt X0 a))[j]? =some s):
  ∃b Y,b<n∧s.to=ix b∧TookTo (gt Xs b) s Y∧PassIn n X0 (Xs.set b Y) a (j+1):=by
 have hn:=h.net
 have n6:=hn.n6
 have key:∃b Y,b<n∧b≠a∧s.to=ix b∧TookTo (gt Xs b) s Y∧Net n (Xs.set b Y)∧Flow n Xs (Xs.set b Y)∧(s.ack=false→s.number≤(gt (Xs.set b Y) b).lv.at (a+1))∧(s.ack=true→∀m∈(gt (Xs.set b Y) b).out,¬(m.to=ix a∧m.number≤s.number)):=by
  obtain⟨⟨N,hx⟩,hz⟩:=hn.ok a ha
  rw[←h.same]at hs
  by_cases hj:j<(gt Xs a).out.length
  ·unfold msgsX at hs
   rw[List.getElem?_append_left hj]at hs
   have hm:=List.mem_of_getElem? hs
   obtain⟨b,hb,hba,ht⟩:=hn.to a ha s hm
   obtain⟨_,hack,_,h1,hg⟩:=hx.ohd s hm
   have hle:s.number≤(gt Xs b).lv.at (a+1)+1:=by
    refine Decidable.byContradiction fun hc=> ?_
    rw[ht]at hg
    obtain⟨m,hmo,hmt,hmn⟩:=hn.all a b ha hb (Ne.symm hba) ((gt Xs b).lv.at (a+1)+1) (by omega) (by have:(ix b).toNat=b+1:=rfl;rw[this]at hg;omega)
    obtain⟨i,hi,hmi⟩:=List.mem_iff_getElem.1 hmo
    obtain⟨hj2,hsj⟩:=List.getElem?_eq_some_iff.1 hs
    have hp:=List.pairwise_iff_getElem.1 hx.osort
    have hij:i<j:=by
     rcases Nat.lt_trichotomy i j with q|q|q
     ·exact q
     ·subst q;rw[hmi]at hsj;rw[hsj]at hmn;omega
     ·have:=hp j i hj2 hi q
      rw[hsj,hmi,ht,hmt]at this
      rcases this with q2|⟨_,q2⟩<;>omega
    have hd:=(h.done i m hij (by rw[←h.same];unfold msgsX;rw[List.getElem?_append_left hi,List.getElem?_eq_getElem hi,hmi])).1 (hx.ohd m hmo).2.1
    rw[ixto hmt]at hd
    omega
   obtain⟨Y,t1,t2,t3,t4⟩:=hn.take ha hb (Ne.symm hba) hm ht hle
   exact⟨b,Y,hb,hba,ht,t1,t2,t3,fun _=>t4,fun q=>by rw[hack]at q;cases q⟩
  ·unfold msgsX at hs
   rw[List.getElem?_append_right (by omega)]at hs
   obtain⟨h1,h2,z,hz7,hzp,h3,h4⟩:=acks_mem (List.mem_of_getElem? hs)
   obtain⟨b,hb,hba,rfl⟩:=hn.lz a ha z hz7 hzp
   obtain⟨Y,t1,t2,t3,t4,_⟩:=hn.ack ha hb (Ne.symm hba) (h1.trans hz) h2 h3 (Int.le_of_eq h4) (by rw[h4];exact hzp)
   exact⟨b,Y,hb,hba,h3,t1,t2,t3,fun q=>(by rw[h2]at q;cases q),fun _=>by rw[gt_self (by rw[hn.len];exact hb)];exact t4⟩
 obtain⟨b,Y,hb,hba,ht,t1,t2,t3,t4,t5⟩:=key
 refine⟨b,Y,hb,ht,t1,t2,h.flow.trans n6 t3,by rw[gt_ne hba];exact h.same,fun i m hi hm=> ?_⟩
 by_cases e:i=j
 ·subst e
  rw[hs]at hm;injection hm with hm;subst hm
  rw[ixto ht];exact⟨t4,t5⟩
 ·obtain⟨d1,d2⟩:=h.done i m (by omega) hm
  refine⟨fun q=>Int.le_trans (d1 q) (t3.lv _ _ (by omega)),fun q y hy=>d2 q y (t3.out _ y hy)⟩
structure PassTo(n:Nat)(X0 Xs:List KG)(a:Nat):Prop where
 net:Net n Xs
 flow:Flow n X0 Xs
 eq:∀c d,c<a→c<n→d<n→c≠d→(gt Xs d).lv.at (c+1)=(gt Xs c).gv.at (d+1)
 out:(∀c d,c<n→d<n→c≠d→(gt X0 d).lv.at (c+1)=(gt X0 c).gv.at (d+1))→∀c d,c<a→c<n→d<n→∀m∈(gt Xs d).out,m.to≠ix c
theorem PassTo.start{X0:List KG}(h:Net n X0):PassTo n X0 X0 0:=⟨h,Flow.refl n X0,fun c d hc=>absurd hc (Nat.not_lt_zero c),fun _ c d hc=>absurd hc (Nat.not_lt_zero c)⟩
theorem PassTo.next{X0 X1 Xs:List KG}{a:Nat}(h:PassTo n X0 X1 a)(ha:a<n)(g:PassIn n X1 Xs a (msgsX (gt X1 a)).length):PassTo n X0 Xs (a+1):=by
 have hn:=g.net
 have n6:=hn.n6
 obtain⟨⟨N,hx⟩,hz⟩:=hn.ok a ha
 have hx1:XOk (gt X1 a) N:=by rw[←g.same];exact hx
 have heq:∀d,d<n→a≠d→(gt Xs d).lv.at (a+1)=(gt Xs a).gv.at (d+1):=fun d hd had=>by
  refine Int.le_antisymm (hn.le a d ha hd had) (Decidable.byContradiction fun hc=> ?_)
  obtain⟨m,hm,ht,hk⟩:=hn.all a d ha hd had ((gt Xs d).lv.at (a+1)+1) (by omega) (by omega)
  rw[g.same]at hm
  obtain⟨i,hi,hmi⟩:=List.mem_iff_getElem.1 hm
  have:=(g.done i m (by unfold msgsX;rw[List.length_append];omega) (by unfold msgsX;rw[List.getElem?_append_left hi,List.getElem?_eq_getElem hi,hmi])).1 (hx1.ohd m hm).2.1
  rw[ixto ht]at this
  omega
 refine⟨hn,h.flow.trans n6 g.flow,fun c d hc hcn hd hcd=> ?_,fun hL c d hc hcn hd m hm hmt=> ?_⟩
 ·by_cases e:c=a
  ·subst e;exact heq d hd hcd
  ·have h1:=h.eq c d (by omega) hcn hd hcd
   have h2:=g.flow.lv d (c+1) (by omega)
   have h3:=hn.le c d hcn hd hcd
   rw[g.flow.gv]at h3⊢
   omega
 ·by_cases e:c=a
  ·subst e
   obtain⟨b,_,hbd,hb⟩:=hn.to d hd m hm
   have hdc:c≠d:=fun q=>by
    subst q
    rw[hmt]at hb
    have:((c+1:Nat):Int)=((b+1:Nat):Int):=hb
    omega
   have f1:=h.flow.trans n6 g.flow
   have hl:(gt Xs c).lv.at (d+1)=(gt Xs d).gv.at (c+1):=by
    have h1:=hL d c hd hcn (Ne.symm hdc)
    have h2:=f1.lv c (d+1) (by omega)
    have h3:=hn.le d c hd hcn (Ne.symm hdc)
    rw[f1.gv]at h3⊢
    omega
   obtain⟨⟨Nd,hxd⟩,hzd⟩:=hn.ok d hd
   obtain⟨_,_,_,hp,hg⟩:=hxd.ohd m hm
   rw[hmt]at hg
   have hg:m.number≤(gt Xs d).gv.at (c+1):=hg
   have hpos:0<(gt X1 c).lv.at (d+1):=by rw[←g.same];omega
   have hmem:(⟨(gt X1 c).zone,((d+1:Nat):Int),(gt X1 c).lv.at (d+1),true,⟨0,[]⟩⟩:KMs)∈msgsX (gt X1 c):=
    List.mem_append_right _ (List.mem_map.2 ⟨d+1,List.mem_filter.2 ⟨List.mem_range.2 (by omega),decide_eq_true hpos⟩,rfl⟩)
   obtain⟨i,hi,hmi⟩:=List.mem_iff_getElem.1 hmem
   have:=(g.done i _ hi (by rw[List.getElem?_eq_getElem hi,hmi])).2 rfl m (by rw[ixto (b:=d) rfl];exact hm)
   exact this ⟨hmt,by show m.number≤(gt X1 c).lv.at (d+1);rw[←g.same];omega⟩
  ·exact h.out hL c d (by omega) hcn hd m (g.flow.out d m hm) hmt
def Done(n:Nat)(Xs:List KG):Prop:=∀c d,c<n→d<n→c≠d→(gt Xs d).lv.at (c+1)=(gt Xs c).gv.at (d+1)
def Quiet(n:Nat)(Xs:List KG):Prop:=∀d,d<n→(gt Xs d).out=[]
theorem PassTo.done{X0 Xs:List KG}(h:PassTo n X0 Xs n):Done n Xs:=fun c d hc hd hcd=>h.eq c d hc hc hd hcd
theorem PassTo.quiet{X0 Xs:List KG}(h:PassTo n X0 Xs n)(hL:Done n X0):Quiet n Xs:=fun d hd=>by
 refine List.eq_nil_iff_forall_not_mem.2 fun m hm=> ?_
 obtain⟨b,hb,_,ht⟩:=h.net.to d hd m hm
 exact h.out hL b d hb hb hd m hm ht
theorem Quiet.way{Xs:List KG}(h:Quiet n Xs){c:Nat}(hc:c<n){m:KMs}:¬Way Xs c m:=fun q=>by
 have:=q.1;rw[h c hc]at this;cases this
end
end Go.Hv
namespace Go.Hv
open Go Go.Sl Go.Proofs
section
variable {n:Nat}{Xs:List KG}
structure Putted(n:Nat)(Xs Ys:List KG)(a:Nat)(e:KEnt):Prop where
 net:Net n Ys
 here:∀c f,f∈(gt Ys c).here↔(f∈(gt Xs c).here∧¬(c=a∧f.id=e.id))∨(c=a∧f=e)
 out:∀c,(gt Ys c).out=(gt Xs c).out
 way:∀c m,Way Ys c m↔Way Xs c m
theorem Net.put(h:Net n Xs){a:Nat}(ha:a<n){e:KEnt}(hr:rightE e=true)(h8:e.id≤8)(hno:∀b f,b<n→b≠a→f∈(gt Xs b).here→f.id≠e.id)(hnw:∀b m,b<n→Way Xs b m→m.e.id≠e.id):
  Putted n Xs (Xs.set a (playX (gt Xs a) (.put e))) a e:=by
 obtain⟨⟨N,hx⟩,hz⟩:=h.ok a ha
 have hal:a<Xs.length:=by rw[h.len];exact ha
 let Y:KG:=playX (gt Xs a) (.put e)
 have gs:gt (Xs.set a Y) a=Y:=gt_self hal
 have gn:∀c,c≠a→gt (Xs.set a Y) c=gt Xs c:=fun c hc=>gt_ne (Ne.symm hc)
 have sm:∀c,(gt (Xs.set a Y) c).out=(gt Xs c).out∧(gt (Xs.set a Y) c).gv=(gt Xs c).gv∧(gt (Xs.set a Y) c).lv=(gt Xs c).lv:=fun c=>by
  by_cases hc:c=a
  ·subst hc;rw[gs];exact⟨rfl,rfl,rfl⟩
  ·rw[gn c hc];exact⟨rfl,rfl,rfl⟩
 have hereA:∀c f,f∈(gt (Xs.set a Y) c).here↔(f∈(gt Xs c).here∧¬(c=a∧f.id=e.id))∨(c=a∧f=e):=fun c f=>by
  by_cases hc:c=a
  ·subst hc;rw[gs]
   show f∈insE e (gt Xs c).here↔_
   rw[insE_mem hx.sort]
   constructor
   ·rintro(rfl|⟨h1,h2⟩)
    ·exact .inr ⟨rfl,rfl⟩
    ·exact .inl ⟨h1,fun q=>h2 q.2⟩
   ·rintro(⟨h1,h2⟩|⟨_,rfl⟩)
    ·exact .inr ⟨h1,fun q=>h2 ⟨rfl,q⟩⟩
    ·exact .inl rfl
  ·rw[gn c hc]
   exact⟨fun q=> .inl ⟨q,fun r=>hc r.1⟩,fun q=>q.elim (·.1) fun r=>absurd r.1 hc⟩
 have wayA:∀c m,Way (Xs.set a Y) c m↔Way Xs c m:=fun c m=>by unfold Way;rw[(sm c).1,(sm _).2.2]
 have few:=h.few ha
 refine⟨⟨h.n6,by rw[List.length_set];exact h.len,fun c hc=> ?_,fun c d hc hd hcd=> ?_,fun c d hc hd hcd k hk1 hk2=> ?_,fun c hc m hm=> ?_,fun c hc z hz hp=> ?_,fun c d f g hc hd hf hg hid=> ?_,fun c d f m hc hd hf hm=> ?_,fun c d m m' hc hd hm hm' hid=> ?_,fun c hc=> ?_⟩,hereA,fun c=>(sm c).1,wayA⟩
 ·by_cases q:c=a
  ·subst q;rw[gs]
   exact⟨⟨N+1,hx.play (o:= .put e) ⟨right_iff.1 hr,.inr (by omega)⟩ (fun _ q=>by cases q)⟩,hz⟩
  ·rw[gn c q];exact h.ok c hc
 ·rw[(sm d).2.2,(sm c).2.1];exact h.le c d hc hd hcd
 ·rw[(sm d).2.2]at hk1;rw[(sm c).2.1]at hk2;rw[(sm c).1];exact h.all c d hc hd hcd k hk1 hk2
 ·rw[(sm c).1]at hm;exact h.to c hc m hm
 ·rw[(sm c).2.2]at hp;exact h.lz c hc z hz hp
 ·rcases(hereA c f).1 hf with⟨h1,h2⟩|⟨rfl,rfl⟩<;>rcases(hereA d g).1 hg with⟨h3,h4⟩|⟨rfl,rfl⟩
  ·exact h.hh c d f g hc hd h1 h3 hid
  ·exact Classical.byContradiction fun q=>hno c f hc q h1 hid
  ·exact Classical.byContradiction fun q=>hno d g hd (Ne.symm q) h3 hid.symm
  ·rfl
 ·have hm2:=(wayA d m).1 hm
  rcases(hereA c f).1 hf with⟨h1,h2⟩|⟨rfl,rfl⟩
  ·exact h.hw c d f m hc hd h1 hm2
  ·exact(hnw d m hd hm2).symm
 ·exact h.ww c d m m' hc hd ((wayA c m).1 hm) ((wayA d m').1 hm') hid
 ·refine⟨fun f hf=> ?_,fun m hm=> ?_⟩
  ·rcases(hereA c f).1 hf with⟨h1,_⟩|⟨_,rfl⟩
   ·exact(h.small c hc).1 f h1
   ·exact h8
  ·rw[(sm c).1]at hm;exact(h.small c hc).2 m hm
structure Given(n:Nat)(Xs Ys:List KG)(a:Nat)(id:Int)(s:KMs):Prop where
 net:Net n Ys
 here:∀c f,f∈(gt Ys c).here↔f∈(gt Xs c).here∧¬(c=a∧f.id=id)
 out:∀c,(gt Ys c).out.length≤(gt Xs c).out.length+1
 way:∀c m,c<n→(Way Ys c m↔Way Xs c m∨(c=a∧m=s))
theorem Net.give(h:Net n Xs){a b:Nat}(ha:a<n)(hb:b<n)(hab:a≠b){id:Int}(hi:hereB (gt Xs a) id=true)(h64:(gt Xs a).out.length<64):
  Given n Xs (Xs.set a (playX (gt Xs a) (.give id (ix b)))) a id (gMsg (gt Xs a) id (ix b)):=by
 obtain⟨⟨N,hx⟩,hz⟩:=h.ok a ha
 have n6:=h.n6
 have hal:a<Xs.length:=by rw[h.len];exact ha
 obtain⟨hf1,hf2⟩:=find_spec (X:=gt Xs a) (id:=id) (by
  obtain⟨x,hx,hi⟩:=List.any_eq_true.1 hi;exact⟨x,hx,of_decide_eq_true hi⟩)
 let Y:KG:=playX (gt Xs a) (.give id (ix b))
 let s:KMs:=gMsg (gt Xs a) id (ix b)
 have hse:s.e.id=id:=hf2
 have hst:s.to=ix b:=rfl
 have hsn:s.number=(gt Xs a).gv.at (b+1)+1:=rfl
 have gs:gt (Xs.set a Y) a=Y:=gt_self hal
 have gn:∀c,c≠a→gt (Xs.set a Y) c=gt Xs c:=fun c hc=>gt_ne (Ne.symm hc)
 have b7:b+1<7:=by omega
 have lvA:∀c,(gt (Xs.set a Y) c).lv=(gt Xs c).lv:=fun c=>by
  by_cases hc:c=a
  ·subst hc;rw[gs];rfl
  ·rw[gn c hc]
 have gvA:∀c z,z<7→(gt (Xs.set a Y) c).gv.at z=if c=a∧z=b+1 then(gt Xs a).gv.at (b+1)+1 else(gt Xs c).gv.at z:=fun c z hz7=>by
  by_cases hc:c=a
  ·subst hc;rw[gs]
   show((gt Xs c).gv.upd (b+1) ((gt Xs c).gv.at (b+1)+1)).at z=_
   rw[KN7.at_upd b7 hz7]
   by_cases e:z=b+1<;>simp[e]
  ·rw[gn c hc,if_neg (fun q=>hc q.1)]
 have outA:∀c m,m∈(gt (Xs.set a Y) c).out↔m∈(gt Xs c).out∨(c=a∧m=s):=fun c m=>by
  by_cases hc:c=a
  ·subst hc;rw[gs]
   show m∈insB ltM s (gt Xs c).out↔_
   rw[insB_mem]
   exact⟨fun q=>q.elim (fun q=> .inr ⟨rfl,q⟩) .inl,fun q=>q.elim .inr fun q=> .inl q.2⟩
  ·rw[gn c hc];exact⟨.inl,fun q=>q.elim (fun x=>x) fun q=>absurd q.1 hc⟩
 have hereA:∀c f,f∈(gt (Xs.set a Y) c).here↔f∈(gt Xs c).here∧¬(c=a∧f.id=id):=fun c f=>by
  by_cases hc:c=a
  ·subst hc;rw[gs]
   show f∈delE id (gt Xs c).here↔_
   rw[delE_mem]
   exact and_congr Iff.rfl ⟨fun q r=>q r.2,fun q r=>q ⟨rfl,r⟩⟩
  ·rw[gn c hc];exact⟨fun q=>⟨q,fun r=>hc r.1⟩,fun q=>q.1⟩
 have hlt:(gt Xs b).lv.at (a+1)<s.number:=by have:=h.le a b ha hb hab;omega
 have wayA:∀c m,c<n→(Way (Xs.set a Y) c m↔Way Xs c m∨(c=a∧m=s)):=fun c m hc=>by
  unfold Way
  rw[lvA,outA]
  constructor
  ·rintro⟨h1|h1,h2⟩
   ·exact .inl ⟨h1,h2⟩
   ·exact .inr h1
  ·rintro(⟨h1,h2⟩|⟨rfl,rfl⟩)
   ·exact⟨.inl h1,h2⟩
   ·exact⟨.inr ⟨rfl,rfl⟩,by rw[ixto hst];exact hlt⟩
 refine⟨⟨n6,by rw[List.length_set];exact h.len,fun c hc=> ?_,fun c d hc hd hcd=> ?_,fun c d hc hd hcd k hk1 hk2=> ?_,fun c hc m hm=> ?_,fun c hc z hz hp=> ?_,fun c d f g hc hd hf hg hid=> ?_,fun c d f m hc hd hf hm=> ?_,fun c d m m' hc hd hm hm' hid=> ?_,fun c hc=> ?_⟩,hereA,fun c=> ?_,wayA⟩
 ·by_cases q:c=a
  ·subst q;rw[gs]
   exact⟨⟨N+1,hx.play (o:= .give id (ix b)) ⟨⟨_,hf1,hf2⟩,⟨by show 1≤((b+1:Nat):Int);omega,by show((b+1:Nat):Int)≤6;omega⟩,h64⟩ (fun _ q=>by cases q)⟩,hz⟩
  ·rw[gn c q];exact h.ok c hc
 ·rw[lvA,gvA _ _ (by omega)]
  have:=h.le c d hc hd hcd
  split
  ·rename_i e
   obtain⟨rfl,e2⟩:=e
   have:d=b:=by omega
   subst this;omega
  ·exact this
 ·rw[lvA]at hk1
  rw[gvA _ _ (by omega)]at hk2
  split at hk2
  ·rename_i e
   obtain⟨rfl,e2⟩:=e
   have:d=b:=by omega
   subst this
   by_cases hk:k=(gt Xs c).gv.at (d+1)+1
   ·exact⟨s,(outA c s).2 (.inr ⟨rfl,rfl⟩),hst,by rw[hsn,hk]⟩
   ·obtain⟨m,hm,h1⟩:=h.all c d hc hd hcd k hk1 (by omega)
    exact⟨m,(outA c m).2 (.inl hm),h1⟩
  ·obtain⟨m,hm,h1⟩:=h.all c d hc hd hcd k hk1 hk2
   exact⟨m,(outA c m).2 (.inl hm),h1⟩
 ·rcases(outA c m).1 hm with h1|⟨rfl,rfl⟩
  ·exact h.to c hc m h1
  ·exact⟨b,hb,Ne.symm hab,hst⟩
 ·rw[lvA]at hp;exact h.lz c hc z hz hp
 ·exact h.hh c d f g hc hd ((hereA c f).1 hf).1 ((hereA d g).1 hg).1 hid
 ·obtain⟨h1,h2⟩:=(hereA c f).1 hf
  rcases(wayA d m hd).1 hm with h3|⟨rfl,rfl⟩
  ·exact h.hw c d f m hc hd h1 h3
  ·intro q
   rw[hse]at q
   have:=h.hh c d f _ hc hd h1 hf1 (q.trans hf2.symm)
   exact h2 ⟨this,q⟩
 ·rcases(wayA c m hc).1 hm with h3|⟨rfl,rfl⟩<;>rcases(wayA d m' hd).1 hm' with h4|⟨rfl,rfl⟩
  ·exact h.ww c d m m' hc hd h3 h4 hid
  ·rw[hse]at hid
   exact absurd (hf2.trans hid.symm) (h.hw d c _ m hd hc hf1 h3)
  ·rw[hse]at hid
   exact absurd (hf2.trans hid) (h.hw c d _ m' hc hd hf1 h4)
  ·exact⟨rfl,rfl⟩
 ·refine⟨fun f hf=>(h.small c hc).1 f ((hereA c f).1 hf).1,fun m hm=> ?_⟩
  rcases(outA c m).1 hm with h1|⟨rfl,rfl⟩
  ·exact(h.small c hc).2 m h1
  ·exact(h.small c hc).1 _ hf1
 ·by_cases hc:c=a
  ·subst hc;rw[gs]
   show(insB ltM s (gt Xs c).out).length≤_
   rw[insB_len];exact Nat.le_refl _
  ·rw[gn c hc];omega
end
end Go.Hv
namespace Go.Sl
section
variable {P:Program}{β:Base}{f:Fm}{L:List Res}
variable {d:Option Tmp}{ty:TypeId}{ps:String}{af:Array Edge}{g:Option (Nat×Bool)}
theorem e_index1{xs:List Value}{x y:Operand}{t len e k:Nat}{ik:IntKind}{z:Value}(hx:ev f x= .agg xs.toArray)(hy:ev f y= .int ik (k:Int))(ht:arB P t len e 1=true)(hz:xs[k]? =some z)(hk:k<len)(hne:tyB P e false 1=true):
  EV P β L f ⟨d,.index t x y,ty,ps,af,g⟩ z:=fun w _=>by
 unfold arB at ht
 simp only[Bool.and_eq_true]at ht
 obtain⟨h1,h2⟩:=ht
 cases hu:P.underlying t with
 |none=>rw[hu]at h1;cases h1
 |some dd=>
  rw[hu]at h1
  cases dd<;>simp only[]at h1<;>try (cases h1)
  rename_i l' e'
  simp only[Bool.and_eq_true,beq_iff_eq]at h1
  obtain⟨rfl,rfl⟩:=h1
  have hs:=(tyF hne).size w
  have ha:=(tyF hne).agg w
  simp only[execOp,hx,hy,Instr.index,asIntOf,Sem.run_bind,run_underlying hu,Sem.run_pure,Result.andThen_ok]
  simp[hk,hs,part,ha]
  obtain⟨h3,rfl⟩:=List.getElem?_eq_some_iff.1 hz
  simp[h3]
end
end Go.Sl
namespace Go.Hv
open Go Go.Sl Go.Proofs Go.Jn
def netL:List Nat→List Nat→List KG→Nat→Bool→List Res
 |G::Gs,S::Ss,X::Xs,N,m=>gateR G S X N m::netL Gs Ss Xs N m
 |_,_,_,_,_=>[]
def netR(Gs Ss:List Nat)(Xs:List KG)(N:Nat)(m:Bool):Res:=Sat (netL Gs Ss Xs N m)
structure NetLen(Gs Ss:List Nat)(Xs:List KG)(n:Nat):Prop where
 g:Gs.length=n
 s:Ss.length=n
 x:Xs.length=n
theorem NetLen.set{Gs Ss:List Nat}{Xs:List KG}{n k:Nat}{X:KG}(h:NetLen Gs Ss Xs n):NetLen Gs Ss (Xs.set k X) n:=⟨h.g,h.s,by rw[List.length_set];exact h.x⟩
theorem netL_mono{N N':Nat}{m:Bool}(hN:N≤N'):∀{Gs Ss:List Nat} {Xs:List KG} {a:PHeap},Sat (netL Gs Ss Xs N m) a→Sat (netL Gs Ss Xs N' m) a
 |G::Gs,S::Ss,X::Xs,a,h=>by
  obtain⟨b,c,hd,h1,h2,h3,h4⟩:=h
  exact⟨b,c,hd,h1,h2,gate_mono hN b h3,netL_mono hN h4⟩
 |[],_,_,_,_=>trivial
 |_::_,[],_,_,_=>trivial
 |_::_,_::_,[],_,_=>trivial
theorem netL_at{N:Nat}{m:Bool}:∀{Gs Ss:List Nat} {Xs:List KG} {k G S:Nat} {X:KG},Gs[k]? =some G→Ss[k]? =some S→Xs[k]? =some X→(gateR G S X N m::netL (Gs.eraseIdx k) (Ss.eraseIdx k) (Xs.eraseIdx k) N m).Perm (netL Gs Ss Xs N m)
 |[],_,_,_,_,_,_,h,_,_=>by simp at h
 |_::_,[],_,_,_,_,_,_,h,_=>by simp at h
 |_::_,_::_,[],_,_,_,_,_,_,h=>by simp at h
 |G::Gs,S::Ss,X::Xs,0,G',S',X',h1,h2,h3=>by
  injection h1 with h1;injection h2 with h2;injection h3 with h3
  subst h1;subst h2;subst h3
  exact .refl _
 |G::Gs,S::Ss,X::Xs,k+1,G',S',X',h1,h2,h3=>by
  have:=netL_at (N:=N) (m:=m) (Gs:=Gs) (Ss:=Ss) (Xs:=Xs) (k:=k) h1 h2 h3
  exact(List.Perm.swap _ _ _).trans (this.cons _)
section
variable {β:Base}{Gs Ss:List Nat}{Xs:List KG}{N N' n k G S:Nat}{X:KG}{m:Bool}{M:List Res}{w:World}
theorem St.netAt(h1:Gs[k]? =some G)(h2:Ss[k]? =some S)(h3:Xs[k]? =some X)(h:St β (netR Gs Ss Xs N m::M) w):St β (gateR G S X N m::netR (Gs.eraseIdx k) (Ss.eraseIdx k) (Xs.eraseIdx k) N m::M) w:=by
 have h4:St β (netL Gs Ss Xs N m++M) w:=h.unbun
 have h5:=h4.perm ((netL_at h1 h2 h3).symm.append_right M)
 have h6:St β (netL (Gs.eraseIdx k) (Ss.eraseIdx k) (Xs.eraseIdx k) N m++(gateR G S X N m::M)) w:=h5.perm (by
  show(gateR G S X N m::(netL _ _ _ N m++M)).Perm _
  exact List.perm_middle.symm)
 have h7:=h6.merge (r:=netR (Gs.eraseIdx k) (Ss.eraseIdx k) (Xs.eraseIdx k) N m) fun _ q=>q
 exact h7.perm (List.Perm.swap _ _ _)
theorem St.netBack{X':KG}(h1:Gs[k]? =some G)(h2:Ss[k]? =some S)(h3:k<Xs.length)(hN:N≤N')(h:St β (gateR G S X' N' m::netR (Gs.eraseIdx k) (Ss.eraseIdx k) (Xs.eraseIdx k) N m::M) w):St β (netR Gs Ss (Xs.set k X') N' m::M) w:=by
 refine St.merge (L:=[gateR G S X' N' m,netR (Gs.eraseIdx k) (Ss.eraseIdx k) (Xs.eraseIdx k) N m]) h fun a ha=> ?_
 have hp:=netL_at (N:=N') (m:=m) (Xs:=Xs.set k X') h1 h2 (List.getElem?_set_self h3)
 rw[List.eraseIdx_set_eq]at hp
 refine Sat.perm hp ?_
 obtain⟨a1,b1,d1,s1,s2,r1,a2,b2,d2,s3,s4,r2,_⟩:=ha
 exact⟨a1,b1,d1,s1,s2,r1,Sat.mono s3 (netL_mono hN r2)⟩
end
theorem NetLen.at_{Gs Ss:List Nat}{Xs:List KG}{n k:Nat}(h:NetLen Gs Ss Xs n)(hk:k<n):∃G S,Gs[k]? =some G∧Ss[k]? =some S∧Xs[k]? =some (gt Xs k):=
 ⟨_,_,List.getElem?_eq_getElem (by rw[h.g];exact hk),List.getElem?_eq_getElem (by rw[h.s];exact hk),gt_get (by rw[h.x];exact hk)⟩
section
variable {β:Base}{Gs Ss:List Nat}{Xs:List KG}{N n k G:Nat}{m:Bool}{w:World}{fid:FuncId}{args:Array Value}
theorem net_act{q:Option Int}{X1 Y:KG}{c:Int}(hw:St β [netR Gs Ss Xs N true] w)(hl:NetLen Gs Ss Xs n)(hk:Gs[k]? =some G)(hq:(q=some c∧Y=gt Xs k)∨(q=none∧c=0∧X1=Y))
 (h:∀(β1:Base) w S,Sub β.heap β1.heap→St β1 [gateR G S (gt Xs k) N true] w→Calls Tryz.prog fid args w fun r w'=>∃e,r= .returned (Ix e)∧St β1 [actG q e G S (gt Xs k) X1 N true] w'):
  Calls Tryz.prog fid args w fun r w'=>r= .returned (Ix c)∧St β [netR Gs Ss (Xs.set k Y) (N+300) true] w':=by
 have hkn:k<n:=by rw[←hl.g];exact(List.getElem?_eq_some_iff.1 hk).1
 obtain⟨G',S,h1,h2,h3⟩:=hl.at_ hkn
 obtain rfl:=Option.some.inj (hk.symm.trans h1)
 obtain⟨β1,sb,kn,hw1,back⟩:=St.frame (L:=[gateR G S (gt Xs k) N true]) (M:=[netR (Gs.eraseIdx k) (Ss.eraseIdx k) (Xs.eraseIdx k) N true]) (St.netAt hk h2 h3 hw)
 refine(h β1 w S sb hw1).mono ?_
 intro r w' hr
 have hx:k<Xs.length:=by rw[hl.x];exact hkn
 rcases hq with⟨hq,rfl⟩|⟨hq,rfl,hY⟩
 ·obtain⟨e1,e2⟩:=act_no hq hr
  exact⟨e1,St.netBack hk h2 hx (by omega) ((back _ _ e2).conseq (gate_mono (by omega)))⟩
 ·obtain⟨e1,e2⟩:=act_yes hq hY (Nat.le_refl _) hr
  exact⟨e1,St.netBack hk h2 hx (by omega) (back _ _ e2)⟩
theorem net_keep{R:Option Addr→Nat→Res}{len:Nat}(hw:St β [netR Gs Ss Xs N m] w)(hl:NetLen Gs Ss Xs n)(hk:Gs[k]? =some G)
 (h:∀(β1:Base) w S,St β1 [gateR G S (gt Xs k) N m] w→Calls Tryz.prog fid args w fun r w'=>∃p c,r= .returned (.slice p len c)∧St β1 [R p c,gateR G S (gt Xs k) N m] w'):
  Calls Tryz.prog fid args w fun r w'=>∃p c,r= .returned (.slice p len c)∧St β [R p c,netR Gs Ss Xs N m] w':=by
 have hkn:k<n:=by rw[←hl.g];exact(List.getElem?_eq_some_iff.1 hk).1
 obtain⟨G',S,h1,h2,h3⟩:=hl.at_ hkn
 obtain rfl:=Option.some.inj (hk.symm.trans h1)
 obtain⟨β1,sb,kn,hw1,back⟩:=St.frame (L:=[gateR G S (gt Xs k) N m]) (M:=[netR (Gs.eraseIdx k) (Ss.eraseIdx k) (Xs.eraseIdx k) N m]) (St.netAt hk h2 h3 hw)
 refine(h β1 w S hw1).mono ?_
 rintro r w' ⟨p,c,e1,e2⟩
 refine⟨p,c,e1,?_⟩
 have hx:k<Xs.length:=by rw[hl.x];exact hkn
 have h4:St β (gateR G S (gt Xs k) N m::netR (Gs.eraseIdx k) (Ss.eraseIdx k) (Xs.eraseIdx k) N m::[R p c]) w':=(back _ _ e2).perm (perm_ix (L:=[R p c,gateR G S (gt Xs k) N m,netR (Gs.eraseIdx k) (Ss.eraseIdx k) (Xs.eraseIdx k) N m]) (L':=[gateR G S (gt Xs k) N m,netR (Gs.eraseIdx k) (Ss.eraseIdx k) (Xs.eraseIdx k) N m,R p c]) [1,2,0] 3 rfl (by kernel_rfl) (by kernel_rfl))
 have h5:=St.netBack hk h2 hx (Nat.le_refl _) h4
 rw[gt_setSame hx]at h5
 exact swp h5
end
end Go.Hv
namespace Go.Hv
open Go Go.Sl Go.Proofs
def freshN(n:Nat):List KG:=(List.range n).map fun i=>freshG (ix i)
theorem gt_fresh{n a:Nat}(h:a<n):gt (freshN n) a=freshG (ix a):=gt_of (by unfold freshN;rw[List.getElem?_map,List.getElem?_range h];rfl)
theorem zero7_at(i:Nat):zero7.at i=0:=by
 unfold KN7.at zero7
 split<;>rfl
theorem net_fresh{n:Nat}(hn:n≤6):Net n (freshN n):=by
 have gf:∀a,a<n→gt (freshN n) a=freshG (ix a):=fun a ha=>gt_fresh ha
 refine⟨hn,by unfold freshN;rw[List.length_map,List.length_range],fun a ha=> ?_,fun a b ha hb _=> ?_,fun a b ha hb _ k h1 h2=> ?_,fun a ha m hm=> ?_,fun a ha z _ hp=> ?_,fun a b e d ha _ he=> ?_,fun a b e m ha _ he=> ?_,fun a b m m' ha _ hm=> ?_,fun a ha=> ?_⟩
 ·rw[gf a ha];exact⟨⟨0,freshG_ok ⟨by show 1≤((a+1:Nat):Int);omega,by show((a+1:Nat):Int)≤6;omega⟩ (Int.le_refl _)⟩,rfl⟩
 ·rw[gf a ha,gf b hb];show zero7.at _≤zero7.at _;rw[zero7_at,zero7_at];exact Int.le_refl _
 ·rw[gf b hb]at h1;rw[gf a ha]at h2
  have h1:zero7.at _<k:=h1
  have h2:k≤zero7.at _:=h2
  rw[zero7_at]at h1 h2;omega
 ·rw[gf a ha]at hm;cases hm
 ·rw[gf a ha]at hp
  have hp:0<zero7.at z:=hp
  rw[zero7_at]at hp;omega
 ·rw[gf a ha]at he;cases he
 ·rw[gf a ha]at he;cases he
 ·have:=hm.1;rw[gf a ha]at this;cases this
 ·rw[gf a ha];exact⟨fun e he=>(by cases he),fun m hm=>(by cases hm)⟩
structure RetOk(at_:Nat)(tag:Int)(Xs:List KG):Prop where
 net:Net 6 Xs
 quiet:Quiet 6 Xs
 here:(gt Xs at_).here=[thE 8 tag]
 none_:∀b,b<6→b≠at_→(gt Xs b).here=[]
def Passes(n:Nat)(X0:List KG):Nat→List KG→Prop
 |0,Xs=>Xs=X0
 |p+1,Xs=>∃X1,Passes n X0 p X1∧PassTo n X1 Xs n
theorem Passes.net{n:Nat}{X0:List KG}(h0:Net n X0):∀{p:Nat} {Xs:List KG},Passes n X0 p Xs→Net n Xs∧Flow n X0 Xs
 |0,_,h=>by have h:_=X0:=h;subst h;exact⟨h0,Flow.refl n _⟩
 |p+1,Xs,⟨X1,h1,h2⟩=>⟨h2.net,(Passes.net h0 h1).2.trans h0.n6 h2.flow⟩
theorem Passes.quiet{n:Nat}{X0 Xs:List KG}(h:Passes n X0 2 Xs):Quiet n Xs:=by
 obtain⟨X1,⟨X2,_,h2⟩,h3⟩:=h
 exact h3.quiet h2.done
theorem Passes.quiet'{n:Nat}{X0:List KG}(h0:Net n X0):∀{p:Nat} {Xs:List KG},Passes n X0 (p+2) Xs→Quiet n Xs
 |0,_,h=>h.quiet
 |p+1,Xs,⟨X1,h1,h2⟩=>by
  have hq:=Passes.quiet' h0 h1
  intro d hd
  refine List.eq_nil_iff_forall_not_mem.2 fun m hm=> ?_
  have:=h2.flow.out d m hm
  rw[hq d hd]at this;cases this
end Go.Hv
namespace Go.Hv
open Go Go.Sl Go.Proofs
def NoneAt(Xs:List KG)(id:Int):Prop:=∀a,a<3→(∀f∈(gt Xs a).here,f.id≠id)∧∀m∈(gt Xs a).out,m.e.id≠id
def OneAt(Xs:List KG)(e:KEnt):Prop:=(∃a,a<3∧e∈(gt Xs a).here)∨∃a m,a<3∧Way Xs a m∧m.e=e
structure TOk(Xs:List KG)(tg:KN7)(i:Nat):Prop where
 net:Net 3 Xs
 len:∀a,a<3→(gt Xs a).out.length≤i
 tag:∀id:Nat,1≤id→id≤6→(tg.at id=0∧NoneAt Xs id)∨((1≤tg.at id∧tg.at id≤100)∧OneAt Xs (thE id (tg.at id)))
structure Mv(Xs Ys:List KG):Prop where
 lv:∀b z,z<7→(gt Xs b).lv.at z≤(gt Ys b).lv.at z
 out:∀a b m,a<3→b<3→m.to=ix b→m∈(gt Xs a).out→(gt Ys b).lv.at (a+1)<m.number→m∈(gt Ys a).out
theorem Mv.refl(Xs:List KG):Mv Xs Xs:=⟨fun _ _ _=>Int.le_refl _,fun _ _ _ _ _ _ h _=>h⟩
def MsgOk(Xs:List KG)(m:KMs):Prop:=∃a b,a<3∧b<3∧a≠b∧m.src=ix a∧m.to=ix b∧0<m.number∧(m.ack=true→m.number≤(gt Xs a).lv.at (b+1))∧(m.ack=false→(gt Xs b).lv.at (a+1)<m.number→m∈(gt Xs a).out)
theorem MsgOk.mv{Xs Ys:List KG}{m:KMs}(h:MsgOk Xs m)(g:Mv Xs Ys):MsgOk Ys m:=by
 obtain⟨a,b,ha,hb,hab,h1,h2,h3,h4,h5⟩:=h
 refine⟨a,b,ha,hb,hab,h1,h2,h3,fun q=>Int.le_trans (h4 q) (g.lv a (b+1) (by omega)),fun q r=>g.out a b m ha hb h2 (h5 q (Int.lt_of_le_of_lt (g.lv b (a+1) (by omega)) r)) r⟩
theorem sort_uni:∀{l:List KEnt} {x y:KEnt},SortE l→x∈l→y∈l→x.id=y.id→x=y
 |a::l,x,y,hp,hx,hy,h1=>by
  rw[SortE,List.pairwise_cons]at hp
  rcases List.mem_cons.1 hx with rfl|hx'<;>rcases List.mem_cons.1 hy with rfl|hy'
  ·rfl
  ·have:=hp.1 _ hy';omega
  ·have:=hp.1 _ hx';omega
  ·exact sort_uni hp.2 hx' hy' h1
section
variable {Xs Ys:List KG}{tg:KN7}{i a b id:Nat}{t:Int}
theorem TOk.mono{j:Nat}(h:TOk Xs tg i)(hj:i≤j):TOk Xs tg j:=⟨h.net,fun a ha=>Nat.le_trans (h.len a ha) hj,h.tag⟩
theorem tok_putted(h:TOk Xs tg i)(ha:a<3)(hid:1≤id∧id≤6)(ht:1≤t∧t≤100)(g:Putted 3 Xs (Xs.set a (playX (gt Xs a) (.put (thE id t)))) a (thE id t)):
  TOk (Xs.set a (playX (gt Xs a) (.put (thE id t)))) (tg.upd id t) i∧Mv Xs (Xs.set a (playX (gt Xs a) (.put (thE id t)))):=by
 have hal:a<Xs.length:=by rw[h.net.len];exact ha
 have hlv:∀c,(gt (Xs.set a (playX (gt Xs a) (.put (thE id t)))) c).lv=(gt Xs c).lv:=fun c=>by
  by_cases e:c=a
  ·subst e;rw[gt_self hal];rfl
  ·rw[gt_ne (Ne.symm e)]
 refine⟨⟨g.net,fun c hc=>by rw[g.out];exact h.len c hc,fun k h1 h2=> ?_⟩,fun c z _=>by rw[hlv];exact Int.le_refl _,fun c d m _ _ _ hm _=>by rw[g.out];exact hm⟩
 rw[KN7.at_upd (by omega) (by omega)]
 by_cases e:k=id
 ·subst e
  rw[if_pos rfl]
  exact .inr ⟨ht,.inl ⟨a,ha,(g.here a _).2 (.inr ⟨rfl,rfl⟩)⟩⟩
 ·rw[if_neg e]
  have hne:((k:Nat):Int)≠((id:Nat):Int):=fun q=>e (by omega)
  rcases h.tag k h1 h2 with⟨h3,h4⟩|⟨h3,h4⟩
  ·refine .inl ⟨h3,fun c hc=>⟨fun f hf=> ?_,fun m hm=>(h4 c hc).2 m (by rw[g.out]at hm;exact hm)⟩⟩
   rcases(g.here c f).1 hf with⟨h5,_⟩|⟨_,rfl⟩
   ·exact(h4 c hc).1 f h5
   ·exact fun q=>hne q.symm
  ·refine .inr ⟨h3,?_⟩
   rcases h4 with⟨c,hc,h5⟩|⟨c,m,hc,h5,h6⟩
   ·exact .inl ⟨c,hc,(g.here c _).2 (.inl ⟨h5,fun q=>hne q.2⟩)⟩
   ·exact .inr ⟨c,m,hc,(g.way c m).2 h5,h6⟩
theorem tok_put(h:TOk Xs tg i)(ha:a<3)(hid:1≤id∧id≤6)(ht:1≤t∧t≤100)(h0:tg.at id=0):
  putF (gt Xs a) (thE id t)=none∧TOk (Xs.set a (playX (gt Xs a) (.put (thE id t)))) (tg.upd id t) i∧Mv Xs (Xs.set a (playX (gt Xs a) (.put (thE id t)))):=by
 have hr:rightE (thE id t)=true:=right_thE ⟨by omega,by omega⟩ ⟨by omega,by omega⟩
 have hn:NoneAt Xs id:=by
  rcases h.tag id hid.1 hid.2 with q|q
  ·exact q.2
  ·omega
 refine⟨?_,tok_putted h ha hid ht (h.net.put ha hr (show((id:Nat):Int)≤8 by omega) (fun b f hb _ hf=>(hn b hb).1 f hf) fun b m hb hm=>(hn b hb).2 m hm.1)⟩
 have h1:hereB (gt Xs a) (thE id t).id=false:=List.any_eq_false.2 fun f hf q=>(hn a ha).1 f hf (of_decide_eq_true q)
 have h2:outB (gt Xs a) (thE id t).id=false:=List.any_eq_false.2 fun m hm q=>(hn a ha).2 m hm (of_decide_eq_true q)
 have h3:=h.net.few ha
 unfold putF
 rw[if_neg (by rw[hr,h1,h2];decide),if_neg (by omega)]
theorem tok_save(h:TOk Xs tg i)(ha:a<3)(hid:1≤id∧id≤6)(ht:1≤t∧t≤100)(hh:hereB (gt Xs a) id=true):
  saveF (gt Xs a) (thE id t)=none∧TOk (Xs.set a (playX (gt Xs a) (.put (thE id t)))) (tg.upd id t) i∧Mv Xs (Xs.set a (playX (gt Xs a) (.put (thE id t)))):=by
 have hr:rightE (thE id t)=true:=right_thE ⟨by omega,by omega⟩ ⟨by omega,by omega⟩
 obtain⟨x,hx,hxi⟩:=here_of hh
 refine⟨?_,tok_putted h ha hid ht (h.net.put ha hr (show((id:Nat):Int)≤8 by omega) (fun b f hb hba hf q=>hba (h.net.hh b a f x hb ha hf hx (q.trans hxi.symm))) fun b m hb hm q=>h.net.hw a b x m ha hb hx hm (hxi.trans q.symm))⟩
 unfold saveF
 rw[if_neg (by rw[hr];decide),if_neg (by rw[show hereB (gt Xs a) (thE id t).id=true from hh];decide)]
abbrev gvE(Xs:List KG)(a id b:Nat):List KG:=Xs.set a (playX (gt Xs a) (.give id (ix b)))
theorem tok_give(h:TOk Xs tg i)(hi:i<64)(ha:a<3)(hb:b<3):
  (giveF (gt Xs a) id (ix b)=some 2∧a=b)∨giveF (gt Xs a) id (ix b)=some 6∨(giveF (gt Xs a) id (ix b)=none∧TOk (gvE Xs a id b) tg (i+1)∧Mv Xs (gvE Xs a id b)):=by
 have hz:=(h.net.ok a ha).2
 by_cases e:a=b
 ·subst e
  refine .inl ⟨?_,rfl⟩
  unfold giveF
  rw[hz,if_pos]
  have:otherB (ix a) (ix a)=false:=by
   cases e:otherB (ix a) (ix a)with
   |false=>rfl
   |true=>exact absurd rfl (other_iff.1 e).2.2
  rw[this];rfl
 refine .inr ?_
 have ho:otherB (gt Xs a).zone (ix b)=true:=by rw[hz];exact other_ix (by omega) (Ne.symm e)
 cases hh:hereB (gt Xs a) id with
 |false=>refine .inl ?_;unfold giveF;rw[if_neg (by rw[ho];decide),if_pos (by rw[hh];rfl)]
 |true=>
  have hl:(gt Xs a).out.length<64:=Nat.lt_of_le_of_lt (h.len a ha) hi
  have g:=h.net.give ha hb e hh hl
  have hal:a<Xs.length:=by rw[h.net.len];exact ha
  have hout:∀c m,m∈(gt (gvE Xs a id b) c).out↔m∈(gt Xs c).out∨(c=a∧m=gMsg (gt Xs a) id (ix b)):=fun c m=>by
   by_cases q:c=a
   ·subst q;rw[gt_self hal]
    show m∈insB ltM _ _↔_
    rw[insB_mem]
    exact⟨fun r=>r.elim (fun r=> .inr ⟨rfl,r⟩) .inl,fun r=>r.elim .inr fun r=> .inl r.2⟩
   ·rw[gt_ne (Ne.symm q)];exact⟨.inl,fun r=>r.elim (·) fun r=>absurd r.1 q⟩
  have hlv:∀c,(gt (gvE Xs a id b) c).lv=(gt Xs c).lv:=fun c=>by
   by_cases q:c=a
   ·subst q;rw[gt_self hal];rfl
   ·rw[gt_ne (Ne.symm q)]
  obtain⟨x,hx,hxi⟩:=here_of hh
  obtain⟨hf1,hf2⟩:=find_spec ⟨x,hx,hxi⟩
  refine .inr ⟨by unfold giveF;rw[if_neg (by rw[ho];decide),if_neg (by rw[hh];decide),if_neg (by omega)],⟨g.net,fun c hc=>Nat.le_trans (g.out c) (Nat.succ_le_succ (h.len c hc)),fun k h1 h2=> ?_⟩,fun c z _=>by rw[hlv];exact Int.le_refl _,fun c d m _ _ _ hm _=>(hout c m).2 (.inl hm)⟩
  rcases h.tag k h1 h2 with⟨h3,h4⟩|⟨h3,h4⟩
  ·refine .inl ⟨h3,fun c hc=>⟨fun f hf=>(h4 c hc).1 f ((g.here c f).1 hf).1,fun m hm=> ?_⟩⟩
   rcases(hout c m).1 hm with h5|⟨_,rfl⟩
   ·exact(h4 c hc).2 m h5
   ·exact(h4 a ha).1 _ hf1
  ·refine .inr ⟨h3,?_⟩
   rcases h4 with⟨c,hc,h5⟩|⟨c,m,hc,h5,h6⟩
   ·by_cases q:c=a∧(thE ((k:Nat):Int) (tg.at k)).id=((id:Nat):Int)
    ·obtain⟨rfl,q⟩:=q
     obtain⟨N,hok⟩:=(h.net.ok c ha).1
     exact .inr ⟨c,_,ha,(g.way c _ ha).2 (.inr ⟨rfl,rfl⟩),sort_uni hok.sort hf1 h5 (hf2.trans q.symm)⟩
    ·exact .inl ⟨c,hc,(g.here c _).2 ⟨h5,q⟩⟩
   ·exact .inr ⟨c,m,hc,(g.way c m hc).2 (.inl h5),h6⟩
theorem tok_msgs(h:TOk Xs tg i)(ha:a<3):∀m∈msgsX (gt Xs a),MsgOk Xs m:=fun m hm=>by
 obtain⟨⟨N,hx⟩,hz⟩:=h.net.ok a ha
 rcases List.mem_append.1 hm with h1|h1
 ·obtain⟨b,hb,hba,ht⟩:=h.net.to a ha m h1
  obtain⟨h2,h3,_,h4,_⟩:=hx.ohd m h1
  exact⟨a,b,ha,hb,Ne.symm hba,h2.trans hz,ht,by omega,fun q=>(by rw[h3]at q;cases q),fun _ _=>h1⟩
 ·obtain⟨h2,h3,z,hz7,hzp,h4,h5⟩:=acks_mem h1
  obtain⟨b,hb,hba,rfl⟩:=h.net.lz a ha z hz7 hzp
  exact⟨a,b,ha,hb,Ne.symm hba,h2.trans hz,h4,by rw[h5];exact hzp,fun _=>Int.le_of_eq h5,fun q=>(by rw[h3]at q;cases q)⟩
theorem tok_flow(h:TOk Xs tg i)(net:Net 3 Ys)(fl:Flow 3 Xs Ys)(len:∀a,a<3→(gt Ys a).out.length≤i):TOk Ys tg i:=by
 refine⟨net,len,fun k h1 h2=> ?_⟩
 rcases h.tag k h1 h2 with⟨h3,h4⟩|⟨h3,h4⟩
 ·refine .inl ⟨h3,fun c hc=>⟨fun f hf=> ?_,fun m hm=>(h4 c hc).2 m (fl.out c m hm)⟩⟩
  rcases fl.p3 c f hf with h5|⟨d,m,hd,h5,_,rfl⟩
  ·exact(h4 c hc).1 f h5
  ·exact(h4 d hd).2 m h5.1
 ·refine .inr ⟨h3,?_⟩
  rcases h4 with⟨c,hc,h5⟩|⟨c,m,hc,h5,h6⟩
  ·exact .inl ⟨c,hc,fl.p1 c _ h5⟩
  ·rcases fl.p2 c m hc h5 with h7|h7
   ·exact .inr ⟨c,m,hc,h7,h6⟩
   ·obtain⟨d,hd,_,ht⟩:=h.net.to c hc m h5.1
    rw[ixto ht,h6]at h7
    exact .inl ⟨d,hd,h7⟩
abbrev tkX(Xs:List KG)(b:Nat)(s:KMs):List KG:=Xs.set b (playX (gt Xs b) (takeO s))
theorem tok_take(h:TOk Xs tg i){s:KMs}(hs:MsgOk Xs s):∃b,b<3∧s.to=ix b∧((∃c,takeF (gt Xs b) s=some c∧(c=0∨c=320))∨(takeF (gt Xs b) s=none∧TOk (tkX Xs b s) tg i∧Mv Xs (tkX Xs b s))):=by
 obtain⟨a,b,ha,hb,hab,h1,h2,h3,h4,h5⟩:=hs
 refine⟨b,hb,h2,?_⟩
 obtain⟨⟨Nb,hxb⟩,hzb⟩:=h.net.ok b hb
 have hbl:b<Xs.length:=by rw[h.net.len];exact hb
 have fin:∀Y,TookTo (gt Xs b) s Y→Net 3 (Xs.set b Y)→Flow 3 Xs (Xs.set b Y)→(∀c m,c<3→m∈(gt Xs c).out→(gt Xs (m.to.toNat-1)).lv.at (c+1)<m.number→m∈(gt (Xs.set b Y) c).out)→Y.out.length≤(gt Xs b).out.length→
   (∃c,takeF (gt Xs b) s=some c∧(c=0∨c=320))∨(takeF (gt Xs b) s=none∧TOk (tkX Xs b s) tg i∧Mv Xs (tkX Xs b s)):=fun Y tk net fl ow hl=>by
  rcases tk with⟨q,_⟩|⟨q,hY⟩
  ·exact .inl ⟨0,q,.inl rfl⟩
  ·rw[hY]at net fl ow hl
   refine .inr ⟨q,tok_flow h net fl fun c hc=> ?_,fl.lv,fun c d m hc hd hmt hm hlt=>ow c m hc hm ?_⟩
   ·by_cases e:c=b
    ·subst e;rw[gt_self hbl];exact Nat.le_trans hl (h.len c hc)
    ·rw[gt_ne (Ne.symm e)];exact h.len c hc
   ·rw[ixto hmt];exact Int.lt_of_le_of_lt (fl.lv d (c+1) (by omega)) hlt
 cases hk:s.ack with
 |true=>
  obtain⟨Y,tk,net,fl,_,ow⟩:=h.net.ack ha hb hab h1 hk h2 (h4 hk) h3
  refine fin Y tk net fl ow ?_
  rcases tk with⟨_,hY⟩|⟨_,hY⟩
  ·rw[hY];exact Nat.le_refl _
  ·rw[hY];unfold takeO;rw[if_pos hk];exact List.length_filter_le ..
 |false=>
  have ho:otherB (gt Xs b).zone s.src=true:=by rw[hzb,h1];exact other_ix (by omega) hab
  have h0:takeF (gt Xs b) s=takeE (gt Xs b) s:=by
   unfold takeF
   rw[if_neg (by rw[ho,hzb,h2];simp),hk,if_neg (by decide)]
  have hsn:s.src.toNat=a+1:=by rw[h1];rfl
  by_cases hold:s.number≤(gt Xs b).lv.at (a+1)
  ·refine .inl ⟨0,?_,.inl rfl⟩
   rw[h0];unfold takeE;rw[hsn,if_pos hold]
  ·by_cases hl:s.number≤(gt Xs b).lv.at (a+1)+1
   ·obtain⟨Y,tk,net,fl,_⟩:=h.net.take ha hb hab (h5 hk (by omega)) h2 hl
    have hYo:Y.out=(gt Xs b).out:=by
     rcases tk with⟨_,hY⟩|⟨_,hY⟩
     ·rw[hY]
     ·rw[hY];unfold takeO;rw[hk,if_neg (by decide)];rfl
    refine fin Y tk net fl (fun c m _ hm _=> ?_) (by rw[hYo];exact Nat.le_refl _)
    by_cases e:c=b
    ·subst e;rw[gt_self hbl,hYo];exact hm
    ·rw[gt_ne (Ne.symm e)];exact hm
   ·refine .inl ⟨320,?_,.inr rfl⟩
    rw[h0];unfold takeE;rw[hsn,if_neg hold,if_pos (by omega)]
end
def wayB(Xs:List KG)(z:Nat)(m:KMs):Bool:=decide ((gt Xs (m.to.toNat-1)).lv.at (z+1)<m.number)
def plH(id:Int)(l:List KEnt):List KEnt:=l.filter fun e=>decide (e.id=id)
def plO(Xs:List KG)(z:Nat)(id:Int)(l:List KMs):List KEnt:=(l.filter fun m=>decide (m.e.id=id)&&wayB Xs z m).map (·.e)
def plG(Xs:List KG)(id:Int)(z:Nat):List KEnt:=plH id (gt Xs z).here++plO Xs z id (gt Xs z).out
def plA(Xs:List KG)(id:Int)(n:Nat):List KEnt:=(List.range n).flatMap (plG Xs id)
theorem plH_mem{id:Int}{l:List KEnt}{e:KEnt}:e∈plH id l↔e∈l∧e.id=id:=by unfold plH;rw[List.mem_filter,decide_eq_true_iff]
theorem plO_mem{Xs:List KG}{z:Nat}{id:Int}{e:KEnt}:e∈plO Xs z id (gt Xs z).out↔∃m,Way Xs z m∧m.e=e∧e.id=id:=by
 unfold plO
 rw[List.mem_map]
 constructor
 ·rintro⟨m,hm,rfl⟩
  obtain⟨h1,h2⟩:=List.mem_filter.1 hm
  rw[Bool.and_eq_true,decide_eq_true_iff]at h2
  exact⟨m,⟨h1,of_decide_eq_true h2.2⟩,rfl,h2.1⟩
 ·rintro⟨m,⟨h1,h2⟩,rfl,h3⟩
  exact⟨m,List.mem_filter.2 ⟨h1,by rw[Bool.and_eq_true];exact⟨decide_eq_true h3,decide_eq_true h2⟩⟩,rfl⟩
theorem plA_mem{Xs:List KG}{id:Int}{e:KEnt}{n:Nat}:e∈plA Xs id n↔∃z,z<n∧(e∈(gt Xs z).here∧e.id=id∨∃m,Way Xs z m∧m.e=e∧e.id=id):=by
 unfold plA
 rw[List.mem_flatMap]
 constructor
 ·rintro⟨z,hz,h⟩
  refine⟨z,List.mem_range.1 hz,?_⟩
  rcases List.mem_append.1 h with h|h
  ·exact .inl (plH_mem.1 h)
  ·exact .inr (plO_mem.1 h)
 ·rintro⟨z,hz,h⟩
  refine⟨z,List.mem_range.2 hz,List.mem_append.2 ?_⟩
  rcases h with h|h
  ·exact .inl (plH_mem.2 h)
  ·exact .inr (plO_mem.2 h)
theorem pw_len{α:Type}{l:List α}(h:l.Pairwise fun _ _=>False):l.length≤1:=by
 match l,h with
 |[],_=>exact Nat.zero_le _
 |[_],_=>exact Nat.le_refl _
 |a::b::l,h=>rw[List.pairwise_cons]at h;exact absurd (h.1 b List.mem_cons_self) id
theorem plA_len{Xs:List KG}(h:Net 3 Xs)(id:Int):(plA Xs id 3).length≤1:=by
 refine pw_len ?_
 unfold plA
 rw[List.pairwise_flatMap]
 refine⟨fun a ha=> ?_,?_⟩
 ·have ha:=List.mem_range.1 ha
  obtain⟨N,hx⟩:=(h.ok a ha).1
  unfold plG
  rw[List.pairwise_append]
  refine⟨?_,?_,fun x hx y hy=> ?_⟩
  ·refine List.Pairwise.imp_of_mem ?_ (hx.sort.filter fun e=>decide (e.id=id))
   intro x y hx hy hlt
   have h1:=(plH_mem.1 hx).2;have h2:=(plH_mem.1 hy).2
   omega
  ·unfold plO
   rw[List.pairwise_map]
   refine List.Pairwise.imp_of_mem ?_ (hx.osort.filter fun m=>decide (m.e.id=id)&&wayB Xs a m)
   intro x y hx hy hlt
   obtain⟨h1,h2⟩:=List.mem_filter.1 hx;obtain⟨h3,h4⟩:=List.mem_filter.1 hy
   rw[Bool.and_eq_true,decide_eq_true_iff]at h2 h4
   obtain⟨_,rfl⟩:=h.ww a a x y ha ha ⟨h1,of_decide_eq_true h2.2⟩ ⟨h3,of_decide_eq_true h4.2⟩ (h2.1.trans h4.1.symm)
   rcases hlt with q|q<;>omega
  ·obtain⟨h1,h2⟩:=plH_mem.1 hx
   obtain⟨m,h3,rfl,h4⟩:=plO_mem.1 hy
   exact h.hw a a x m ha ha h1 h3 (h2.trans h4.symm)
 ·refine List.Pairwise.imp_of_mem ?_ List.pairwise_lt_range
  intro a b ha hb hlt x hx y hy
  have ha:=List.mem_range.1 ha;have hb:=List.mem_range.1 hb
  rcases List.mem_append.1 hx with hx|hx<;>rcases List.mem_append.1 hy with hy|hy
  ·obtain⟨h1,h2⟩:=plH_mem.1 hx;obtain⟨h3,h4⟩:=plH_mem.1 hy
   have:=h.hh a b x y ha hb h1 h3 (h2.trans h4.symm);omega
  ·obtain⟨h1,h2⟩:=plH_mem.1 hx;obtain⟨m,h3,rfl,h4⟩:=plO_mem.1 hy
   exact h.hw a b x m ha hb h1 h3 (h2.trans h4.symm)
  ·obtain⟨m,h3,rfl,h4⟩:=plO_mem.1 hx;obtain⟨h1,h2⟩:=plH_mem.1 hy
   exact h.hw b a y m hb ha h1 h3 (h2.trans h4.symm)
  ·obtain⟨m,h3,rfl,h4⟩:=plO_mem.1 hx;obtain⟨m2,h5,rfl,h6⟩:=plO_mem.1 hy
   have:=(h.ww a b m m2 ha hb h3 h5 (h4.trans h6.symm)).1;omega
theorem plA_none{Xs:List KG}{id:Int}(h:NoneAt Xs id):plA Xs id 3=[]:=List.eq_nil_iff_forall_not_mem.2 fun e he=>by
 obtain⟨z,hz,⟨h1,h2⟩|⟨m,h1,rfl,h2⟩⟩:=plA_mem.1 he
 ·exact(h z hz).1 e h1 h2
 ·exact(h z hz).2 m h1.1 h2
theorem plA_one{Xs:List KG}{id:Int}{e:KEnt}(hn:Net 3 Xs)(h:OneAt Xs e)(hid:e.id=id):plA Xs id 3=[e]:=by
 have hm:e∈plA Xs id 3:=by
  rw[plA_mem]
  rcases h with⟨a,ha,h1⟩|⟨a,m,ha,h1,h2⟩
  ·exact⟨a,ha,.inl ⟨h1,hid⟩⟩
  ·exact⟨a,ha,.inr ⟨m,h1,h2,hid⟩⟩
 have hl:=plA_len hn id
 match hq:plA Xs id 3,hm,hl with
 |[x],hm,_=>rw[List.mem_singleton.1 hm]
 |x::y::l,_,hl=>simp at hl
end Go.Hv
namespace Go.Hv
open Go Go.Sl Go.Proofs Go.Jn
def EnR:Rp KEnt:=⟨2,fun h cs e=>∃v,cs=[Ix e.id,v]∧v.oneCell'=true∧Sl CpF.R h v e.comps,fun _ _ _ ⟨_,e,_⟩=>by rw[e];rfl,fun _ _ h h' hs ⟨v,e,ho,hv⟩=>⟨v,e,ho,Sl.mono CpF.R v _ h h' hs hv⟩⟩
def Zip(xs:List KEh)(es:List KEnt)(zs:EPool):Prop:=xs.length=es.length∧∀(i:Nat) x e,xs[i]? =some x→es[i]? =some e→(x,e)∈zs∧EHd (x,e)
theorem Zip.of{zs:EPool}{es:List KEnt}(h1:zs.map Prod.snd=es)(h2:∀z∈zs,EHd z):Zip (zs.map Prod.fst) es zs:=by
 subst h1
 refine⟨by rw[List.length_map,List.length_map],fun i x e hx he=> ?_⟩
 rw[List.getElem?_map]at hx he
 cases hz:zs[i]? with
 |none=>rw[hz]at hx;cases hx
 |some z=>
  rw[hz]at hx he
  injection hx with hx;injection he with he
  subst hx;subst he
  have:=List.mem_of_getElem? hz
  exact⟨this,h2 z this⟩
theorem Zip.more{xs:List KEh}{es:List KEnt}{zs:EPool}(h:Zip xs es zs)(z:KEh×KEnt):Zip xs es (zs++[z]):=⟨h.1,fun i x e hx he=>⟨List.mem_append_left _ (h.2 i x e hx he).1,(h.2 i x e hx he).2⟩⟩
theorem Zip.set{xs:List KEh}{es:List KEnt}{zs:EPool}(h:Zip xs es zs){k:Nat}{x:KEh}{e:KEnt}(hz:EHd (x,e)):Zip (xs.set k x) (es.set k e) (zs++[(x,e)]):=by
 refine⟨by rw[List.length_set,List.length_set];exact h.1,fun i y d hy hd=> ?_⟩
 rw[List.getElem?_set]at hy hd
 by_cases hk:k=i
 ·rw[if_pos hk]at hy hd
  split at hy
  ·split at hd
   ·injection hy with hy;injection hd with hd
    subst hy;subst hd
    exact⟨List.mem_append_right _ (List.mem_singleton.2 rfl),hz⟩
   ·cases hd
  ·cases hy
 ·rw[if_neg hk]at hy hd
  exact⟨List.mem_append_left _ (h.2 i y d hy hd).1,(h.2 i y d hy hd).2⟩
theorem Zip.take{xs:List KEh}{es:List KEnt}{zs:EPool}(h:Zip xs es zs)(n:Nat):Zip (xs.take n) (es.take n) zs:=by
 refine⟨by rw[List.length_take,List.length_take,h.1],fun i y d hy hd=> ?_⟩
 rw[List.getElem?_take]at hy hd
 split at hy
 ·rename_i hi
  rw[if_pos hi]at hd
  exact h.2 i y d hy hd
 ·cases hy
def seen2R(p:Option Addr)(n c:Nat)(es:List KEnt)(p':Option Addr)(n' c':Nat)(es':List KEnt):Res:=fun h=>Sl EnR h (.slice p n c) es∧Sl EnR h (.slice p' n' c') es'
theorem seen2R.mono(p:Option Addr)(n c:Nat)(es:List KEnt)(p':Option Addr)(n' c':Nat)(es':List KEnt):Mono (seen2R p n c es p' n' c' es'):=fun _ _ hs ⟨a,b⟩=>⟨Sl.mono _ _ _ _ _ hs a,Sl.mono _ _ _ _ _ hs b⟩
section
variable {β:Base}{L:List Res}{p p':Option Addr}{n c n' c':Nat}{es es':List KEnt}
end
end Go.Hv
namespace Go.Hv
open Go Go.Sl Go.Proofs Go.Jn
theorem down_do{β:Base}{G:Nat}{X:KG}{w:World}{fid:FuncId}{args:Array Value}{r0:Value}(hw:St β [downR G X] w)(h:∀β2 w,St β2 [] w→BadUp β2 (.pointer (some ⟨G,0,none⟩)) 310→Calls Tryz.prog fid args w fun r w'=>r= .returned r0∧St β2 [] w'):Calls Tryz.prog fid args w fun r w'=>r= .returned r0∧St β [downR G X] w':=by
 obtain⟨J,hw⟩:=St.openDown hw
 obtain⟨β1,back,hb,hw1⟩:=bad_down hw
 exact(h β1 w hw1 hb).mono fun _ w' ⟨h1,h2⟩=>⟨h1,St.closeDown (back [] w' h2)⟩
theorem gopenZ_ok(β:Base)(w:World)(S N:Nat)(X:KG)(m:Bool)(hw:St β [shelfR S X N m] w)(hN:N≤54000000)(z:Int)(hz:X.zone=z):Calls Tryz.prog 9 #[Ix z,.pointer (some ⟨S,0,none⟩)] w fun r w'=>∃e p,r= .returned (.tuple #[.pointer p,Ix e])∧St β [openG e p S X N m] w':=by
 subst hz;exact gopen_ok β w S N X m hw hN
end Go.Hv
namespace Go.Hv
open Go Go.Sl Go.Proofs Go.Jn
abbrev gp(G:Nat):Value:= .pointer (some ⟨G,0,none⟩)
theorem took_or{X Y:KG}{s:KMs}(h:TookTo X s Y):(takeF X s=some 0∧Y=X)∨(takeF X s=none∧(0:Int)=0∧playX X (takeO s)=Y):=h.imp id fun z=>⟨z.1,rfl,z.2.symm⟩
theorem msgs_len{n a:Nat}{Xs:List KG}(h:Net n Xs)(ha:a<n):(msgsX (gt Xs a)).length≤71:=by
 obtain⟨⟨N,hx⟩,_⟩:=h.ok a ha
 have h1:=hx.ofew
 have h2:(acksTo (gt Xs a) 7).length≤7:=by unfold acksTo;rw[List.length_map];exact Nat.le_trans (List.length_filter_le ..) (Nat.le_of_eq List.length_range)
 unfold msgsX;rw[List.length_append];omega
end Go.Hv
namespace Go.Hv
open Go Go.Sl Go.Proofs Go.Jn
structure P3 where
 a0:Option Nat
 a1:Option Nat
 a2:Option Nat
def P3.toL(z:P3):List (Option Nat):=[z.a0,z.a1,z.a2]
def P3.at(z:P3):Nat→Option Nat|0=>z.a0|1=>z.a1|_=>z.a2
def P3.upd(z:P3)(k:Nat)(v:Option Nat):P3:=match k with|0=>{z with a0:=v}|1=>{z with a1:=v}|_=>{z with a2:=v}
abbrev none3:P3:=⟨none,none,none⟩
abbrev ptv(o:Option Nat):Value:= .pointer (o.map fun g=>⟨g,0,none⟩)
abbrev OpF:Fl (Option Nat):=⟨1,fun o=>[ptv o],fun _=>rfl,fun _=>rfl,by decide⟩
theorem three{k:Nat}(h:k<3):k=0∨k=1∨k=2:=by omega
theorem P3.get{z:P3}{k:Nat}(h:k<3):z.toL[k]? =some (z.at k):=by rcases three h with rfl|rfl|rfl<;>rfl
theorem P3.at_upd{z:P3}{i j:Nat}{v:Option Nat}(hi:i<3)(hj:j<3):(z.upd i v).at j=if j=i then v else z.at j:=by
 rcases three hi with rfl|rfl|rfl<;>rcases three hj with rfl|rfl|rfl<;>rfl
def tC(ss gs:P3)(p:Option Addr)(n c:Nat)(tg nx:KN7):Array Value:= #[ptv ss.a0,ptv ss.a1,ptv ss.a2,ptv gs.a0,ptv gs.a1,ptv gs.a2,.slice p n c,Ix tg.n0,Ix tg.n1,Ix tg.n2,Ix tg.n3,Ix tg.n4,Ix tg.n5,Ix tg.n6,Ix nx.n0,Ix nx.n1,Ix nx.n2,Ix nx.n3,Ix nx.n4,Ix nx.n5,Ix nx.n6]
def twR(T:Nat)(ss gs:P3)(p:Option Addr)(n c:Nat)(tg nx:KN7):Res:=pt T (.cells (tC ss gs p n c tg nx) 58)
section
variable {ss gs:P3}{p:Option Addr}{n c k:Nat}{tg nx:KN7}
theorem over_ts{o:Option Nat}(h:k<3):over (tC ss gs p n c tg nx) (0+k) [ptv o]=tC (ss.upd k o) gs p n c tg nx:=by rcases three h with rfl|rfl|rfl<;>rfl
theorem over_tgs{o:Option Nat}(h:k<3):over (tC ss gs p n c tg nx) (3+k) [ptv o]=tC ss (gs.upd k o) p n c tg nx:=by rcases three h with rfl|rfl|rfl<;>rfl
theorem over_ttg{v:Int}(h:k<7):over (tC ss gs p n c tg nx) (7+k) [Ix v]=tC ss gs p n c (tg.upd k v) nx:=by rcases seven h with rfl|rfl|rfl|rfl|rfl|rfl|rfl<;>rfl
theorem over_tnx{v:Int}(h:k<7):over (tC ss gs p n c tg nx) (14+k) [Ix v]=tC ss gs p n c tg (nx.upd k v):=by rcases seven h with rfl|rfl|rfl|rfl|rfl|rfl|rfl<;>rfl
theorem upd_same7{z:KN7}(h:k<7):z.upd k (z.at k)=z:=by rcases seven h with rfl|rfl|rfl|rfl|rfl|rfl|rfl<;>rfl
end
section
variable {P:Program}{β:Base}{L:List Res}{f:Fm}{d:Option Tmp}{ty:TypeId}{ps:String}{af:Array Edge}{g:Option (Nat×Bool)}{ss gs:P3}{pq:Option Addr}{n c k T:Nat}{tg nx:KN7}
theorem m_twS{x y:Operand}{t:Nat}{o:Option Nat}(i:Nat)(ht:tyB P t false 1=true)(hx:ev f x= .pointer (some ((⟨T,0,none⟩:Addr).add (k*1))))(hy:ev f y=ptv o)(hi:L[i]? =some (twR T ss gs pq n c tg nx))(hk:k<3):
  MU P β L f ⟨d,.store t x y,ty,ps,af,g⟩ (L.set i (twR T (ss.upd k o) gs pq n c tg nx)):=
 m_store (o:=0+k) i ht (by rw[hx,addr0,Nat.mul_one]) hi hy rfl (by rw[Nat.ble_eq];show _≤21;omega) rfl (over_ts hk)
theorem m_twG{x y:Operand}{t:Nat}{o:Option Nat}(i:Nat)(ht:tyB P t false 1=true)(hx:ev f x= .pointer (some ((⟨T,3,none⟩:Addr).add (k*1))))(hy:ev f y=ptv o)(hi:L[i]? =some (twR T ss gs pq n c tg nx))(hk:k<3):
  MU P β L f ⟨d,.store t x y,ty,ps,af,g⟩ (L.set i (twR T ss (gs.upd k o) pq n c tg nx)):=
 m_store (o:=3+k) i ht (by rw[hx,addr0,Nat.mul_one]) hi hy rfl (by rw[Nat.ble_eq];show _≤21;omega) rfl (over_tgs hk)
theorem m_twT{x y:Operand}{t:Nat}{v:Int}(i:Nat)(ht:tyB P t false 1=true)(hx:ev f x= .pointer (some ((⟨T,7,none⟩:Addr).add (k*1))))(hy:ev f y=Ix v)(hi:L[i]? =some (twR T ss gs pq n c tg nx))(hk:k<7):
  MU P β L f ⟨d,.store t x y,ty,ps,af,g⟩ (L.set i (twR T ss gs pq n c (tg.upd k v) nx)):=
 m_store (o:=7+k) i ht (by rw[hx,addr0,Nat.mul_one]) hi hy rfl (by rw[Nat.ble_eq];show _≤21;omega) rfl (over_ttg hk)
theorem m_twN{x y:Operand}{t:Nat}{v:Int}(i:Nat)(ht:tyB P t false 1=true)(hx:ev f x= .pointer (some ((⟨T,14,none⟩:Addr).add (k*1))))(hy:ev f y=Ix v)(hi:L[i]? =some (twR T ss gs pq n c tg nx))(hk:k<7):
  MU P β L f ⟨d,.store t x y,ty,ps,af,g⟩ (L.set i (twR T ss gs pq n c tg (nx.upd k v))):=
 m_store (o:=14+k) i ht (by rw[hx,addr0,Nat.mul_one]) hi hy rfl (by rw[Nat.ble_eq];show _≤21;omega) rfl (over_tnx hk)
theorem m_twP{x y:Operand}{t:Nat}{p':Option Addr}{n' c':Nat}(i:Nat)(ht:tyB P t false 1=true)(hx:ev f x= .pointer (some ⟨T,6,none⟩))(hy:ev f y= .slice p' n' c')(hi:L[i]? =some (twR T ss gs pq n c tg nx)):
  MU P β L f ⟨d,.store t x y,ty,ps,af,g⟩ (L.set i (twR T ss gs p' n' c' tg nx)):=
 m_store (o:=6) i ht hx hi hy rfl rfl rfl rfl
theorem k_twS(i:Nat)(hi:L[i]? =some (twR T ss gs pq n c tg nx))(hk:k<3):Knows β L (fun h=>Cs h ((⟨T,0,none⟩:Addr).add (k*1)) [ptv (ss.at k)]):=
 Knows.imp (k_pt (cs:=tC ss gs pq n c tg nx) i (o:=0) (vs:=[ptv ss.a0,ptv ss.a1,ptv ss.a2]) hi rfl) fun _ h=>cs_fl (F:=OpF) (xs:=ss.toL) h (P3.get hk)
theorem k_twG(i:Nat)(hi:L[i]? =some (twR T ss gs pq n c tg nx))(hk:k<3):Knows β L (fun h=>Cs h ((⟨T,3,none⟩:Addr).add (k*1)) [ptv (gs.at k)]):=
 Knows.imp (k_pt (cs:=tC ss gs pq n c tg nx) i (o:=3) (vs:=[ptv gs.a0,ptv gs.a1,ptv gs.a2]) hi rfl) fun _ h=>cs_fl (F:=OpF) (xs:=gs.toL) h (P3.get hk)
theorem k_twA(i:Nat)(hi:L[i]? =some (twR T ss gs pq n c tg nx)):Knows β L (fun h=>Cs h ⟨T,3,none⟩ (gs.toL.map ptv)):=k_pt (cs:=tC ss gs pq n c tg nx) i (o:=3) (vs:=[ptv gs.a0,ptv gs.a1,ptv gs.a2]) hi rfl
theorem k_twP(i:Nat)(hi:L[i]? =some (twR T ss gs pq n c tg nx)):Knows β L (fun h=>Cs h ⟨T,6,none⟩ [.slice pq n c]):=k_pt (cs:=tC ss gs pq n c tg nx) i (o:=6) (vs:=[.slice pq n c]) hi rfl
theorem k_twT(i:Nat)(hi:L[i]? =some (twR T ss gs pq n c tg nx))(hk:k<7):Knows β L (fun h=>Cs h ((⟨T,7,none⟩:Addr).add (k*1)) [Ix (tg.at k)]):=
 Knows.imp (k_pt (cs:=tC ss gs pq n c tg nx) i (o:=7) (vs:=[Ix tg.n0,Ix tg.n1,Ix tg.n2,Ix tg.n3,Ix tg.n4,Ix tg.n5,Ix tg.n6]) hi rfl) fun _ h=>cs_fl (F:=IntF) (xs:=tg.toL) h (KN7.get hk)
theorem k_twN(i:Nat)(hi:L[i]? =some (twR T ss gs pq n c tg nx))(hk:k<7):Knows β L (fun h=>Cs h ((⟨T,14,none⟩:Addr).add (k*1)) [Ix (nx.at k)]):=
 Knows.imp (k_pt (cs:=tC ss gs pq n c tg nx) i (o:=14) (vs:=[Ix nx.n0,Ix nx.n1,Ix nx.n2,Ix nx.n3,Ix nx.n4,Ix nx.n5,Ix nx.n6]) hi rfl) fun _ h=>cs_fl (F:=IntF) (xs:=nx.toL) h (KN7.get hk)
theorem k_twSe{S:Nat}(i:Nat)(hi:L[i]? =some (twR T ss gs pq n c tg nx))(hk:k<3)(hS:ss.at k=some S):Knows β L (fun h=>Cs h ((⟨T,0,none⟩:Addr).add (k*1)) [gp S]):=by
 have:=k_twS (β:=β) (L:=L) i hi hk
 rw[hS]at this;exact this
theorem k_twGe{G:Nat}(i:Nat)(hi:L[i]? =some (twR T ss gs pq n c tg nx))(hk:k<3)(hG:gs.at k=some G):Knows β L (fun h=>Cs h ((⟨T,3,none⟩:Addr).add (k*1)) [gp G]):=by
 have:=k_twG (β:=β) (L:=L) i hi hk
 rw[hG]at this;exact this
end
def stR(G S:Nat)(X:KG)(N:Nat):Nat→Res
 |0=>Sat [downR G X,shelfR S X N false]
 |1=>gateR G S X N false
 |_=>gateR G S X N true
theorem st_mono{G S N N':Nat}{X:KG}(hN:N≤N'):∀(u:Nat) (a:PHeap),stR G S X N u a→stR G S X N' u a
 |0,a,h=>by
  obtain⟨a1,b1,d1,s1,s2,r1,a2,b2,d2,s3,s4,r2,h3⟩:=h
  exact⟨a1,b1,d1,s1,s2,r1,a2,b2,d2,s3,s4,shelf_mono hN _ r2,h3⟩
 |1,a,h=>gate_mono hN a h
 |_+2,a,h=>gate_mono hN a h
def tnL:List Nat→List Nat→List KG→List Nat→Nat→List Res
 |G::Gs,S::Ss,X::Xs,u::Us,N=>stR G S X N u::tnL Gs Ss Xs Us N
 |_,_,_,_,_=>[]
def tnR(Gs Ss:List Nat)(Xs:List KG)(Us:List Nat)(N:Nat):Res:=Sat (tnL Gs Ss Xs Us N)
theorem tnL_mono{N N':Nat}(hN:N≤N'):∀{Gs Ss:List Nat} {Xs:List KG} {Us:List Nat} {a:PHeap},Sat (tnL Gs Ss Xs Us N) a→Sat (tnL Gs Ss Xs Us N') a
 |G::Gs,S::Ss,X::Xs,u::Us,a,h=>by
  obtain⟨b,c,hd,h1,h2,h3,h4⟩:=h
  exact⟨b,c,hd,h1,h2,st_mono hN u b h3,tnL_mono hN h4⟩
 |[],_,_,_,_,_=>trivial
 |_::_,[],_,_,_,_=>trivial
 |_::_,_::_,[],_,_,_=>trivial
 |_::_,_::_,_::_,[],_,_=>trivial
theorem tnL_at{N:Nat}:∀{Gs Ss:List Nat} {Xs:List KG} {Us:List Nat} {k G S u:Nat} {X:KG},Gs[k]? =some G→Ss[k]? =some S→Xs[k]? =some X→Us[k]? =some u→(stR G S X N u::tnL (Gs.eraseIdx k) (Ss.eraseIdx k) (Xs.eraseIdx k) (Us.eraseIdx k) N).Perm (tnL Gs Ss Xs Us N)
 |[],_,_,_,_,_,_,_,_,h,_,_,_=>by simp at h
 |_::_,[],_,_,_,_,_,_,_,_,h,_,_=>by simp at h
 |_::_,_::_,[],_,_,_,_,_,_,_,_,h,_=>by simp at h
 |_::_,_::_,_::_,[],_,_,_,_,_,_,_,_,h=>by simp at h
 |G::Gs,S::Ss,X::Xs,u::Us,0,G',S',u',X',h1,h2,h3,h4=>by
  injection h1 with h1;injection h2 with h2;injection h3 with h3;injection h4 with h4
  subst h1;subst h2;subst h3;subst h4
  exact .refl _
 |G::Gs,S::Ss,X::Xs,u::Us,k+1,G',S',u',X',h1,h2,h3,h4=>by
  have:=tnL_at (N:=N) (Gs:=Gs) (Ss:=Ss) (Xs:=Xs) (Us:=Us) (k:=k) h1 h2 h3 h4
  exact(List.Perm.swap _ _ _).trans (this.cons _)
section
variable {β:Base}{Gs Ss Us:List Nat}{Xs:List KG}{N N' k G S u:Nat}{X:KG}{M:List Res}{w:World}
theorem St.tnAt(h1:Gs[k]? =some G)(h2:Ss[k]? =some S)(h3:Xs[k]? =some X)(h4:Us[k]? =some u)(h:St β (tnR Gs Ss Xs Us N::M) w):St β (stR G S X N u::tnR (Gs.eraseIdx k) (Ss.eraseIdx k) (Xs.eraseIdx k) (Us.eraseIdx k) N::M) w:=by
 have h5:St β (tnL Gs Ss Xs Us N++M) w:=h.unbun
 have h6:=h5.perm ((tnL_at h1 h2 h3 h4).symm.append_right M)
 have h7:St β (tnL (Gs.eraseIdx k) (Ss.eraseIdx k) (Xs.eraseIdx k) (Us.eraseIdx k) N++(stR G S X N u::M)) w:=h6.perm (by
  show(stR G S X N u::(tnL _ _ _ _ N++M)).Perm _
  exact List.perm_middle.symm)
 have h8:=h7.merge (r:=tnR (Gs.eraseIdx k) (Ss.eraseIdx k) (Xs.eraseIdx k) (Us.eraseIdx k) N) fun _ q=>q
 exact h8.perm (List.Perm.swap _ _ _)
theorem St.tnBack{G' u':Nat}{X':KG}(h1:k<Gs.length)(h2:Ss[k]? =some S)(h3:k<Xs.length)(h4:k<Us.length)(hN:N≤N')(h:St β (stR G' S X' N' u'::tnR (Gs.eraseIdx k) (Ss.eraseIdx k) (Xs.eraseIdx k) (Us.eraseIdx k) N::M) w):St β (tnR (Gs.set k G') Ss (Xs.set k X') (Us.set k u') N'::M) w:=by
 refine St.merge (L:=[stR G' S X' N' u',tnR (Gs.eraseIdx k) (Ss.eraseIdx k) (Xs.eraseIdx k) (Us.eraseIdx k) N]) h fun a ha=> ?_
 have hp:=tnL_at (N:=N') (List.getElem?_set_self (a:=G') h1) h2 (List.getElem?_set_self (a:=X') h3) (List.getElem?_set_self (a:=u') h4)
 rw[List.eraseIdx_set_eq,List.eraseIdx_set_eq,List.eraseIdx_set_eq]at hp
 refine Sat.perm hp ?_
 obtain⟨a1,b1,d1,s1,s2,r1,a2,b2,d2,s3,s4,r2,_⟩:=ha
 exact⟨a1,b1,d1,s1,s2,r1,Sat.mono s3 (tnL_mono hN r2)⟩
end
theorem list3{α:Type}{l:List α}(h:l.length=3):∃a b c,l=[a,b,c]:=by
 match l,h with
 |[a,b,c],_=>exact⟨a,b,c,rfl⟩
theorem tn_up{Gs Ss:List Nat}{Xs:List KG}{N:Nat}(h:NetLen Gs Ss Xs 3):tnR Gs Ss Xs [1,1,1] N=netR Gs Ss Xs N false:=by
 obtain⟨a,b,c,h1⟩:=list3 h.g;obtain⟨d,e,f,h2⟩:=list3 h.s;obtain⟨x,y,z,h3⟩:=list3 h.x
 subst h1;subst h2;subst h3;rfl
theorem tn_inf{Gs Ss:List Nat}{Xs:List KG}{N:Nat}(h:NetLen Gs Ss Xs 3):tnR Gs Ss Xs [2,2,2] N=netR Gs Ss Xs N true:=by
 obtain⟨a,b,c,h1⟩:=list3 h.g;obtain⟨d,e,f,h2⟩:=list3 h.s;obtain⟨x,y,z,h3⟩:=list3 h.x
 subst h1;subst h2;subst h3;rfl
def Acted(q:Option Int)(X1 X:KG)(e:Int)(u:Nat)(Y:KG):Prop:=(q=some e∧u=1∧Y=X)∨(q=none∧e=0∧u=1∧Y=X1)∨(q=none∧e=310∧u=0∧Y=X)
theorem act_st{β:Base}{G S N:Nat}{X X1:KG}{q:Option Int}{r:Ending}{w:World}(h:∃e,r= .returned (Ix e)∧St β [actG q e G S X X1 N false] w):∃e u Y,r= .returned (Ix e)∧Acted q X1 X e u Y∧St β [stR G S Y (N+262500) u] w:=by
 obtain⟨e,h1,h2⟩:=h
 cases q with
 |some c=>
  obtain⟨h3,h4⟩:=St.ifNo rfl h2
  exact⟨e,1,X,h1,.inl ⟨by rw[h3],rfl,rfl⟩,h4.conseq (gate_mono (by omega))⟩
 |none=>
  rcases St.endIf (St.ifGo rfl h2)with⟨h3,h4⟩|⟨h3,_,h4⟩
  ·exact⟨e,1,X1,h1,.inr (.inl ⟨rfl,h3,rfl,rfl⟩),h4.conseq (gate_mono (by omega))⟩
  ·exact⟨e,0,X,h1,.inr (.inr ⟨rfl,h3,rfl,rfl⟩),h4.merge fun _ h=>h⟩
theorem end_st{β:Base}{G S N:Nat}{X X1:KG}{r:Ending}{w:World}(h:∃e,r= .returned (Ix e)∧St β [endG e G S X X1 (N+262500) (N+262500) false] w):∃e u Y,r= .returned (Ix e)∧Acted none X1 X e u Y∧St β [stR G S Y (N+262500) u] w:=by
 obtain⟨e,h1,h2⟩:=h
 rcases St.endIf h2 with⟨h3,h4⟩|⟨h3,_,h4⟩
 ·exact⟨e,1,X1,h1,.inr (.inl ⟨rfl,h3,rfl,rfl⟩),h4⟩
 ·exact⟨e,0,X,h1,.inr (.inr ⟨rfl,h3,rfl,rfl⟩),h4.merge fun _ h=>h⟩
theorem ups_at{k:Nat}(h:k<3):[1,1,1][k]? =some 1:=by rcases three h with rfl|rfl|rfl<;>rfl
section
variable {β:Base}{Gs Ss Us:List Nat}{Xs:List KG}{N k G S:Nat}{w:World}{fid:FuncId}{args:Array Value}
theorem net_actF{A:Int→Nat→KG→Prop}(hw:St β [netR Gs Ss Xs N false] w)(hl:NetLen Gs Ss Xs 3)(hk:Gs[k]? =some G)
 (h:∀(β1:Base) w S,Sub β.heap β1.heap→St β1 [gateR G S (gt Xs k) N false] w→Calls Tryz.prog fid args w fun r w'=>∃e u Y,r= .returned (Ix e)∧A e u Y∧St β1 [stR G S Y (N+262500) u] w'):
  Calls Tryz.prog fid args w fun r w'=>∃e u Y,r= .returned (Ix e)∧A e u Y∧St β [tnR Gs Ss (Xs.set k Y) ([1,1,1].set k u) (N+262500)] w':=by
 have hk3:k<3:=by rw[←hl.g];exact(List.getElem?_eq_some_iff.1 hk).1
 obtain⟨G',S,h1,h2,h3⟩:=hl.at_ hk3
 obtain rfl:=Option.some.inj (hk.symm.trans h1)
 rw[←tn_up hl]at hw
 obtain⟨β1,sb,kn,hw1,back⟩:=St.frame (L:=[gateR G S (gt Xs k) N false]) (M:=[tnR (Gs.eraseIdx k) (Ss.eraseIdx k) (Xs.eraseIdx k) ([1,1,1].eraseIdx k) N]) (St.tnAt hk h2 h3 (ups_at hk3) hw)
 refine(h β1 w S sb hw1).mono ?_
 rintro r w' ⟨e,u,Y,h4,h5,h6⟩
 refine⟨e,u,Y,h4,h5,?_⟩
 have h7:=St.tnBack (by rw[hl.g];exact hk3) h2 (by rw[hl.x];exact hk3) (show k<[1,1,1].length from hk3) (by omega) (back _ _ h6)
 have:Gs.set k G=Gs:=List.ext_getElem? fun i=>by
  by_cases q:k=i
  ·subst q;rw[List.getElem?_set_self (by rw[hl.g];exact hk3),hk]
  ·rw[List.getElem?_set_ne q]
 rw[this]at h7;exact h7
theorem tn_same{c:Int}{u:Nat}(hw:St β [tnR Gs Ss Xs Us N] w)(hl:NetLen Gs Ss Xs 3)(hul:Us.length=3)(hk:Gs[k]? =some G)(hu:Us[k]? =some u)
 (h:∀(β1:Base) w S,Sub β.heap β1.heap→St β1 [stR G S (gt Xs k) N u] w→Calls Tryz.prog fid args w fun r w'=>r= .returned (Ix c)∧St β1 [stR G S (gt Xs k) N u] w'):
  Calls Tryz.prog fid args w fun r w'=>r= .returned (Ix c)∧St β [tnR Gs Ss Xs Us N] w':=by
 have hk3:k<3:=by rw[←hl.g];exact(List.getElem?_eq_some_iff.1 hk).1
 obtain⟨G',S,h1,h2,h3⟩:=hl.at_ hk3
 obtain rfl:=Option.some.inj (hk.symm.trans h1)
 obtain⟨β1,sb,kn,hw1,back⟩:=St.frame (L:=[stR G S (gt Xs k) N u]) (M:=[tnR (Gs.eraseIdx k) (Ss.eraseIdx k) (Xs.eraseIdx k) (Us.eraseIdx k) N]) (St.tnAt hk h2 h3 hu hw)
 refine(h β1 w S sb hw1).mono ?_
 rintro r w' ⟨h4,h6⟩
 refine⟨h4,?_⟩
 have h7:=St.tnBack (by rw[hl.g];exact hk3) h2 (by rw[hl.x];exact hk3) (by rw[hul];exact hk3) (Nat.le_refl _) (back _ _ h6)
 have e1:Gs.set k G=Gs:=List.ext_getElem? fun i=>by
  by_cases q:k=i
  ·subst q;rw[List.getElem?_set_self (by rw[hl.g];exact hk3),hk]
  ·rw[List.getElem?_set_ne q]
 have e2:Us.set k u=Us:=List.ext_getElem? fun i=>by
  by_cases q:k=i
  ·subst q;rw[List.getElem?_set_self (by rw[hul];exact hk3),hu]
  ·rw[List.getElem?_set_ne q]
 rw[e1,e2,gt_setSame (by rw[hl.x];exact hk3)]at h7;exact h7
theorem tn_shelf{A:Nat→Res}{v u:Nat}{hx:Res}(hw:St β [hx,tnR Gs Ss Xs Us N] w)(hl:NetLen Gs Ss Xs 3)(hul:Us.length=3)(hS:Ss[k]? =some S)(hu:Us[k]? =some u)
 (h:∀(β1:Base) w,St β1 [hx,shelfR S (gt Xs k) N false] w→Calls Tryz.prog fid args w fun r w'=>∃G,r= .returned (.bool true)∧St β1 [A G,stR G S (gt Xs k) N v] w'):
  Calls Tryz.prog fid args w fun r w'=>∃G,r= .returned (.bool true)∧St β [A G,tnR (Gs.set k G) Ss Xs (Us.set k v) N] w':=by
 have hk3:k<3:=by rw[←hl.s];exact(List.getElem?_eq_some_iff.1 hS).1
 obtain⟨G',S',h1,h2,h3⟩:=hl.at_ hk3
 obtain rfl:=Option.some.inj (hS.symm.trans h2)
 have h5:=St.tnAt h1 hS h3 hu (hw.perm (List.Perm.swap _ _ _))
 have h6:St β (shelfR S (gt Xs k) N false::tnR (Gs.eraseIdx k) (Ss.eraseIdx k) (Xs.eraseIdx k) (Us.eraseIdx k) N::[hx]) w:=by
  match u,h5 with
  |0,h5=>exact(St.unbun (L:=[downR G' (gt Xs k),shelfR S (gt Xs k) N false]) h5).drop (.cons _ (List.Sublist.refl _))
  |1,h5=>exact St.leave h5
  |_+2,h5=>exact(St.leave h5).conseq fun _ ⟨i,q,a1,_,a3⟩=>⟨i,q,a1,fun z=>(by cases z),a3⟩
 obtain⟨β1,sb,kn,hw1,back⟩:=St.frame (L:=[hx,shelfR S (gt Xs k) N false]) (M:=[tnR (Gs.eraseIdx k) (Ss.eraseIdx k) (Xs.eraseIdx k) (Us.eraseIdx k) N]) (h6.perm (perm_ix (L':=[hx,shelfR S (gt Xs k) N false,tnR (Gs.eraseIdx k) (Ss.eraseIdx k) (Xs.eraseIdx k) (Us.eraseIdx k) N]) [2,0,1] 3 rfl (by kernel_rfl) (by kernel_rfl)))
 refine(h β1 w hw1).mono ?_
 rintro r w' ⟨G,h7,h8⟩
 refine⟨G,h7,?_⟩
 have h9:St β (stR G S (gt Xs k) N v::tnR (Gs.eraseIdx k) (Ss.eraseIdx k) (Xs.eraseIdx k) (Us.eraseIdx k) N::[A G]) w':=(back _ _ h8).perm (perm_ix (L:=[A G,stR G S (gt Xs k) N v,tnR (Gs.eraseIdx k) (Ss.eraseIdx k) (Xs.eraseIdx k) (Us.eraseIdx k) N]) (L':=[stR G S (gt Xs k) N v,tnR (Gs.eraseIdx k) (Ss.eraseIdx k) (Xs.eraseIdx k) (Us.eraseIdx k) N,A G]) [1,2,0] 3 rfl (by kernel_rfl) (by kernel_rfl))
 have h10:=St.tnBack (by rw[hl.g];exact hk3) hS (by rw[hl.x];exact hk3) (by rw[hul];exact hk3) (Nat.le_refl _) h9
 rw[gt_setSame (by rw[hl.x];exact hk3)]at h10
 exact swp h10
end
theorem gcompact_ok(β:Base)(w:World)(G S N:Nat)(X:KG)(hw:St β [gateR G S X N false] w)(hN:N≤53000000):Calls Tryz.prog 29 #[.pointer (some ⟨G,0,none⟩)] w fun r w'=>∃e,r= .returned (Ix e)∧St β [endG e G S X X (N+262500) (N+262500) false] w':=by
 obtain⟨J,i,k,hso,hpw,hw⟩:=St.openGate hw
 refine(compact0_ok β w G J S N X i k hso (Nat.le_trans hN (by decide)) hw).mono ?_
 rintro r w' (⟨hc,h1,h2⟩|⟨hc,h1,h2⟩)
 ·exact⟨0,h1,St.endOk (Nat.le_refl _) (St.closeGate ((hso.ck (Nat.le_trans hN (by decide)) hc).mono (by omega)) (fun q=>by cases q) h2)⟩
 ·obtain⟨j,hj⟩:=hso.ck_no (Nat.le_trans hN (by decide)) hc
  exact⟨310,h1,St.endNo rfl (hj.mono (by omega)) (h2.drop (.cons_cons _ (.cons _ (List.Sublist.refl _))))⟩
theorem c_openIf{P:Program}{ro:Option Nat}{n:Nat}{ds:List Deferred}{β:Base}{Q:Exit→Act→World→Prop}{f:Fm}{L M:List Res}{c:Code}{e:Int}{p:Option Addr}{S N:Nat}{X:KG}{m:Bool}(hL:L=openG e p S X N m::M)
 (K1:∀G,e=0→p=some ⟨G,0,none⟩→RunC P ro n ds β c Q f (gateR G S X N m::M))(K2:e=310→p=none→m=false→RunC P ro n ds β c Q f (shelfR S X N m::M)):RunC P ro n ds β c Q f L:=fun a w ha hw=>by
 subst hL
 rcases St.openIf hw with⟨h1,G,h2,h3⟩|⟨h1,h2,h3,h4⟩
 ·exact K1 G h1 h2 a w ha h3
 ·exact K2 h1 h2 h3 a w ha h4
end Go.Hv
namespace Go.Hv
open Go Go.Sl Go.Proofs Go.Jn
def FndOk(o:Option KEnt)(hd:KEh)(zo:EPool):Prop:=∀e,o=some e→(hd,e)∈zo∧EHd (hd,e)
theorem FndOk.none{hd:KEh}{zo:EPool}:FndOk none hd zo:=fun e h=>by cases h
theorem FndOk.app{o:Option KEnt}{hd:KEh}{zo:EPool}(h:FndOk o hd zo)(zs:EPool):FndOk o hd (zo++zs):=fun e q=>⟨List.mem_append_left _ (h e q).1,(h e q).2⟩
theorem FndOk.some{e:KEnt}{hd:KEh}{zo zs:EPool}(h:(hd,e)∈zs)(h2:EHd (hd,e)):FndOk (some e) hd (zo++zs):=fun f q=>by
 injection q with q;subst q;exact⟨List.mem_append_right _ h,h2⟩
theorem poolR_app{z1 z2:EPool}(a:PHeap)(h:Sat [poolR z1,poolR z2] a):poolR (z1++z2) a:=by
 obtain⟨a1,b1,d1,s1,s2,r1,a2,b2,d2,s3,s4,r2,_⟩:=h
 intro z hz
 rcases List.mem_append.1 hz with q|q
 ·exact Has.mono _ _ _ s1 (r1 z q)
 ·exact Has.mono _ _ _ (s3.trans s2) (r2 z q)
theorem plA_succ{Xs:List KG}{id:Int}{z:Nat}:plA Xs id (z+1)=plA Xs id z++(plH id (gt Xs z).here++plO Xs z id (gt Xs z).out):=by
 unfold plA;rw[List.range_succ,List.flatMap_append];simp[plG]
theorem plA_zero{Xs:List KG}{id:Int}:plA Xs id 0=[]:=rfl
theorem plA_le{Xs:List KG}{id:Int}(h:Net 3 Xs){z:Nat}(hz:z≤3):(plA Xs id z).length≤1:=by
 have h3:=plA_len h id
 have step:∀z,(plA Xs id z).length≤(plA Xs id (z+1)).length:=fun z=>by rw[plA_succ,List.length_append];omega
 have h0:(plA Xs id 0).length≤(plA Xs id 1).length:=step 0
 have h1:(plA Xs id 1).length≤(plA Xs id 2).length:=step 1
 have h2:(plA Xs id 2).length≤(plA Xs id 3).length:=step 2
 rcases show z=0∨z=1∨z=2∨z=3 by omega with rfl|rfl|rfl|rfl<;>omega
section
variable {id:Int}{j z:Nat}{Xs:List KG}{o:Option KEnt}
theorem plH_yes{l:List KEnt}{e:KEnt}(hs:l[j]? =some e)(h:e.id=id):plH id (l.take (j+1))=plH id (l.take j)++[e]:=by
 unfold plH;rw[List.take_add_one,hs,List.filter_append];simp[h]
theorem plH_no{l:List KEnt}{e:KEnt}(hs:l[j]? =some e)(h:¬e.id=id):plH id (l.take (j+1))=plH id (l.take j):=by
 unfold plH;rw[List.take_add_one,hs,List.filter_append];simp[h]
theorem plO_yes{l:List KMs}{m:KMs}(hs:l[j]? =some m)(h:m.e.id=id)(h2:wayB Xs z m=true):plO Xs z id (l.take (j+1))=plO Xs z id (l.take j)++[m.e]:=by
 unfold plO;rw[List.take_add_one,hs,List.filter_append];simp[h,h2]
theorem plO_no{l:List KMs}{m:KMs}(hs:l[j]? =some m)(h:¬(m.e.id=id∧wayB Xs z m=true)):plO Xs z id (l.take (j+1))=plO Xs z id (l.take j):=by
 unfold plO;rw[List.take_add_one,hs,List.filter_append]
 have:(decide (m.e.id=id)&&wayB Xs z m)=false:=by
  cases e:(decide (m.e.id=id)&&wayB Xs z m)with
  |false=>rfl
  |true=>rw[Bool.and_eq_true,decide_eq_true_iff]at e;exact absurd e h
 simp[this]
theorem flt_len{α:Type}{p:α→Bool}{l:List α}:((l.take j).filter p).length≤(l.filter p).length:=((List.take_sublist j l).filter p).length_le
theorem none_of_len(h:o.toList.length+1≤1):o=none:=by
 cases o with
 |none=>rfl
 |some e=>simp at h
theorem fnd_newH(hn:Net 3 Xs)(hz:z<3){e:KEnt}(hs:(gt Xs z).here[j]? =some e)(he:e.id=id)(ho:o.toList=plA Xs id z++plH id ((gt Xs z).here.take j)):o=none:=by
 refine none_of_len ?_
 have h1:=plA_le (id:=id) hn (show z+1≤3 from hz)
 have h2:(plH id ((gt Xs z).here.take (j+1))).length≤(plH id (gt Xs z).here).length:=flt_len
 rw[plH_yes hs he,List.length_append]at h2
 rw[plA_succ,List.length_append,List.length_append]at h1
 rw[ho,List.length_append]
 have:([e]:List KEnt).length=1:=rfl
 omega
theorem fnd_newO(hn:Net 3 Xs)(hz:z<3){m:KMs}(hs:(gt Xs z).out[j]? =some m)(he:m.e.id=id)(hw:wayB Xs z m=true)(ho:o.toList=plA Xs id z++(plH id (gt Xs z).here++plO Xs z id ((gt Xs z).out.take j))):o=none:=by
 refine none_of_len ?_
 have h1:=plA_le (id:=id) hn (show z+1≤3 from hz)
 have h2:(plO Xs z id ((gt Xs z).out.take (j+1))).length≤(plO Xs z id (gt Xs z).out).length:=by
  unfold plO;rw[List.length_map,List.length_map];exact flt_len
 rw[plO_yes hs he hw,List.length_append]at h2
 rw[plA_succ,List.length_append,List.length_append]at h1
 rw[ho,List.length_append,List.length_append]
 have:([m.e]:List KEnt).length=1:=rfl
 omega
theorem opt_len(o:Option KEnt):o.toList.length≤1:=by cases o<;>simp
theorem opt_inj{o1 o2:Option KEnt}(h:o1.toList=o2.toList):o1=o2:=by
 cases o1<;>cases o2<;>simp_all
theorem pool_pick{hd:KEh}{zo:EPool}(h:FndOk o hd zo)(a:PHeap)(hp:poolR zo a):poolR (o.toList.map fun e=>(hd,e)) a:=fun z hz=>by
 obtain⟨e,he,rfl⟩:=List.mem_map.1 hz
 cases o with
 |none=>cases he
 |some f=>rw[Option.toList_some,List.mem_singleton]at he;subst he;exact hp _ (h e rfl).1
theorem wayB_yes{b:Nat}{m:KMs}(ht:m.to=ix b)(h:(gt Xs b).lv.at (z+1)<m.number):wayB Xs z m=true:=by
 unfold wayB;rw[ixto ht];exact decide_eq_true h
theorem wayB_no{b:Nat}{m:KMs}(ht:m.to=ix b)(h:¬(gt Xs b).lv.at (z+1)<m.number):¬wayB Xs z m=true:=by
 unfold wayB;rw[ixto ht];exact fun q=>h (of_decide_eq_true q)
theorem last_ix{b:Nat}(hn:Net 3 Xs)(hb:b<3)(hz:z<3)(hne:b≠z):lastX (gt Xs b) (ix z)=(gt Xs b).lv.at (z+1):=by
 unfold lastX;rw[(hn.ok b hb).2,if_pos (other_ix (by omega) (Ne.symm hne))];rfl
end
theorem net_same{β:Base}{Gs Ss:List Nat}{Xs:List KG}{N k G:Nat}{w:World}{fid:FuncId}{args:Array Value}{c:Int}(hw:St β [netR Gs Ss Xs N false] w)(hl:NetLen Gs Ss Xs 3)(hk:Gs[k]? =some G)
 (h:∀(β1:Base) w S,St β1 [gateR G S (gt Xs k) N false] w→Calls Tryz.prog fid args w fun r w'=>r= .returned (Ix c)∧St β1 [gateR G S (gt Xs k) N false] w'):
  Calls Tryz.prog fid args w fun r w'=>r= .returned (Ix c)∧St β [netR Gs Ss Xs N false] w':=by
 rw[←tn_up hl]at hw⊢
 exact tn_same hw hl rfl hk (ups_at (by rw[←hl.g];exact(List.getElem?_eq_some_iff.1 hk).1)) fun β1 w S _=>h β1 w S
end Go.Hv
