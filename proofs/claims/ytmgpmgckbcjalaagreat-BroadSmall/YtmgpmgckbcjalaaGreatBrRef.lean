/-
 The reference's spaces in plain terms: entries in order; they tell what the program's spaces tell. Own work; plain Lean.
-/
import Derived.Test.YtmgpmgckbcjalaaGreatBrAwk
import Derived.Test.YtmgpmgckbcjalaaGreatBrSp
namespace Go.Brd
open Go.Sl Go.Proofs
abbrev ES:=List (Int×KA)
abbrev idsE(es:ES):List Int:=es.map (·.1)
abbrev arsE(es:ES):List KA:=es.map (·.2)
def delE(es:ES)(id:Int):ES:=es.filter fun p=> !decide (p.1=id)
def cntE(es:ES)(id:Int):Nat:=(es.takeWhile fun p=>decide (p.1<id)).length
def insE(es:ES)(id:Int)(a:KA):ES:=(delE es id).take (cntE (delE es id) id)++(id,a)::(delE es id).drop (cntE (delE es id) id)
def hasE(es:ES)(id:Int):Prop:=id∈idsE es
instance (es:ES)(id:Int):Decidable (hasE es id):=by unfold hasE;infer_instance
def ordE(es:ES):Prop:=es.Pairwise fun p q=>p.1<q.1
theorem takeW_take{α:Type}(f:α→Bool):∀l:List α,l.take (l.takeWhile f).length=l.takeWhile f∧l.drop (l.takeWhile f).length=l.dropWhile f
 |[]=>by simp
 |x::l=>by
  have ih:=takeW_take f l
  rw[List.takeWhile_cons,List.dropWhile_cons]
  split
  ·rw[List.length_cons,List.take_succ_cons,List.drop_succ_cons,ih.1,ih.2];exact⟨rfl,rfl⟩
  ·exact⟨rfl,rfl⟩
theorem takeW_all{α:Type}{f:α→Bool}{x:α}:∀{l:List α},x∈l.takeWhile f→f x=true
 |[],h=>by simp at h
 |y::l,h=>by
  rw[List.takeWhile_cons]at h
  split at h
  ·rename_i hy
   rcases List.mem_cons.1 h with e|e
   ·rw[e];exact hy
   ·exact takeW_all e
  ·simp at h
theorem dropW_ge{id:Int}{x:Int×KA}:∀{l:ES},ordE l→x∈l.dropWhile (fun p=>decide (p.1<id))→¬x.1<id
 |[],_,h=>by simp at h
 |y::l,ho,h=>by
  obtain⟨h1,h2⟩:=List.pairwise_cons.1 ho
  rw[List.dropWhile_cons]at h
  split at h
  ·exact dropW_ge h2 h
  ·rename_i hy
   have hy:¬y.1<id:=by simpa using hy
   rcases List.mem_cons.1 h with e|e
   ·rw[e];exact hy
   ·have:=h1 x e;omega
theorem del_ord{es:ES}(h:ordE es)(id:Int):ordE (delE es id):=h.filter _
theorem del_not{es:ES}{id:Int}:¬hasE (delE es id) id:=fun h=>by
 obtain⟨p,hp,e⟩:=List.mem_map.1 h
 have:=(List.mem_filter.1 hp).2
 simp[e]at this
theorem ins_ord{es:ES}(h:ordE es)(id:Int)(a:KA):ordE (insE es id a):=by
 have hd:=del_ord h id
 unfold insE cntE
 obtain⟨e1,e2⟩:=takeW_take (fun p:Int×KA=>decide (p.1<id)) (delE es id)
 rw[e1,e2]
 unfold ordE
 rw[List.pairwise_append,List.pairwise_cons]
 have hlt:∀p∈(delE es id).takeWhile (fun p=>decide (p.1<id)),p.1<id:=fun p hp=>by simpa using takeW_all hp
 have hgt:∀p∈(delE es id).dropWhile (fun p=>decide (p.1<id)),id<p.1:=fun p hp=>by
  have h1:=dropW_ge hd hp
  have h2:p.1≠id:=fun e=>del_not (es:=es) (id:=id) (List.mem_map.2 ⟨p,(List.dropWhile_sublist _).subset hp,e⟩)
  omega
 refine⟨hd.sublist (List.takeWhile_sublist _),⟨fun p hp=>hgt p hp,hd.sublist (List.dropWhile_sublist _)⟩,fun p hp q hq=> ?_⟩
 have h1:=hlt p hp
 rcases List.mem_cons.1 hq with e|e
 ·rw[e];exact h1
 ·have:=hgt q e;omega
theorem ins_perm(es:ES)(id:Int)(a:KA):(insE es id a).Perm (delE es id++[(id,a)]):=by
 unfold insE
 refine List.perm_middle.trans ?_
 rw[List.take_append_drop]
 exact(List.perm_append_comm (l₁:=[(id,a)]) (l₂:=delE es id))
theorem delE_no{es:ES}{id:Int}(h:¬hasE es id):delE es id=es:=List.filter_eq_self.2 fun p hp=>by
 have:p.1≠id:=fun e=>h (List.mem_map.2 ⟨p,hp,e⟩)
 simp[this]
theorem delE_lt{es:ES}{id:Int}(h:hasE es id):(delE es id).length<es.length:=by
 obtain⟨p,hp,e⟩:=List.mem_map.1 h
 unfold delE
 rw[List.length_filter_lt_length_iff_exists]
 exact⟨p,hp,by simp[e]⟩
theorem delE_len(es:ES)(id:Int):(delE es id).length≤es.length:=List.length_filter_le _ _
structure RelS(es:ES)(t:List KP)(s:KSp):Prop where
 perm:es.Perm s.ar
 ord:ordE es
 told:t=s.told
 sort:t.Pairwise fun p q=>leP p q=true
 ok:s.ok
theorem RelS.len{es:ES}{t:List KP}{s:KSp}(h:RelS es t s):es.length=s.ar.length:=h.perm.length_eq
theorem RelS.few{es:ES}{t:List KP}{s:KSp}(h:RelS es t s):es.length≤128:=by rw[h.len];exact h.ok.few
theorem RelS.tfew{es:ES}{t:List KP}{s:KSp}(h:RelS es t s):t.length≤16384:=by rw[h.told];exact h.ok.many
theorem RelS.has{es:ES}{t:List KP}{s:KSp}(h:RelS es t s)(id:Int):hasE es id↔hasS s id:=(h.perm.map _).mem_iff
theorem RelS.new:RelS [] [] newS:=⟨.refl _,List.Pairwise.nil,rfl,List.Pairwise.nil,new_okS⟩
theorem RelS.del{es:ES}{t:List KP}{s:KSp}(h:RelS es t s)(id:Int):RelS (delE es id) t (delS s id):=⟨h.perm.filter _,del_ord h.ord id,h.told,h.sort,del_ok h.ok id⟩
theorem RelS.errPut{es:ES}{t:List KP}{s:KSp}(h:RelS es t s)(id:Int)(a:KA):errPut s id a=if argS id a then(if(delE es id).length=128 then 4 else 0)else 2:=by
 unfold Go.Brd.errPut
 split
 ·have e:(¬hasS s id∧s.ar.length=128)↔(delE es id).length=128:=by
   rw[←h.has,←h.len]
   constructor
   ·rintro⟨h1,h2⟩;rw[delE_no h1];exact h2
   ·intro h2
    by_cases h1:hasE es id
    ·have:=delE_lt h1;have:=h.few;omega
    ·exact⟨h1,by rw[delE_no h1]at h2;exact h2⟩
  simp only[e]
 ·rfl
theorem RelS.put{es:ES}{t:List KP}{s:KSp}(h:RelS es t s){id:Int}{a:KA}(he:Go.Brd.errPut s id a=0):RelS (insE es id a) t (putX s id a):=by
 have hk:=put_ok h.ok id a
 unfold putX at hk⊢
 rw[if_pos he]at hk⊢
 exact⟨(ins_perm es id a).trans ((h.perm.filter _).append_right _),ins_ord h.ord id a,h.told,h.sort,hk⟩
theorem RelS.put_no{es:ES}{t:List KP}{s:KSp}(h:RelS es t s){id:Int}{a:KA}(he:Go.Brd.errPut s id a≠0):RelS es t (putX s id a):=by
 unfold putX;rw[if_neg he];exact h
theorem delS_no{s:KSp}{id:Int}(h:¬hasS s id):delS s id=s:=by
 unfold delS
 rw[List.filter_eq_self.2 fun p hp=>by
  have:p.1≠id:=fun e=>h (List.mem_map.2 ⟨p,hp,e⟩)
  simp[this]]
def mapE(es:ES)(p:KP):KP:=⟨(idsE es).getD p.a.toNat 0,(idsE es).getD p.b.toNat 0⟩
theorem pairsT_map{f:Int→Int}:∀(L:List KT),(L.Pairwise fun x y=>x.id<y.id∧f x.id<f y.id)→pairsT (L.map fun t=>⟨f t.id,t.ar⟩)=(pairsT L).map fun p=>⟨f p.a,f p.b⟩
 |[],_=>rfl
 |x::L,h=>by
  obtain⟨h1,h2⟩:=List.pairwise_cons.1 h
  show hitsT _ _++pairsT _=(hitsT x L++pairsT L).map _
  rw[pairsT_map L h2,List.map_append]
  congr 1
  unfold hitsT
  rw[List.filter_map,List.map_map,List.map_map]
  refine List.map_congr_left fun y hy=> ?_
  have hy:=h1 y (List.mem_filter.1 hy).1
  show(⟨min (f x.id) (f y.id),max (f x.id) (f y.id)⟩:KP)=⟨f (min x.id y.id),f (max x.id y.id)⟩
  rw[Int.min_eq_left (by omega),Int.max_eq_right (by omega),Int.min_eq_left (by omega),Int.max_eq_right (by omega)]
theorem things_all(es:ES):es.map thg=(things (arsE es) 0).map fun t=>⟨(idsE es).getD t.id.toNat 0,t.ar⟩:=by
 refine List.ext_getElem? fun i=> ?_
 rw[List.getElem?_map,List.getElem?_map,things_get,List.getElem?_map]
 cases h:es[i]? with
 |none=>rfl
 |some e=>
  show some (thg e)=some (⟨(idsE es).getD ((0+i:Nat):Int).toNat 0,e.2⟩:KT)
  rw[Nat.zero_add,Int.toNat_natCast,List.getD_eq_getElem?_getD,List.getElem?_map,h];rfl
theorem things_mono{es:ES}(h:ordE es):(things (arsE es) 0).Pairwise fun x y=>x.id<y.id∧(idsE es).getD x.id.toNat 0<(idsE es).getD y.id.toNat 0:=by
 rw[List.pairwise_iff_getElem]
 intro i j hi hj hij
 rw[things_len,List.length_map]at hi hj
 have g:∀k (hk:k<es.length),(things (arsE es) 0)[k]? =some ⟨(k:Int),(es[k]).2⟩:=fun k hk=>by rw[things_get,List.getElem?_map,List.getElem?_eq_getElem hk,Nat.zero_add];rfl
 have g1:=(List.getElem?_eq_some_iff.1 (g i hi)).2
 have g2:=(List.getElem?_eq_some_iff.1 (g j hj)).2
 rw[g1,g2]
 refine⟨by show(i:Int)<j;omega,?_⟩
 show(idsE es).getD (i:Int).toNat 0<(idsE es).getD (j:Int).toNat 0
 rw[Int.toNat_natCast,Int.toNat_natCast,List.getD_eq_getElem?_getD,List.getD_eq_getElem?_getD,List.getElem?_map,List.getElem?_map,List.getElem?_eq_getElem hi,List.getElem?_eq_getElem hj]
 exact List.pairwise_iff_getElem.1 h i j hi hj hij
theorem RelS.all{es:ES}{t:List KP}{s:KSp}(h:RelS es t s):(pairsA (arsE es)).map (mapE es)=pairsS s:=by
 have e:pairsS s=pairsT (es.map thg):=by
  unfold pairsS
  rw[←sortP_perm_eq (pairsT_perm (h.perm.map thg))]
  refine(sortP_eq (.refl _) (pairs_sorted _ ?_)).symm
  rw[List.pairwise_map];exact h.ord
 rw[e,things_all,pairsA_eq]
 exact(pairsT_map (f:=fun x=>(idsE es).getD x.toNat 0) _ (things_mono h.ord)).symm
theorem RelS.areas{es:ES}{t:List KP}{s:KSp}(h:RelS es t s):∀a∈arsE es,okA a:=fun a ha=>by
 obtain⟨p,hp,rfl⟩:=List.mem_map.1 ha
 exact h.ok.areas p (h.perm.mem_iff.1 hp)
def lessE(l m:List KP):List KP:=l.filter fun p=> !decide (p∈m)
theorem RelS.began{es:ES}{t:List KP}{s:KSp}(h:RelS es t s):lessE (pairsS s) t=beganS s:=by rw[h.told];rfl
theorem RelS.ended{es:ES}{t:List KP}{s:KSp}(h:RelS es t s):lessE t (pairsS s)=endedS s:=by
 unfold endedS
 rw[←h.told]
 exact sortP_eq (.refl _) (h.sort.filter _)
theorem RelS.tell{es:ES}{t:List KP}{s:KSp}(h:RelS es t s):RelS es (pairsS s) (toldS s):=⟨h.perm,h.ord,rfl,sortP_sorted _,told_ok h.ok⟩
theorem comA_comm(a b:KA):comA a b=comA b a:=by
 unfold comA
 congr 1<;>omega
def queryE(es:ES)(a:KA):List Int:=(es.filter fun p=>decide (meetA p.2 a)).map (·.1)
theorem RelS.query{es:ES}{t:List KP}{s:KSp}(h:RelS es t s)(a:KA):queryE es a=queryX s a:=by
 unfold queryE queryX
 by_cases ha:okA a
 ·rw[if_pos ha]
  unfold queryS hitS
  have e:(es.filter fun p=>decide (meetA p.2 a))=es.filter fun p=>decide (okA (comA a p.2)):=List.filter_congr fun p hp=>decide_eq_decide.2 (by
   rw[comA_comm a p.2]
   exact⟨fun q=>q.2.2,fun q=>⟨h.ok.areas p (h.perm.mem_iff.1 hp),ha,q⟩⟩)
  rw[e]
  refine sortI_one (((h.perm.filter _).map _).trans (sortI_perm _).symm) ?_ (sortI_sorted _)
  rw[List.pairwise_map]
  exact(List.Pairwise.filter _ h.ord).imp fun{p q} h=>Int.le_of_lt h
 ·rw[if_neg ha]
  rw[List.filter_eq_nil_iff.2 fun p _=>by simpa using fun q:meetA p.2 a=>ha q.2.1];rfl
end Go.Brd
