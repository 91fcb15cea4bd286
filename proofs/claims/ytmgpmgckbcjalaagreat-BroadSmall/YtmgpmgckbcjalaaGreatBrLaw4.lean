/-
 BroadSmall in plain terms: 128 areas that all meet. Own work; plain Lean.
-/
import Derived.Test.YtmgpmgckbcjalaaGreatBr22
namespace Go.Brd
open Go.Sl Go.Proofs
def sqA(i:Nat):KA:=⟨0-(i:Int),0-(i:Int),(i:Int),(i:Int)⟩
def entQ(i:Nat):Int×KA:=((65536:Int)-(i:Int),sqA i)
structure FullS(s:KSp)(a b:Nat)(t:List KP):Prop where
 perm:s.ar.Perm (((List.range b).drop a).map entQ)
 told:s.told=t
 ok:s.ok
theorem sq_ok{i:Nat}(h:i<128):argS ((65536:Int)-(i:Int)) (sqA i):=by
 refine⟨by omega,by omega,?_,?_⟩
 ·show-2097152≤0-(i:Int)∧0-(i:Int)≤(i:Int)∧(i:Int)≤2097152;omega
 ·show-2097152≤0-(i:Int)∧0-(i:Int)≤(i:Int)∧(i:Int)≤2097152;omega
theorem FullS.start:FullS ⟨[],[]⟩ 0 0 []:=⟨.refl _,rfl,new_okS⟩
theorem mem_ent{a b:Nat}{id:Int}:id∈(((List.range b).drop a).map entQ).map (·.1)↔∃j,a≤j∧j<b∧id=(65536:Int)-(j:Int):=by
 rw[List.map_map,List.mem_map]
 constructor
 ·rintro⟨j,hj,rfl⟩
  obtain⟨k,hk⟩:=List.getElem?_of_mem hj
  rw[List.getElem?_drop]at hk
  have h1:=(List.getElem?_eq_some_iff.1 hk).1
  rw[List.length_range]at h1
  rw[List.getElem?_range h1]at hk
  have:=Option.some.inj hk
  exact⟨j,by omega,by omega,rfl⟩
 ·rintro⟨j,h1,h2,rfl⟩
  refine⟨j,?_,rfl⟩
  refine List.mem_of_getElem? (i:=j-a) ?_
  rw[List.getElem?_drop,show a+(j-a)=j by omega,List.getElem?_range h2]
theorem FullS.has{s:KSp}{a b:Nat}{t:List KP}(h:FullS s a b t)(id:Int):hasS s id↔∃j,a≤j∧j<b∧id=(65536:Int)-(j:Int):=((h.perm.map _).mem_iff).trans mem_ent
theorem FullS.len{s:KSp}{a b:Nat}{t:List KP}(h:FullS s a b t):s.ar.length=b-a:=by
 rw[h.perm.length_eq,List.length_map,List.length_drop,List.length_range]
theorem FullS.err{s:KSp}{a b:Nat}{t:List KP}(h:FullS s a b t){i:Nat}(hi:i<128)(hb:b≤127∨hasS s ((65536:Int)-(i:Int))):errPut s ((65536:Int)-(i:Int)) (sqA i)=0:=by
 unfold errPut
 rw[if_pos (sq_ok hi),if_neg]
 rintro⟨h1,h2⟩
 rw[h.len]at h2
 rcases hb with hb|hb
 ·omega
 ·exact h1 hb
theorem range_drop_succ(b:Nat):((List.range (b+1)).drop 0).map entQ=((List.range b).drop 0).map entQ++[entQ b]:=by
 rw[List.drop_zero,List.drop_zero,List.range_succ,List.map_append];rfl
theorem FullS.put{s:KSp}{b:Nat}{t:List KP}(h:FullS s 0 b t)(hb:b<128):errPut s ((65536:Int)-(b:Int)) (sqA b)=0∧FullS (putX s ((65536:Int)-(b:Int)) (sqA b)) 0 (b+1) t:=by
 have he:=h.err hb (.inl (by omega))
 refine⟨he,?_⟩
 have hno:¬hasS s ((65536:Int)-(b:Int)):=fun q=>by obtain⟨j,_,h2,h3⟩:=(h.has _).1 q;omega
 have hk:=put_ok h.ok ((65536:Int)-(b:Int)) (sqA b)
 unfold putX at hk⊢
 rw[if_pos he]at hk⊢
 refine⟨?_,h.told,hk⟩
 show((delS s _).ar++[_]).Perm _
 rw[delS_no hno,range_drop_succ]
 exact h.perm.append_right _
theorem FullS.again{s:KSp}{b:Nat}{t:List KP}(h:FullS s 0 (b+1) t)(hb:b<128):errPut s ((65536:Int)-(b:Int)) (sqA b)=0∧FullS (putX s ((65536:Int)-(b:Int)) (sqA b)) 0 (b+1) t:=by
 have he:=h.err hb (.inr ((h.has _).2 ⟨b,by omega,by omega,rfl⟩))
 refine⟨he,?_⟩
 have hk:=put_ok h.ok ((65536:Int)-(b:Int)) (sqA b)
 unfold putX at hk⊢
 rw[if_pos he]at hk⊢
 refine⟨?_,h.told,hk⟩
 show((delS s _).ar++[_]).Perm _
 have h1:(delS s ((65536:Int)-(b:Int))).ar.Perm (((List.range b).drop 0).map entQ):=by
  refine(h.perm.filter _).trans ?_
  rw[range_drop_succ,List.filter_append]
  have e1:(((List.range b).drop 0).map entQ).filter (fun p=> !decide (p.1=(65536:Int)-(b:Int)))=((List.range b).drop 0).map entQ:=List.filter_eq_self.2 fun p hp=>by
   have:p.1∈(((List.range b).drop 0).map entQ).map (·.1):=List.mem_map.2 ⟨p,hp,rfl⟩
   obtain⟨j,_,h2,h3⟩:=mem_ent.1 this
   have:p.1≠(65536:Int)-(b:Int):=by omega
   simp[this]
  have e2:[entQ b].filter (fun p=> !decide (p.1=(65536:Int)-(b:Int)))=[]:=by simp[entQ]
  rw[e1,e2,List.append_nil]
 rw[range_drop_succ]
 exact h1.append_right _
theorem FullS.drop{s:KSp}{a b:Nat}{t:List KP}(h:FullS s a b t)(ha:a<b):errDrop s ((65536:Int)-(a:Int))=0∧FullS (delS s ((65536:Int)-(a:Int))) (a+1) b t∧errDrop (delS s ((65536:Int)-(a:Int))) ((65536:Int)-(a:Int))=6∧delS (delS s ((65536:Int)-(a:Int))) ((65536:Int)-(a:Int))=delS s ((65536:Int)-(a:Int)):=by
 have h1:errDrop s ((65536:Int)-(a:Int))=0:=if_pos ((h.has _).2 ⟨a,by omega,ha,rfl⟩)
 have h2:FullS (delS s ((65536:Int)-(a:Int))) (a+1) b t:=by
  refine⟨(h.perm.filter _).trans ?_,h.told,del_ok h.ok _⟩
  have e0:(List.range b).drop a=a::(List.range b).drop (a+1):=by rw[List.drop_eq_getElem_cons (by rw[List.length_range];exact ha),List.getElem_range]
  rw[e0,List.map_cons,List.filter_cons,if_neg (by simp[entQ])]
  rw[List.filter_eq_self.2 fun p hp=>by
   have:p.1∈(((List.range b).drop (a+1)).map entQ).map (·.1):=List.mem_map.2 ⟨p,hp,rfl⟩
   obtain⟨j,h1,h2,h3⟩:=mem_ent.1 this
   have:p.1≠(65536:Int)-(a:Int):=by omega
   simp[this]]
 have hno:¬hasS (delS s ((65536:Int)-(a:Int))) ((65536:Int)-(a:Int)):=fun q=>by
  obtain⟨j,h3,_,h4⟩:=(h2.has _).1 q;omega
 exact⟨h1,h2,if_neg hno,delS_no hno⟩
theorem pairs_half:∀{L:List KT},(∀x∈L,∀y∈L,touchA x.ar y.ar)→2*(pairsT L).length+L.length=L.length*L.length
 |[],_=>rfl
 |x::L,h=>by
  have ih:=pairs_half (L:=L) fun y hy z hz=>h y (List.mem_cons_of_mem _ hy) z (List.mem_cons_of_mem _ hz)
  have e:(hitsT x L).length=L.length:=by
   unfold hitsT
   rw[List.length_map,List.filter_eq_self.2 fun y hy=>by simpa using h x List.mem_cons_self y (List.mem_cons_of_mem _ hy)]
  show 2*(hitsT x L++pairsT L).length+(L.length+1)=(L.length+1)*(L.length+1)
  have e2:(L.length+1)*(L.length+1)=L.length*L.length+2*L.length+1:=by rw[Nat.add_mul,Nat.mul_add,Nat.one_mul,Nat.mul_one];omega
  rw[List.length_append,e,e2];omega
theorem FullS.pairs{s:KSp}{t:List KP}(h:FullS s 0 128 t):(pairsS s).length=8128:=by
 unfold pairsS
 rw[(sortP_perm _).length_eq]
 have hall:∀x∈s.ar.map thg,∀y∈s.ar.map thg,touchA x.ar y.ar:=by
  have key:∀x∈s.ar.map thg,∃i:Nat,x.ar=sqA i:=fun x hx=>by
   obtain⟨p,hp,rfl⟩:=List.mem_map.1 hx
   obtain⟨j,_,rfl⟩:=List.mem_map.1 (h.perm.mem_iff.1 hp)
   exact⟨j,rfl⟩
  intro x hx y hy
  obtain⟨i,e1⟩:=key x hx
  obtain⟨j,e2⟩:=key y hy
  rw[e1,e2]
  refine⟨?_,?_,?_,?_⟩
  ·show 0-(i:Int)≤(j:Int);omega
  ·show 0-(j:Int)≤(i:Int);omega
  ·show 0-(i:Int)≤(j:Int);omega
  ·show 0-(j:Int)≤(i:Int);omega
 have h1:=pairs_half hall
 rw[List.length_map,h.len]at h1
 omega
theorem FullS.tell{s:KSp}{a b:Nat}{t:List KP}(h:FullS s a b t):FullS (toldS s) a b (pairsS s):=⟨h.perm,rfl,told_ok h.ok⟩
theorem FullS.began{s:KSp}{a b:Nat}(h:FullS s a b []):beganS s=pairsS s:=by
 unfold beganS;rw[h.told];exact List.filter_eq_self.2 fun p _=>by simp
theorem FullS.ended0{s:KSp}{a b:Nat}(h:FullS s a b []):(endedS s).length=0:=by
 unfold endedS;rw[h.told,(sortP_perm _).length_eq];rfl
theorem FullS.none{s:KSp}{t:List KP}(h:FullS s 128 128 t):pairsS s=[]:=by
 have e:s.ar=[]:=List.eq_nil_of_length_eq_zero (by rw[h.len])
 unfold pairsS;rw[e]
 exact List.eq_nil_of_length_eq_zero (by rw[(sortP_perm _).length_eq];rfl)
theorem FullS.over{s:KSp}{t:List KP}(h:FullS s 128 128 t):(beganS s).length=0∧(endedS s).length=t.length:=by
 unfold beganS endedS
 rw[h.none,h.told]
 refine⟨rfl,?_⟩
 rw[(sortP_perm _).length_eq,List.filter_eq_self.2 fun p _=>by simp]
theorem FullS.more{s:KSp}{t:List KP}(h:FullS s 0 128 t){a:KA}(ha:okA a):errPut s 5 a=4∧putX s 5 a=s∧errPut s (-1) a=2∧putX s (-1) a=s:=by
 have h1:errPut s 5 a=4:=by
  unfold errPut
  rw[if_pos ⟨by decide,by decide,ha⟩,if_pos ⟨fun q=>by obtain⟨j,_,h2,h3⟩:=(h.has _).1 q;omega,by rw[h.len]⟩]
 have h2:errPut s (-1) a=2:=if_neg fun q=>absurd q.1 (by decide)
 refine⟨h1,?_,h2,?_⟩
 ·unfold putX;rw[if_neg (by rw[h1];decide)]
 ·unfold putX;rw[if_neg (by rw[h2];decide)]
def lnA(n:Nat):KA:=⟨((n%4:Nat):Int),((n/8:Nat):Int),((n%4+n/4%2:Nat):Int),((n/8+n%3:Nat):Int)⟩
theorem ln_zero:okA (lnA 0):=by decide
end Go.Brd
