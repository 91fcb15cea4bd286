/-
 The pairs of areas that meet, in plain terms: however they are found, sorted they are one list. Own work; plain Lean.
-/
import Derived.Test.YtmgpmgckbcjalaaGreatBrDef
namespace Go.Brd
def touchA(a b:KA):Prop:=a.lx≤b.hx∧b.lx≤a.hx∧a.ly≤b.hy∧b.ly≤a.hy
instance (a b:KA):Decidable (touchA a b):=by unfold touchA;infer_instance
theorem touch_comm(a b:KA):touchA a b↔touchA b a:=by unfold touchA;omega
theorem touch_com{a b:KA}(ha:okA a)(hb:okA b):okA (comA a b)↔touchA a b:=by
 obtain⟨⟨a1,a2,a3⟩,a4,a5,a6⟩:=ha
 obtain⟨⟨b1,b2,b3⟩,b4,b5,b6⟩:=hb
 unfold okA okSpan comA touchA
 simp only
 omega
def mkP(x y:KT):KP:=⟨min x.id y.id,max x.id y.id⟩
theorem mkP_comm(x y:KT):mkP x y=mkP y x:=by unfold mkP;congr 1<;>omega
def hitsT(x:KT)(l:List KT):List KP:=(l.filter fun y=>decide (touchA x.ar y.ar)).map (mkP x)
def pairsT:List KT→List KP
 |[]=>[]
 |x::l=>hitsT x l++pairsT l
theorem hits_append(x:KT)(l m:List KT):hitsT x (l++m)=hitsT x l++hitsT x m:=by unfold hitsT;rw[List.filter_append,List.map_append]
theorem hits_perm(x:KT){l m:List KT}(h:l.Perm m):(hitsT x l).Perm (hitsT x m):=(h.filter _).map _
theorem hits_cons(x y:KT)(l:List KT):hitsT x (y::l)=hitsT x [y]++hitsT x l:=hits_append x [y] l
theorem hits_swap(x y:KT):hitsT x [y]=hitsT y [x]:=by
 unfold hitsT
 by_cases h:touchA x.ar y.ar
 ·have h2:=(touch_comm _ _).1 h
  simp[h,h2,mkP_comm]
 ·have h2:¬touchA y.ar x.ar:=fun q=>h ((touch_comm _ _).1 q)
  simp[h,h2]
theorem pairsT_perm{l m:List KT}(h:l.Perm m):(pairsT l).Perm (pairsT m):=by
 induction h with
 |nil=>exact .refl _
 |cons x h ih=>exact(hits_perm x h).append ih
 |swap x y l=>
  show(hitsT y (x::l)++(hitsT x l++pairsT l)).Perm (hitsT x (y::l)++(hitsT y l++pairsT l))
  rw[hits_cons y x l,hits_cons x y l,hits_swap y x,List.append_assoc,List.append_assoc]
  refine List.Perm.append_left _ ?_
  rw[←List.append_assoc,←List.append_assoc]
  exact List.Perm.append_right _ List.perm_append_comm
 |trans _ _ h1 h2=>exact h1.trans h2
def keepT(x:KT)(l:List KT):List KT:=l.filter fun y=> !decide (y.ar.hx<x.ar.lx)
def seesT(x y:KT):Bool:=decide (y.ar.ly≤x.ar.hy)&&decide (x.ar.ly≤y.ar.hy)
def foundT(x:KT)(l:List KT):List KP:=(l.filter (seesT x)).map (mkP x)
def sweepT:List KT→List KT→List KP
 |_,[]=>[]
 |op,x::l=>foundT x (keepT x op)++sweepT (keepT x op++[x]) l
theorem sweep_eq:∀(l pre op:List KT),(∀x∈l,x.ar.lx≤x.ar.hx)→(pre++l).Pairwise (fun x y=>x.ar.lx≤y.ar.lx)→
  (op.Sublist pre)→(∀x∈l,∀y∈pre,¬y.ar.hx<x.ar.lx→y∈op)→(∀x∈l,keepT x pre=keepT x op)→
  sweepT op l=(l.foldl (fun(s:List KT×List KP) x=>(s.1++[x],s.2++hitsT x s.1)) (pre,[])).2
 |[],pre,op,_,_,_,_,_=>rfl
 |x::l,pre,op,hv,hp,hs,hm,hk=>by
  have hx:=hk x List.mem_cons_self
  have key:foundT x (keepT x op)=hitsT x pre:=by
   rw[←hx]
   unfold foundT keepT hitsT
   rw[List.filter_filter]
   congr 1
   refine List.filter_congr fun y hy=> ?_
   have h1:y.ar.lx≤x.ar.lx:=(List.pairwise_append.1 hp).2.2 y hy x List.mem_cons_self
   have h2:=hv x List.mem_cons_self
   unfold seesT
   rw[Bool.eq_iff_iff]
   simp only[Bool.and_eq_true,Bool.not_eq_true',decide_eq_true_eq,decide_eq_false_iff_not]
   unfold touchA
   exact⟨fun⟨⟨q1,q2⟩,q3⟩=>⟨by omega,by omega,q2,q1⟩,fun⟨q1,q2,q3,q4⟩=>⟨⟨q4,q3⟩,by omega⟩⟩
  have hacc:∀(l:List KT) (a:List KT) (b c:List KP),(l.foldl (fun(s:List KT×List KP) x=>(s.1++[x],s.2++hitsT x s.1)) (a,b++c)).2=b++(l.foldl (fun(s:List KT×List KP) x=>(s.1++[x],s.2++hitsT x s.1)) (a,c)).2:=by
   intro l
   induction l with
   |nil=>intro a b c;rfl
   |cons y l ih=>intro a b c;rw[List.foldl_cons,List.foldl_cons,List.append_assoc];exact ih _ _ _
  show foundT x (keepT x op)++sweepT (keepT x op++[x]) l=((x::l).foldl _ (pre,[])).2
  rw[List.foldl_cons,key]
  have hh:=hacc l (pre++[x]) (hitsT x pre) []
  rw[List.append_nil]at hh
  rw[List.nil_append,hh]
  congr 1
  have hp2:(pre++[x]++l).Pairwise (fun x y=>x.ar.lx≤y.ar.lx):=by rw[List.append_assoc];exact hp
  have hkk:∀z∈l,keepT z (pre++[x])=keepT z (keepT x op++[x]):=fun z hz=>by
   have h1:x.ar.lx≤z.ar.lx:=(List.pairwise_append.1 hp2).2.2 x (List.mem_append_right _ (List.mem_singleton.2 rfl)) z hz
   unfold keepT at*
   rw[List.filter_append,List.filter_append]
   congr 1
   rw[←hx,List.filter_filter]
   refine List.filter_congr fun y _=> ?_
   rw[Bool.eq_iff_iff]
   simp only[Bool.and_eq_true,Bool.not_eq_true',decide_eq_false_iff_not]
   omega
  refine sweep_eq l (pre++[x]) (keepT x op++[x]) (fun z hz=>hv z (List.mem_cons_of_mem _ hz)) hp2 ?_ ?_ hkk
  ·exact((List.filter_sublist).trans hs).append (List.Sublist.refl _)
  ·intro z hz y hy hn
   have h3:y∈keepT z (pre++[x]):=List.mem_filter.2 ⟨hy,by simpa using hn⟩
   rw[hkk z hz]at h3
   exact(List.mem_filter.1 h3).1
theorem fold_perm:∀(l pre:List KT),(l.foldl (fun(s:List KT×List KP) x=>(s.1++[x],s.2++hitsT x s.1)) (pre,[])).2.Perm (l.flatMap (fun x=>hitsT x pre)++pairsT l)
 |[],pre=> .refl _
 |x::l,pre=>by
  have hacc:∀(l:List KT) (a:List KT) (b:List KP),(l.foldl (fun(s:List KT×List KP) x=>(s.1++[x],s.2++hitsT x s.1)) (a,b)).2=b++(l.foldl (fun(s:List KT×List KP) x=>(s.1++[x],s.2++hitsT x s.1)) (a,[])).2:=by
   intro l
   induction l with
   |nil=>intro a b;simp
   |cons y l ih=>intro a b;rw[List.foldl_cons,List.foldl_cons,ih,ih _ ([]++hitsT y a)];simp
  rw[List.foldl_cons,hacc]
  refine(List.Perm.append_left _ (fold_perm l (pre++[x]))).trans ?_
  rw[List.nil_append,List.flatMap_cons]
  have h1:(l.flatMap fun z=>hitsT z (pre++[x])).Perm (l.flatMap (fun z=>hitsT z pre)++hitsT x l):=by
   clear hacc
   induction l with
   |nil=>exact .refl _
   |cons y l ih=>
    rw[List.flatMap_cons,List.flatMap_cons,hits_append,hits_cons x y l,hits_swap y x]
    have:=ih
    rw[List.append_assoc,List.append_assoc]
    refine List.Perm.append_left _ ?_
    refine(List.Perm.append_left _ this).trans ?_
    rw[←List.append_assoc,←List.append_assoc]
    exact List.Perm.append_right _ List.perm_append_comm
  show(hitsT x pre++((l.flatMap fun z=>hitsT z (pre++[x]))++pairsT l)).Perm (hitsT x pre++l.flatMap (fun z=>hitsT z pre)++(hitsT x l++pairsT l))
  rw[List.append_assoc]
  refine List.Perm.append_left _ ?_
  rw[←List.append_assoc]
  exact List.Perm.append_right _ h1
theorem sweep_perm{l:List KT}(hv:∀x∈l,x.ar.lx≤x.ar.hx)(hs:l.Pairwise fun x y=>x.ar.lx≤y.ar.lx):(sweepT [] l).Perm (pairsT l):=by
 rw[sweep_eq l [] [] hv (by simpa using hs) (List.Sublist.refl _) (fun x _ y hy _=>hy) (fun _ _=>rfl)]
 refine(fold_perm l []).trans ?_
 have:l.flatMap (fun x=>hitsT x [])=[]:=by
  rw[List.flatMap_eq_nil_iff];intro x _;rfl
 rw[this,List.nil_append]
end Go.Brd
namespace Go.Brd
def leP(p q:KP):Bool:=decide (p.a<q.a∨p.a=q.a∧p.b≤q.b)
theorem leP_trans(p q r:KP)(h1:leP p q=true)(h2:leP q r=true):leP p r=true:=by
 unfold leP at*;simp only[decide_eq_true_eq]at*;omega
theorem leP_total(p q:KP):(leP p q||leP q p)=true:=by
 unfold leP;simp only[Bool.or_eq_true,decide_eq_true_eq];omega
theorem leP_anti{p q:KP}(h1:leP p q=true)(h2:leP q p=true):p=q:=by
 unfold leP at*;simp only[decide_eq_true_eq]at*
 cases p;cases q
 simp only at h1 h2
 congr 1<;>omega
def sortP(l:List KP):List KP:=l.mergeSort leP
theorem sortP_sorted(l:List KP):(sortP l).Pairwise fun p q=>leP p q=true:=List.pairwise_mergeSort leP_trans leP_total l
theorem sortP_perm(l:List KP):(sortP l).Perm l:=List.mergeSort_perm l leP
theorem sorted_one{l m:List KP}(h:l.Perm m)(hl:l.Pairwise fun p q=>leP p q=true)(hm:m.Pairwise fun p q=>leP p q=true):l=m:=
 h.eq_of_pairwise (le:=fun p q=>leP p q=true) (fun _ _ _ _ h1 h2=>leP_anti h1 h2) hl hm
theorem sortP_eq{l m:List KP}(h:l.Perm m)(hl:l.Pairwise fun p q=>leP p q=true):l=sortP m:=
 sorted_one (h.trans (sortP_perm m).symm) hl (sortP_sorted m)
def things:List KA→Nat→List KT
 |[],_=>[]
 |a::l,n=>⟨(n:Int),a⟩::things l (n+1)
def pairsA(l:List KA):List KP:=sortP (pairsT (things l 0))
theorem things_len:∀(l:List KA) (n:Nat),(things l n).length=l.length
 |[],_=>rfl
 |_::l,n=>by show(things l (n+1)).length+1=l.length+1;rw[things_len l]
theorem things_get:∀(l:List KA) (n k:Nat),(things l n)[k]? =(l[k]?).map fun a=>⟨((n+k:Nat):Int),a⟩
 |[],_,_=>by simp[things]
 |a::l,n,0=>by simp[things]
 |a::l,n,k+1=>by
  show(things l (n+1))[k]? =_
  rw[things_get l,List.getElem?_cons_succ,show n+1+k=n+(k+1) by omega]
theorem things_snoc(l:List KA)(a:KA)(n:Nat):things (l++[a]) n=things l n++[⟨((n+l.length:Nat):Int),a⟩]:=by
 induction l generalizing n with
 |nil=>simp[things]
 |cons b l ih=>show _::things (l++[a]) (n+1)=_::(things l (n+1)++_);rw[ih,List.length_cons,show n+1+l.length=n+(l.length+1) by omega]
theorem pairs_sorted:∀(l:List KT),(l.Pairwise fun x y=>x.id<y.id)→(pairsT l).Pairwise fun p q=>leP p q=true
 |[],_=>List.Pairwise.nil
 |x::l,h=>by
  obtain⟨h1,h2⟩:=List.pairwise_cons.1 h
  refine List.pairwise_append.2 ⟨?_,pairs_sorted l h2,?_⟩
  ·unfold hitsT
   rw[List.pairwise_map]
   refine(h2.filter _).imp_of_mem fun{y z} hy hz hyz=> ?_
   have hy:=h1 y (List.mem_filter.1 hy).1
   have hz:=h1 z (List.mem_filter.1 hz).1
   unfold leP mkP;simp only[decide_eq_true_eq];omega
  ·intro p hp q hq
   obtain⟨y,hy,rfl⟩:=List.mem_map.1 hp
   have hy:=h1 y (List.mem_filter.1 hy).1
   have key:∀(l:List KT),(∀z∈l,x.id<z.id)→∀q∈pairsT l,x.id<q.a:=by
    intro l
    induction l with
    |nil=>intro _ q hq;cases hq
    |cons z l ih=>
     intro hz q hq
     rcases List.mem_append.1 (show q∈hitsT z l++pairsT l from hq)with hq|hq
     ·obtain⟨u,hu,rfl⟩:=List.mem_map.1 hq
      have a1:=hz z List.mem_cons_self
      have a2:=hz u (List.mem_cons_of_mem _ (List.mem_filter.1 hu).1)
      unfold mkP;simp only;omega
     ·exact ih (fun u hu=>hz u (List.mem_cons_of_mem _ hu)) q hq
   have hq:=key l h1 q hq
   unfold leP mkP;simp only[decide_eq_true_eq];omega
theorem things_ids:∀(l:List KA) (n:Nat),(things l n).Pairwise fun x y=>x.id<y.id
 |[],_=>List.Pairwise.nil
 |a::l,n=>by
  refine List.pairwise_cons.2 ⟨fun y hy=> ?_,things_ids l (n+1)⟩
  obtain⟨k,hk⟩:=List.getElem?_of_mem hy
  rw[things_get]at hk
  cases hl:l[k]? with
  |none=>rw[hl]at hk;cases hk
  |some b=>rw[hl]at hk;injection hk with hk;rw[←hk];show(n:Int)<((n+1+k:Nat):Int);omega
theorem pairsA_eq(l:List KA):pairsA l=pairsT (things l 0):=(sortP_eq (.refl _) (pairs_sorted _ (things_ids l 0))).symm
end Go.Brd
