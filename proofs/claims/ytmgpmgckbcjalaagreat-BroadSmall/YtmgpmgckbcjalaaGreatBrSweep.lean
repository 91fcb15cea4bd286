/-
 The sweep, step by step, in plain terms. Own work; plain Lean.
-/
import Derived.Test.YtmgpmgckbcjalaaGreatBrPairs
namespace Go.Brd
def swF(l:List KT):List KT×List KP:=l.foldl (fun s x=>(keepT x s.1++[x],s.2++foundT x (keepT x s.1))) ([],[])
def opsT(ys:List KT)(k:Nat):List KT:=(swF (ys.take k)).1
def outsT(ys:List KT)(k:Nat):List KP:=(swF (ys.take k)).2
theorem swF_snoc(l:List KT)(x:KT):swF (l++[x])=(keepT x (swF l).1++[x],(swF l).2++foundT x (keepT x (swF l).1)):=by
 unfold swF;rw[List.foldl_append];rfl
theorem sw_step{ys:List KT}{k:Nat}{x:KT}(hx:ys[k]? =some x):swF (ys.take (k+1))=(keepT x (opsT ys k)++[x],outsT ys k++foundT x (keepT x (opsT ys k))):=by
 rw[List.take_add_one,hx];exact swF_snoc _ _
theorem sw_next{ys os:List KT}{k:Nat}{x:KT}(hx:ys[k]? =some x)(ho:os=opsT ys k):keepT x os++[x]=opsT ys (k+1):=by
 show _=(swF (ys.take (k+1))).1
 rw[sw_step hx,ho]
theorem sw_out{ys os:List KT}{k j:Nat}{x:KT}(hx:ys[k]? =some x)(ho:os=opsT ys k)(hj:(keepT x os).length≤j):outsT ys k++foundT x ((keepT x os).take j)=outsT ys (k+1):=by
 rw[List.take_of_length_le hj]
 show _=(swF (ys.take (k+1))).2
 rw[sw_step hx,ho]
theorem swF_all(l:List KT):∀(op:List KT) (out:List KP),(l.foldl (fun s x=>(keepT x s.1++[x],s.2++foundT x (keepT x s.1))) (op,out)).2=out++sweepT op l:=by
 induction l with
 |nil=>intro op out;simp[sweepT]
 |cons x l ih=>intro op out;rw[List.foldl_cons,ih,List.append_assoc];rfl
theorem outs_all{ys:List KT}{k:Nat}(hk:ys.length≤k):outsT ys k=sweepT [] ys:=by
 unfold outsT swF
 rw[List.take_of_length_le hk,swF_all,List.nil_append]
theorem ops_len(ys:List KT)(k:Nat):(opsT ys k).length≤k:=by
 have key:∀(l op:List KT) (out:List KP),(l.foldl (fun s x=>(keepT x s.1++[x],s.2++foundT x (keepT x s.1))) (op,out)).1.length≤op.length+l.length:=by
  intro l
  induction l with
  |nil=>intro op out;simp
  |cons x l ih=>
   intro op out
   rw[List.foldl_cons]
   refine Nat.le_trans (ih _ _) ?_
   have:=List.length_filter_le (fun y:KT=> !decide (y.ar.hx<x.ar.lx)) op
   simp only[keepT,List.length_append,List.length_cons,List.length_nil]
   omega
 have:=key (ys.take k) [] []
 unfold opsT swF
 simp only[List.length_nil,Nat.zero_add,List.length_take]at this
 omega
theorem found_yes{ks:List KT}{j:Nat}{x y:KT}{A:List KP}(hy:ks[j]? =some y)(h1:y.ar.ly≤x.ar.hy)(h2:x.ar.ly≤y.ar.hy):A++foundT x (ks.take j)++[mkP x y]=A++foundT x (ks.take (j+1)):=by
 unfold foundT
 rw[List.take_add_one,hy,List.filter_append,List.map_append,List.append_assoc]
 simp[seesT,h1,h2]
theorem found_no{ks:List KT}{j:Nat}{x y:KT}(hy:ks[j]? =some y)(h:¬(y.ar.ly≤x.ar.hy∧x.ar.ly≤y.ar.hy)):foundT x (ks.take j)=foundT x (ks.take (j+1)):=by
 unfold foundT
 rw[List.take_add_one,hy,List.filter_append,List.map_append]
 have:seesT x y=false:=by unfold seesT;rw[Bool.and_eq_false_iff,decide_eq_false_iff_not,decide_eq_false_iff_not];omega
 simp[this]
theorem outs_prefix{ys:List KT}{k:Nat}(hk:k≤ys.length):outsT ys k<+:outsT ys ys.length:=by
 induction h:ys.length-k generalizing k with
 |zero=>rw[show k=ys.length by omega];exact List.prefix_refl _
 |succ n ih=>
  have hx:ys[k]? =some (ys[k]'(by omega)):=List.getElem?_eq_getElem (by omega)
  refine List.IsPrefix.trans ?_ (ih (k:=k+1) (by omega) (by omega))
  show _<+:(swF (ys.take (k+1))).2
  rw[sw_step hx]
  exact List.prefix_append _ _
theorem sw_all{xs ys:List KT}(hp:ys.Perm xs)(hs:ys.Pairwise fun x y=>x.ar.lx≤y.ar.lx)(hv:∀x∈xs,x.ar.lx≤x.ar.hx):(sweepT [] ys).Perm (pairsT xs):=
 (sweep_perm (fun x hx=>hv x (hp.mem_iff.1 hx)) hs).trans (pairsT_perm hp)
theorem sw_pre{xs ys os:List KT}{k j:Nat}{x y:KT}(hx:ys[k]? =some x)(ho:os=opsT ys k)(hy:(keepT x os)[j]? =some y)(h1:y.ar.ly≤x.ar.hy)(h2:x.ar.ly≤y.ar.hy)(hp:ys.Perm xs)(hs:ys.Pairwise fun x y=>x.ar.lx≤y.ar.lx)(hv:∀x∈xs,x.ar.lx≤x.ar.hx):
  ∃l:List KP,l.Perm (pairsT xs)∧outsT ys k++foundT x ((keepT x os).take j)++[mkP x y]<+:l:=by
 refine⟨sweepT [] ys,sw_all hp hs hv,?_⟩
 have hk:=(List.getElem?_eq_some_iff.1 hx).1
 rw[found_yes hy h1 h2,←outs_all (Nat.le_refl _)]
 refine List.IsPrefix.trans ?_ (outs_prefix (k:=k+1) (by omega))
 show _<+:(swF (ys.take (k+1))).2
 rw[sw_step hx,ho]
 refine(List.prefix_append_right_inj _).2 ?_
 unfold foundT
 exact((List.take_prefix _ _).filter _).map _
end Go.Brd
