/-
  Functions that are handed over; where the first element lies of which a test is true; comparing. Own work; plain Lean.
-/
import Derived.Test.YtmgpmgckbcjalaaGreatSlClear
namespace Go.Sl
def FnV(P:Program){α:Type}(β:Base)(fn:Value)(enc:α→List Value)(S:α→Prop)(res:α→Value):Prop:=
 ∃g fst cap,fn= .func (.func g) fst.toArray cap.toArray∧cfB P g=true∧∀β₁,Sub β.heap β₁.heap→∀x,S x→∀w,St β₁ [] w→Calls P g (fst++enc x++cap).toArray w fun r w'=>r= .returned (res x)∧St β₁ [] w'
theorem FnV.mono{P:Program}{α:Type}{β β':Base}{fn:Value}{enc:α→List Value}{S:α→Prop}{res:α→Value}(h:FnV P β fn enc S res)(hs:Sub β.heap β'.heap):FnV P β' fn enc S res:=by
 obtain⟨g,fst,cap,e,hc,hk⟩:=h
 exact⟨g,fst,cap,e,hc,fun β₁ h1=>hk β₁ (hs.trans h1)⟩
def cmpI(a b:Int):Int:=if a<b then-1 else if b<a then 1 else 0
def idxI{α:Type}(p:α→Bool)(xs:List α):Int:=match xs.findIdx? p with|some i=>(i:Int)|none=> -1
theorem idx_found{α:Type}{p:α→Bool}{xs:List α}{k:Nat}{x:α}(hx:xs[k]? =some x)(hp:p x=true)(hno:∀y∈xs.take k,p y=false):idxI p xs=k:=by
 have:xs.findIdx? p=some k:=by
  rw[List.findIdx?_eq_some_iff_getElem]
  obtain⟨h,e⟩:=List.getElem?_eq_some_iff.1 hx
  refine⟨h,by rw[e];exact hp,fun j hj=> ?_⟩
  have hj':j<xs.length:=by omega
  have:=hno xs[j] (by rw[List.mem_take_iff_getElem];exact⟨j,by omega,rfl⟩)
  simpa using this
 unfold idxI;rw[this]
theorem idx_none{α:Type}{p:α→Bool}{xs:List α}{k:Nat}(hk:xs.length≤k)(hno:∀y∈xs.take k,p y=false):idxI p xs= -1:=by
 rw[List.take_of_length_le hk]at hno
 have:xs.findIdx? p=none:=List.findIdx?_eq_none_iff.2 hno
 unfold idxI;rw[this]
theorem idx_next{α:Type}{p:α→Bool}{xs:List α}{k:Nat}{x:α}(hx:xs[k]? =some x)(hp:p x=false)(hno:∀y∈xs.take k,p y=false):∀y∈xs.take (k+1),p y=false:=by
 rw[List.take_add_one,hx]
 intro z hz
 rcases List.mem_append.1 hz with hz|hz
 ·exact hno z hz
 ·simp at hz;rw[hz];exact hp
def orI(xs:List Int):Int:=(xs.find? (fun x=>decide (x≠0))).getD 0
theorem orI_found{xs:List Int}{k:Nat}{x:Int}(hx:xs[k]? =some x)(hp:x≠0)(hno:∀y∈xs.take k,y=0):orI xs=x:=by
 obtain⟨h,e⟩:=List.getElem?_eq_some_iff.1 hx
 have hs:xs=xs.take k++x::xs.drop (k+1):=by rw[←e,List.getElem_cons_drop,List.take_append_drop]
 unfold orI
 rw[hs,List.find?_append,List.find?_eq_none.2 (fun y hy=>by simp[hno y hy])]
 simp[hp]
theorem orI_none{xs:List Int}{k:Nat}(hk:xs.length≤k)(hno:∀y∈xs.take k,y=0):orI xs=0:=by
 rw[List.take_of_length_le hk]at hno
 unfold orI
 rw[List.find?_eq_none.2 (fun y hy=>by simp[hno y hy])];rfl
theorem orI_next{xs:List Int}{k:Nat}{x:Int}(hx:xs[k]? =some x)(hp:x=0)(hno:∀y∈xs.take k,y=0):∀y∈xs.take (k+1),y=0:=by
 rw[List.take_add_one,hx]
 intro z hz
 rcases List.mem_append.1 hz with hz|hz
 ·exact hno z hz
 ·simp at hz;rw[hz];exact hp
theorem orI_two(a b:Int):orI [a,b]=if a=0 then b else a:=by
 unfold orI
 by_cases h:a=0
 ·by_cases h2:b=0<;>simp[h,h2]
 ·simp[h]
structure DelInv{α:Type}(p:α→Bool)(xs ws:List α)(i j:Nat):Prop where
 len:ws.length=xs.length
 le:i≤j
 lj:j≤xs.length
 kept:ws.take i=(xs.take j).filter fun x=> !p x
 rest:ws.drop j=xs.drop j
theorem DelInv.start{α:Type}{p:α→Bool}{xs:List α}{k:Nat}(h:idxI p xs=k):DelInv p xs xs k (k+1):=by
 unfold idxI at h
 cases hf:xs.findIdx? p with
 |none=>rw[hf]at h;simp at h
 |some i=>
  rw[hf]at h
  have hik:i=k:=by simp at h;omega
  subst hik
  obtain⟨hi,hp,hno⟩:=List.findIdx?_eq_some_iff_getElem.1 hf
  refine⟨rfl,by omega,by omega,?_,rfl⟩
  rw[List.take_add_one,List.getElem?_eq_getElem hi,List.filter_append]
  have h1:(xs.take i).filter (fun x=> !p x)=xs.take i:=by
   rw[List.filter_eq_self]
   intro y hy
   obtain⟨j,hj,rfl⟩:=List.mem_take_iff_getElem.1 hy
   have:=hno j (by omega)
   simpa using this
  rw[h1];simp[hp]
theorem DelInv.get{α:Type}{p:α→Bool}{xs ws:List α}{i j:Nat}(h:DelInv p xs ws i j){x:α}(hx:ws[j]? =some x):xs[j]? =some x:=by
 have h1:(ws.drop j)[0]? =(xs.drop j)[0]? :=by rw[h.rest]
 rw[List.getElem?_drop,List.getElem?_drop,Nat.add_zero]at h1
 rw[←h1];exact hx
theorem DelInv.skip{α:Type}{p:α→Bool}{xs ws:List α}{i j:Nat}{x:α}(h:DelInv p xs ws i j)(hx:ws[j]? =some x)(hp:p x=true):DelInv p xs ws i (j+1):=by
 have hx':=h.get hx
 have hl:=(List.getElem?_eq_some_iff.1 hx').1
 refine⟨h.len,by have:=h.le;omega,by omega,?_,?_⟩
 ·rw[List.take_add_one,hx',List.filter_append,←h.kept];simp[hp]
 ·rw[←List.drop_drop,←List.drop_drop,h.rest]
theorem DelInv.keep{α:Type}{p:α→Bool}{xs ws:List α}{i j:Nat}{x:α}(h:DelInv p xs ws i j)(hx:ws[j]? =some x)(hp:p x=false):DelInv p xs (ws.set i x) (i+1) (j+1):=by
 have hx':=h.get hx
 have hl:=(List.getElem?_eq_some_iff.1 hx').1
 have hle:=h.le
 have hlen:=h.len
 refine⟨by rw[List.length_set];exact h.len,by omega,by omega,?_,?_⟩
 ·rw[List.take_add_one,List.take_add_one,hx',List.filter_append,←h.kept]
  rw[List.take_set_of_le (by omega),List.getElem?_set_self (by omega)]
  simp[hp]
 ·rw[List.drop_set_of_lt (by omega),←List.drop_drop,←List.drop_drop,h.rest]
theorem DelInv.done{α:Type}{p:α→Bool}{xs ws:List α}{i j:Nat}(h:DelInv p xs ws i j)(hj:xs.length≤j):ws.take i=xs.filter fun x=> !p x:=by
 rw[h.kept,List.take_of_length_le hj]
theorem filter_none{α:Type}{p:α→Bool}{xs:List α}(h:idxI p xs= -1):xs.filter (fun x=> !p x)=xs:=by
 unfold idxI at h
 cases hf:xs.findIdx? p with
 |some i=>rw[hf]at h;simp at h
 |none=>
  rw[List.filter_eq_self]
  intro x hx
  have:=List.findIdx?_eq_none_iff.1 hf x hx
  simp[this]
end Go.Sl
