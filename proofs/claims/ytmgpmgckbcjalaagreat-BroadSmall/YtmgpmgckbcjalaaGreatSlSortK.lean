/-
  The library's SortFunc at structs, over rows of one's own. Own work; plain Lean.
-/
import Derived.Shelf.SlSortCmp.WholeK
import Derived.Shelf.SlSortCmp.NoneTotal
import Derived.Test.YtmgpmgckbcjalaaGreatSlFlat
namespace Go.Sl
open Go.Sort Go.Shelf
section
variable {α:Type}
theorem flat_get{F:Fl α}:∀{xs:List α} {i j:Nat} {x:α},xs[i]? =some x→j<F.n→(xs.flatMap F.enc)[i*F.n+j]? =(F.enc x)[j]?
 |[],i,j,x,h,_=>by simp at h
 |y::xs,0,j,x,h,hj=>by
  injection h with h;subst h
  rw[List.flatMap_cons,Nat.zero_mul,Nat.zero_add,List.getElem?_append_left (by rw[F.len];exact hj)]
 |y::xs,i+1,j,x,h,hj=>by
  have hl:=F.len y
  rw[List.flatMap_cons,List.getElem?_append_right (by rw[hl,Nat.add_mul];omega),hl,show(i+1)*F.n+j-F.n=i*F.n+j by rw[Nat.add_mul];omega]
  exact flat_get (by simpa using h) hj
end
section
variable {α:Type}[Inhabited α]{β:Base}{L:List Res}{w:World}
theorem rowv_holds{T g m n cap:Nat}{vs:List Value}(h:St β (row (.slice (some ⟨g,0,none⟩) m cap) T n m vs::L) w):Holds id w g 0 vs.toArray∧g<w.heap.size∧vs.length=m*n∧m≤cap∧cap≤maxLen:=by
 obtain⟨_,_,_,a,_,_,hs',hL⟩:=h
 obtain⟨a1,hs1,hl,hr⟩:=hL.each _ (List.mem_cons_self)
 rcases hr with⟨hr,_⟩|⟨g',cap',cur,e,hg,h1,h2,h3,h4⟩
 ·cases hr
 ·injection e with e1 e2 e3
  injection e1 with e1
  injection e1 with e1
  subst e1;subst e3
  have hb:w.heap[g]? =some (.cells cur T (0,0)):=hs' _ _ (hs1 _ _ hg)
  refine⟨fun j hj=> ?_,(Array.getElem?_eq_some_iff.1 hb).1,hl,h1,h2⟩
  have hj':j<vs.length:=by simpa using hj
  have hc:cur[j]? =some vs[j]:=by
   have h5:(cur.toList.take (m*n))[j]? =vs[j]? :=by rw[h4]
   rw[List.getElem?_take_of_lt (by omega)]at h5
   simpa[hj']using h5
  constructor
  ·show(match w.heap[g]? with|some (.cells c _ _)=>if(none:Option _).isSome then none else c[0+j]? |_=>none)=_
   rw[hb]
   simp[hc,hj']
  ·show(match w.heap[g]? with|some (.cells _ _ (lo,hi))=>decide (lo≤0+j)&&decide (0+j<hi)|_=>false)=_
   rw[hb]
   simp
theorem St.putRowV{T g m n cap:Nat}{vs us:List Value}{os:Array Obj}{q:Nat}(h:St β (row (.slice (some ⟨g,0,none⟩) m cap) T n m vs::L) w)(hus:us.length=m*n):
  St β (row (.slice (some ⟨g,0,none⟩) m cap) T n m us::L) (Go.Sort.grow (Go.Sort.putRow id (Go.Sort.ahead w q) g 0 us.toArray) os):=by
 refine h.turn rfl rfl rfl fun a ha hr=> ?_
 obtain⟨hl,hr⟩:=hr
 rcases hr with⟨hr,_⟩|⟨g',cap',cur,e,hg,h1,h2,h3,h4⟩
 ·cases hr
 ·injection e with e1 e2 e3
  injection e1 with e1
  injection e1 with e1
  subst e1;subst e3
  have hb:w.heap[g]? =some (.cells cur T (0,0)):=ha _ _ hg
  have hgs:=(Array.getElem?_eq_some_iff.1 hb).1
  have hmn:m*n≤cur.size:=by rw[h3];exact Nat.mul_le_mul_right _ h1
  have hw':∀k',k'<w.heap.size→(Go.Sort.grow (Go.Sort.putRow id (Go.Sort.ahead w q) g 0 us.toArray) os).heap[k']? =if k'=g then some (.cells (putCells id 0 us.toArray cur) T (0,0))else w.heap[k']? :=by
   intro k' hk'
   unfold Go.Sort.grow Go.Sort.putRow mapBlock Go.Sort.ahead
   simp only
   rw[Array.getElem?_append_left (by simpa using hk'),Array.getElem?_modify]
   by_cases e:g=k'
   ·subst e;simp[hb,onCells]
   ·simp[e,Ne.symm e]
  refine⟨fun k'=>if k'=g then some (.cells (putCells id 0 us.toArray cur) T (0,0))else none,?_,?_,?_⟩
  ·refine⟨hus,.inr ⟨g,cap,putCells id 0 us.toArray cur,rfl,by simp,h1,h2,by simp[putCells,h3],?_⟩⟩
   apply List.ext_getElem?
   intro j
   by_cases hj:j<m*n
   ·rw[List.getElem?_take_of_lt (by omega)]
    have hjy:j<us.length:=by omega
    have hjc:j<cur.size:=by omega
    simp[putCells,hjc,hjy]
   ·rw[List.getElem?_eq_none (by simp;omega),List.getElem?_eq_none (by omega)]
  ·intro k' x hx
   by_cases e:k'=g
   ·subst e;simp at hx;subst hx
    show(Go.Sort.grow _ os).heap[k']? =_
    rw[hw' k' hgs];simp
   ·simp[e]at hx
  ·intro k' hlt hak
   have hne:k'≠g:=by rintro rfl;rw[hg]at hak;cases hak
   exact⟨by simp[hne],by rw[hw' k' hlt];simp[hne]⟩
theorem flatK_list(F:Fl α)(xs:List α):(flatK F.enc F.n xs.toArray).toList=xs.flatMap F.enc:=by
 have hpos:=F.pos
 have hlen:(xs.flatMap F.enc).length=xs.length*F.n:=fl_len xs
 apply List.ext_getElem?
 intro t
 by_cases ht:t<xs.length*F.n
 ·have hi:t/F.n<xs.length:=Nat.div_lt_of_lt_mul (by rw[Nat.mul_comm];exact ht)
  have hj:t%F.n<F.n:=Nat.mod_lt _ hpos
  have hx:xs[t/F.n]? =some (xs[t/F.n]'hi):=List.getElem?_eq_getElem hi
  have h1:=flat_get (F:=F) hx hj
  rw[show t/F.n*F.n+t%F.n=t by rw[Nat.mul_comm];exact Nat.div_add_mod t F.n]at h1
  rw[h1]
  have hlx:=F.len (xs[t/F.n]'hi)
  simp[flatK,ht,hi,hlx,hj]
 ·rw[List.getElem?_eq_none (by simp[flatK];omega),List.getElem?_eq_none (by omega)]
end
end Go.Sl
