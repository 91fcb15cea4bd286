/-
 The library's Sort at []int, over rows of one's own. Own work; plain Lean.
-/
import Derived.Test.YtmgpmgckbcjalaaGreatBrShelfI
import Derived.Test.YtmgpmgckbcjalaaGreatBrSp
import Derived.Test.YtmgpmgckbcjalaaGreatBr2
import Derived.Test.YtmgpmgckbcjalaaGreatSlFam
namespace Go.Sl
open Go.Sort
section
variable {α:Type}[Inhabited α]{β:Base}{L:List Res}{w:World}
theorem row_holds{enc:α→Value}{T g m cap:Nat}{xs:List α}(h:St β (row (.slice (some ⟨g,0,none⟩) m cap) T 1 m (xs.map enc)::L) w):Holds enc w g 0 xs.toArray∧g<w.heap.size∧xs.length=m∧m≤cap∧cap≤maxLen:=by
 obtain⟨_,_,_,a,_,_,hs',hL⟩:=h
 obtain⟨a1,hs1,hl,hr⟩:=hL.each _ (List.mem_cons_self)
 rcases hr with⟨hr,_⟩|⟨g',cap',cur,e,hg,h1,h2,h3,h4⟩
 ·cases hr
 ·injection e with e1 e2 e3
  injection e1 with e1
  injection e1 with e1
  subst e1;subst e3
  have hb:w.heap[g]? =some (.cells cur T (0,0)):=hs' _ _ (hs1 _ _ hg)
  have hlen:xs.length=m:=by simpa using hl
  refine⟨fun j hj=> ?_,(Array.getElem?_eq_some_iff.1 hb).1,hlen,h1,h2⟩
  have hj':j<xs.length:=by simpa using hj
  have hc:cur[j]? =some (enc xs[j]):=by
   have h5:(cur.toList.take (m*1))[j]? =(xs.map enc)[j]? :=by rw[h4]
   rw[List.getElem?_take_of_lt (by omega)]at h5
   simpa[hj']using h5
  constructor
  ·show(match w.heap[g]? with|some (.cells c _ _)=>if(none:Option _).isSome then none else c[0+j]? |_=>none)=_
   rw[hb]
   simp[hc,hj']
  ·show(match w.heap[g]? with|some (.cells _ _ (lo,hi))=>decide (lo≤0+j)&&decide (0+j<hi)|_=>false)=_
   rw[hb]
   simp
theorem St.putRow{enc:α→Value}{T g m cap k:Nat}{xs ys:List α}{os:Array Obj}{q:Nat}(h:St β (row (.slice (some ⟨g,0,none⟩) m cap) T 1 m (xs.map enc)::L) w)(hys:ys.length=m)(hk:k≤m):
  St β (row (.slice (some ⟨g,0,none⟩) k cap) T 1 k ((ys.take k).map enc)::L) (Go.Sort.grow (Go.Sort.putRow enc (Go.Sort.ahead w q) g 0 ys.toArray) os):=by
 have hh:=row_holds h
 refine h.turn rfl rfl rfl fun a ha hr=> ?_
 obtain⟨hl,hr⟩:=hr
 rcases hr with⟨hr,_⟩|⟨g',cap',cur,e,hg,h1,h2,h3,h4⟩
 ·cases hr
 ·injection e with e1 e2 e3
  injection e1 with e1
  injection e1 with e1
  subst e1;subst e3
  have hb:w.heap[g]? =some (.cells cur T (0,0)):=ha _ _ hg
  have hgs:=(Array.getElem?_eq_some_iff.1 hb).1
  have hw':∀k',k'<w.heap.size→(Go.Sort.grow (Go.Sort.putRow enc (Go.Sort.ahead w q) g 0 ys.toArray) os).heap[k']? =if k'=g then some (.cells (putCells enc 0 ys.toArray cur) T (0,0))else w.heap[k']? :=by
   intro k' hk'
   unfold Go.Sort.grow Go.Sort.putRow mapBlock Go.Sort.ahead
   simp only
   rw[Array.getElem?_append_left (by simpa using hk'),Array.getElem?_modify]
   by_cases e:g=k'
   ·subst e;simp[hb,onCells]
   ·simp[e,Ne.symm e]
  refine⟨fun k'=>if k'=g then some (.cells (putCells enc 0 ys.toArray cur) T (0,0))else none,?_,?_,?_⟩
  ·refine⟨by simp;omega,.inr ⟨g,cap,putCells enc 0 ys.toArray cur,rfl,by simp,by omega,h2,by simp[putCells,h3],?_⟩⟩
   apply List.ext_getElem?
   intro j
   by_cases hj:j<k
   ·rw[List.getElem?_take_of_lt (by omega)]
    have hjy:j<ys.length:=by omega
    have hjc:j<cur.size:=by omega
    simp[putCells,hjc,hjy,hj]
   ·rw[List.getElem?_eq_none (by simp;omega),List.getElem?_eq_none (by simp;omega)]
  ·intro k' x hx
   by_cases e:k'=g
   ·subst e;simp at hx;subst hx
    show(Go.Sort.grow _ os).heap[k']? =_
    rw[hw' k' hgs];simp
   ·simp[e]at hx
  ·intro k' hlt hak
   have hne:k'≠g:=by rintro rfl;rw[hg]at hak;cases hak
   exact⟨by simp[hne],by rw[hw' k' hlt];simp[hne]⟩
end
end Go.Sl
namespace Go.Proofs
open Go Go.Sl Go.Sort
theorem sort_ok(β:Base)(w:World)(v:Value)(zs:List Int)(hw:St β [row v 3 1 zs.length (zs.map fun z=>Ix z)] w)(hsz:zs.length<4611686018427387904):
  Calls Tryz.prog 50 #[v] w fun e w'=>e= .returned (.tuple #[])∧St β [row v 3 1 zs.length ((zs.mergeSort fun x y=>decide (x≤y)).map fun z=>Ix z)] w':=by
 obtain⟨hl,hr⟩:∃a,row v 3 1 zs.length (zs.map fun z=>Ix z) a:=by
  obtain⟨_,_,_,a,_,_,_,hL⟩:=hw
  obtain⟨a1,_,h⟩:=hL.each _ (List.mem_cons_self)
  exact⟨a1,h⟩
 rcases hr.2 with⟨rfl,h0⟩|⟨g,cap,cur,rfl,_⟩
 ·have hz:zs=[]:=List.eq_nil_of_length_eq_zero h0
  subst hz
  exact(Tryz.slices_Sort_int_none none 0 w).mono fun e w' ⟨h1,h2⟩=>⟨h1,by subst h2;rw[List.mergeSort_nil];exact hw⟩
 ·have hh:=row_holds (enc:=fun z=>Ix z) hw
  refine(Tryz.slices_Sort_int g 0 cap zs w hh.1 hh.2.1 hsz).mono fun e w' ⟨h1,n,os,h2⟩=>⟨h1,?_⟩
  subst h2
  have h:=hw.putRow (enc:=fun z=>Ix z) (q:=n) (os:=os) (ys:=zs.mergeSort fun x y=>decide (x≤y)) (k:=zs.length) (by simp) (Nat.le_refl _)
  rw[List.take_of_length_le (by simp)]at h
  exact h
theorem fl_ints(xs:List Int):xs.flatMap IntF.enc=xs.map fun z=>Ix z:=by
 induction xs with
 |nil=>rfl
 |cons x xs ih=>show Ix x::_=Ix x::_;rw[←ih];rfl
theorem sortI_ok(β:Base)(w:World)(p:Option Addr)(c:Nat)(xs:List Int)(hw:St β [rowF IntF 3 p c xs] w)(hn:xs.length≤1048576):Calls Tryz.prog 50 #[.slice p xs.length c] w fun r w'=>r= .returned (.tuple #[])∧St β [rowF IntF 3 p c (Go.Brd.sortI xs)] w':=by
 have hw1:St β [row (.slice p xs.length c) 3 1 xs.length (xs.map fun z=>Ix z)] w:=by rw[←fl_ints];exact hw
 refine(sort_ok β w _ xs hw1 (by omega)).mono ?_
 rintro r w' ⟨rfl,hw'⟩
 refine⟨rfl,?_⟩
 have hl:(Go.Brd.sortI xs).length=xs.length:=(Go.Brd.sortI_perm xs).length_eq
 show St β [row (.slice p (Go.Brd.sortI xs).length c) 3 1 (Go.Brd.sortI xs).length ((Go.Brd.sortI xs).flatMap IntF.enc)] w'
 rw[fl_ints,hl]
 exact hw'
end Go.Proofs
