/-
  clear of a slice's end, in a row of one's own; a builtin whose result nobody takes. Own work; plain Lean.
-/
import Derived.Test.YtmgpmgckbcjalaaGreatSlFlat
namespace Go.Sl
section
variable {P:Program}{ro:Option Nat}{n:Nat}{ds:List Deferred}{β:Base}{Q:Exit→Act→World→Prop}{f:Fm}{L:List Res}{ops:Array Oper}{rest:List Oper}
variable {d:Option Tmp}{ty:TypeId}{ps:String}{af:Array Edge}{g:Option (Nat×Bool)}
theorem s_mem0{o:Oper}(hd:o.dst=none)
 (hv:∀w,St β L w→∃v w' L',(execOp (ev f) o).run P w= .ok (.value v) w'∧St β L' w'∧RunL P ro n ds β ops Q rest f L'):Step1 P ro n ds β o Q (wpListIn (Fe ro) 3 P ops Q rest) f L:=by
 intro a w ha hw
 obtain⟨v,w',L',hr,hw',k⟩:=hv w hw
 refine⟨fun _ _=>trivial,?_⟩
 rw[ha.eval,semAt_of hr (by simp),hr,Oper.uponIn_value,hd]
 exact k _ w' ha hw'
theorem l_mc{o:Oper}{Post:Value→List Res→Prop}(hg:o.guard=none)(hd:o.dst=none)(h:MV P β L f o Post)(k:∀v L',Post v L'→RunL P ro n ds β ops Q rest f L'):RunL P ro n ds β ops Q (o::rest) f L:=
 l_step hg (s_mem0 hd fun w hw=>let⟨v,w',L',hr,hw',hp⟩:=h w hw;⟨v,w',L',hr,hw',k v L' hp⟩)
theorem zeroCells_one{z:Array Value}(m:Nat)(h:z.toList.all (·.oneCell')=true):∀v∈(Builtin.zeroCells z m).toList,v.oneCell'=true:=by
 intro v hv
 unfold Builtin.zeroCells at hv
 simp only[Array.toList_map,List.mem_map]at hv
 obtain⟨i,hi,rfl⟩:=hv
 have hz:0<z.size:=by
  rcases Nat.eq_zero_or_pos z.size with h0|h0
  ·rw[h0]at hi;simp at hi
  ·exact h0
 have hm:=Nat.mod_lt i hz
 rw[getElem!_pos z (i%z.size) hm]
 exact List.all_eq_true.1 h _ (by rw[←Array.getElem_toList];exact List.getElem_mem _)
theorem m_clearFl{α:Type}{F:Fl α}{x:Operand}{t e c k T:Nat}{p:Option Addr}{xs:List α}{z:Value}(i:Nat)(hsl:slB P t e F.n=true)(hz:(P.info? e).bind (·.zero)=some z)(hzs:z.cells.size=F.n)(hz1:z.cells.toList.all (·.oneCell')=true)
 (hx:ev f x= .slice (adv p c k F.n) (xs.length-k) (c-k))(hi:L[i]? =some (rowF F T p c xs))(hk:k≤xs.length):
  MV P β L f ⟨d,.call ⟨.builtin .clear,#[x],#[t]⟩,ty,ps,af,g⟩ (fun v L'=>v= .tuple #[]∧L'=L.set i (rowF F T p c (xs.take k))):=fun w hw=>by
 obtain⟨hu,inf,hinf,hn2⟩:=slB_split hsl
 have hz':inf.zero=some z:=by rw[hinf]at hz;simpa using hz
 have hzv:∀w,(zeroValue e).run P w= .ok z w:=fun w=>by simp[zeroValue,typeInfo,hinf,hz']
 have hlk:(xs.take k).length=k:=by rw[List.length_take];omega
 have hcells:(xs.take k).flatMap F.enc=(xs.flatMap F.enc).take (k*F.n):=(fl_take xs k).symm
 have hex:∃a,Sub a (ph w)∧rowF F T p c xs a:=by
  obtain⟨_,_,_,hh,hd,hs,hs',hL⟩:=hw
  obtain⟨a,ha,hr⟩:=hL.each _ (List.mem_of_getElem? hi)
  exact⟨a,ha.trans hs',hr⟩
 by_cases he:xs.length-k=0
 ·have hke:k=xs.length:=by omega
  refine⟨.tuple #[],w,_,?_,hw,rfl,?_⟩
  ·simp only[execOp,resolve,invoke,builtin,Sem.run_bind,Sem.run_pure,Result.andThen_ok,List.map_toArray,List.map_cons,List.map_nil,hx,he,Builtin.clear_,List.getElem?_toArray,List.getElem?_cons_zero,run_underlying hu]
   cases adv p c k F.n<;>simp
  ·rw[hke,List.take_length]
   obtain⟨h9,e9⟩:=List.getElem?_eq_some_iff.1 hi
   rw[←e9,List.set_getElem_self]
 ·have hm:0<xs.length:=by omega
  obtain⟨a,ha,hr⟩:=hex
  obtain⟨b,cur,rfl,hb,h2,h3,h4,h5,h6⟩:=row_open hr hm
  have hbw:w.heap[b]? =some (.cells cur T (0,0)):=ha _ _ hb
  have hmc:xs.length*F.n≤c*F.n:=Nat.mul_le_mul_right F.n h2
  have hadd:adv (some (⟨b,0,none⟩:Addr)) c k F.n=some ⟨b,k*F.n,none⟩:=by
   unfold adv;rw[if_neg (by omega)];simp only[Option.map_some];unfold Addr.add;split<;>simp_all
  have hzl:(Builtin.zeroCells z.cells (xs.length-k)).toList.length=(xs.length-k)*F.n:=by simp[size_zeroCells,hzs]
  have hsum:k*F.n+(xs.length-k)*F.n=xs.length*F.n:=by rw[←Nat.add_mul];congr 1;omega
  have hst:=run_storeCells_at P b (k*F.n) T (Builtin.zeroCells z.cells (xs.length-k)).toList 0 cur w hbw (by rw[hzl,h4];omega) (zeroCells_one _ hz1)
  simp only[Nat.add_zero]at hst
  rw[hadd]at hx
  obtain⟨q,hq⟩:∃q,xs.length-k=q+1:=⟨xs.length-k-1,by omega⟩
  refine⟨.tuple #[],w.setRow b (over cur (k*F.n) (Builtin.zeroCells z.cells (xs.length-k)).toList),_,?_,?_,rfl,rfl⟩
  ·simp only[execOp,resolve,invoke,builtin,Sem.run_bind,Sem.run_pure,Result.andThen_ok,List.map_toArray,List.map_cons,List.map_nil,hx,Builtin.clear_,List.getElem?_toArray,List.getElem?_cons_zero,run_underlying hu,hq]
   rw[hq]at hst
   simp only[hzv,Result.andThen_ok,hst,over]
  ·refine St.back i hi ((hw.front i hi).turn rfl rfl rfl fun a' ha' hr'=> ?_)
   obtain⟨b',cur',e1,hb',g2,g3,g4,g5,g6⟩:=row_open hr' hm
   injection e1 with e1
   injection e1 with e1
   subst e1
   have hbw':w.heap[b]? =some (.cells cur' T (0,0)):=ha' _ _ hb'
   rw[hbw]at hbw'
   injection hbw' with e2
   injection e2 with e2
   subst e2
   refine⟨fun k'=>if k'=b then some (.cells (over cur (k*F.n) (Builtin.zeroCells z.cells (xs.length-k)).toList) T (0,0))else none,?_,?_,?_⟩
   ·refine⟨by rw[hlk,hcells,List.length_take,h6];omega,.inr ⟨b,c,over cur (k*F.n) (Builtin.zeroCells z.cells (xs.length-k)).toList,rfl,by simp,by omega,h3,?_,?_⟩⟩
    ·simp only[over,List.size_toArray,List.length_append,List.length_take,List.length_drop,Array.length_toList,hzl];omega
    ·rw[hlk,hcells,←h5,List.take_take,Nat.min_eq_left (by omega)]
     simp only[over]
     rw[List.append_assoc,List.take_append_of_le_length (by simp only[List.length_take,Array.length_toList];omega),List.take_take,Nat.min_self]
   ·intro k' y hy
    by_cases e:k'=b
    ·subst e;simp at hy;subst hy;exact setRow_heap w k' cur _ T _ hbw
    ·simp[e]at hy
   ·intro k' hlt hak
    have hne:k'≠b:=by rintro rfl;rw[hb']at hak;cases hak
    exact⟨by simp[hne],setRow_other w b k' _ hne⟩
end
end Go.Sl
