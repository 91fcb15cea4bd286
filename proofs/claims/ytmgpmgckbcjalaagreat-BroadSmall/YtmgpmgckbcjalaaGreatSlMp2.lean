/-
  Operations on maps of any kind, over SlMp's resources. Own work; plain Lean.
-/
import Derived.Test.YtmgpmgckbcjalaaGreatSlMp
import Derived.Maps.RangeRun
namespace Go.Sl
open Go.ChangeMaps (setBlock)
section
variable {P:Program}{κ ν:Type}{K:MapK P κ ν}{ro:Option Nat}{n:Nat}{ds:List Deferred}{β:Base}{Q:Exit→Act→World→Prop}{f:Fm}{L:List Res}{ops:Array Oper}{rest:List Oper}
variable {d:Option Tmp}{ty:TypeId}{ps:String}{af:Array Edge}{g:Option (Nat×Bool)}
theorem mpR_nil(b:Nat)(a:PHeap)(h:pt b (.map #[] 0) a):mpR K b [] a:=⟨#[],0,h,rfl,List.nodup_nil,List.nodup_nil,fun e he=>by simp at he⟩
theorem m_mkmap{t:Nat}:MV P β L f ⟨d,.makeMap t none,ty,ps,af,g⟩ (fun u L'=>∃b,u= .map (some b)∧L'=mpR K b []::L):=fun w hw=>by
 refine⟨_,_,_,?_,(hw.new (.map #[] 0)).conseq fun a h=>mpR_nil _ a h,_,rfl,rfl⟩
 simp[execOp,Instr.makeMap]
theorem zero_mp (K : MapK P κ ν) (w : World) : (zeroValue K.et).run P w = .ok (K.encv K.zv) w := by
  have hz := K.hz
  cases hi : P.info? K.et with
  | none => rw [hi] at hz; cases hz
  | some i => rw [hi] at hz; have hz' : i.zero = some (K.encv K.zv) := by simpa using hz
              simp [zeroValue, typeInfo, hi, hz']
theorem found_mp{ks:List (κ×ν)}{es:Array MapEntry}{c:Nat}(hc:MapC K ks es c)(k:κ)(w:World):∃r,(Instr.findKey K.kt (K.enc k) es.toList).run P w= .ok r w∧
  (match r with|none=>K.look ks k=none|some (j,v)=>∃u,K.look ks k=some u∧v=K.encv u∧ks[j]? =some (k,u)):=by
 obtain⟨r,hr,hx⟩:=K.find k (ks.map (·.1)) es.toList w hc.ks
 refine⟨r,hr,?_⟩
 cases r with
 |none=>exact look_none.2 hx
 |some p=>
  obtain⟨j,v⟩:=p
  obtain⟨h1,h2⟩:=hx
  have h1:(ks.map (·.1))[j]? =some k:=h1
  have h2:(es.toList[j]?).map (·.val)=some v:=h2
  have ha:=hc.at j
  rw[List.getElem?_map]at h1
  cases hj:ks[j]? with
  |none=>rw[hj]at h1;cases h1
  |some q=>
   obtain⟨k',u⟩:=q
   rw[hj]at h1 ha
   simp only[Option.map_some,Option.some.injEq]at h1
   subst h1
   cases he:es.toList[j]? with
   |none=>rw[he]at h2;cases h2
   |some e=>
    rw[he]at h2 ha
    simp only[Option.map_some,Option.some.injEq,Prod.mk.injEq]at h2 ha
    exact⟨u,look_at hc.keys hj,by rw[←h2,ha.2],hj⟩
theorem e_look2{x y:Operand}{t b:Nat}{ks:List (κ×ν)}{k:κ}(ht:t=K.t)(hx:ev f x= .map (some b))(hy:ev f y=K.enc k)(hm:Knows β L (mpR K b ks)):
  EV P β L f ⟨d,.lookup t x y true,ty,ps,af,g⟩ (.tuple #[K.encv ((K.look ks k).getD K.zv),.bool (K.look ks k).isSome]):=fun w hw=>by
 obtain⟨es,c,hb,hc⟩:=hw.knows hm
 have hb:w.heap[b]? =some (.map es c):=hb
 obtain⟨r,hr,hx'⟩:=found_mp hc k w
 have hg:(getObj b).run P w= .ok (.map es c) w:=run_getM hb
 subst ht
 simp only[execOp,Instr.lookup,Sem.run_bind,run_underlying K.ht,Result.andThen_ok,hx,hy,hg,Sem.run_pure,K.chk,hr]
 cases r with
 |none=>
  have hl:K.look ks k=none:=hx'
  simp[zero_mp,hl]
 |some p=>
  obtain⟨j,v⟩:=p
  obtain⟨u,hl,hv,_⟩:=hx'
  simp[hl,hv]
theorem e_mlen{x:Operand}{t b:Nat}{ks:List (κ×ν)}(ht:t=K.t)(hx:ev f x= .map (some b))(hm:Knows β L (mpR K b ks)):
  EV P β L f ⟨d,.call ⟨.builtin .len,#[x],#[t]⟩,ty,ps,af,g⟩ (Nx ks.length):=fun w hw=>by
 obtain⟨es,c,hb,hc⟩:=hw.knows hm
 have hb:w.heap[b]? =some (.map es c):=hb
 have hg:(getObj b).run P w= .ok (.map es c) w:=run_getM hb
 have hl:es.size=ks.length:=by have:=congrArg List.length hc.cells;simpa using this
 subst ht
 simp[execOp,resolve,invoke,builtin,hx,Builtin.len_,run_underlying K.ht,hg,hl]
 rfl
theorem run_eqmap_nil(w:World){t k e:Nat}(b:Option Nat)(h:P.underlying t=some (.map k e)):(Op.equal t (.map b) (.map none)).run P w= .ok b.isNone w:=by
 unfold Op.equal
 show(Op.equalIn (9999+1) t (.map b) (.map none)).run P w=_
 unfold Op.equalIn
 cases b<;>simp[run_underlying h]
theorem e_neq_mnil{t t' k e:Nat}{x y:Operand}{b:Option Nat}(hx:ev f x= .map b)(hy:ev f y= .map none)(h:P.underlying t=some (.map k e)):EV P β L f ⟨d,.binOp .neq t x y t',ty,ps,af,g⟩ (.bool (!b.isNone)):=fun w _=>by
 have hb:(binOp .neq t (.map b) (.map none)).run P w= .ok (.bool (!b.isNone)) w:=by
  simp only[binOp]
  simp[run_eqmap_nil w b h]
 simp[execOp,hx,hy,eqGuard,hb]
theorem e_eql_mnil{t t' k e:Nat}{x y:Operand}{b:Option Nat}(hx:ev f x= .map b)(hy:ev f y= .map none)(h:P.underlying t=some (.map k e)):EV P β L f ⟨d,.binOp .eql t x y t',ty,ps,af,g⟩ (.bool b.isNone):=fun w _=>by
 have hb:(binOp .eql t (.map b) (.map none)).run P w= .ok (.bool b.isNone) w:=by
  simp only[binOp]
  simp[run_eqmap_nil w b h]
 simp[execOp,hx,hy,eqGuard,hb]
theorem St.mp_open{w:World}{b:Nat}{ks:List (κ×ν)}(i:Nat)(hw:St β L w)(hi:L[i]? =some (mpR K b ks)):∃es c,w.heap[b]? =some (.map es c)∧MapC K ks es c∧St β (L.set i (Sl.pt b (.map es c))) w:=by
 obtain⟨es,c,hb,hc⟩:=hw.knows (Knows.of_res i hi (mpR.mono K b ks) fun _ h=>h)
 have hb:w.heap[b]? =some (.map es c):=hb
 refine⟨es,c,hb,hc,St.back i hi<| ?_⟩
 have h:=hw.front i hi
 refine h.turn rfl rfl rfl fun a ha hr=> ?_
 obtain⟨es',c',hb',hc'⟩:=hr
 have e:=ha _ _ hb'
 have e':w.heap[b]? =some (.map es' c'):=e
 rw[hb]at e'
 injection e' with e';injection e' with e1 e2;subst e1;subst e2
 exact⟨a,hb',ha,fun _ h1 h2=>⟨h2,rfl⟩⟩
theorem St.mp_put{w:World}{b:Nat}{ks ks':List (κ×ν)}{es es':Array MapEntry}{c c':Nat}(i:Nat)(hi:L[i]? =some (mpR K b ks))(hb:w.heap[b]? =some (.map es c))(hw':St β (L.set i (Sl.pt b (.map es c))) w)(hc':MapC K ks' es' c'):
  St β (L.set i (mpR K b ks')) {w with heap:=w.heap.setIfInBounds b (.map es' c')}:=by
 have hli:i<L.length:=(List.getElem?_eq_some_iff.1 hi).1
 have hb':b<w.heap.size:=(Array.getElem?_eq_some_iff.1 hb).1
 have h:=(hw'.front i (r:=Sl.pt b (.map es c)) (by simp[hli])).put (w':={w with heap:=w.heap.setIfInBounds b (.map es' c')}) (o':= .map es' c') rfl rfl rfl (by simp[hb']) fun k' hk' _=>by
  simp[Ne.symm hk']
 have h2:=h.conseq (r':=mpR K b ks') fun a ha=>⟨es',c',ha,hc'⟩
 have h3:=St.back (L:=L.set i (Sl.pt b (.map es c))) i (r:=Sl.pt b (.map es c)) (by simp[hli]) h2
 simpa using h3
theorem MapC.push{ks:List (κ×ν)}{es:Array MapEntry}{c:Nat}(h:MapC K ks es c){k:κ}{v:ν}(hl:K.look ks k=none):MapC K (K.put ks k v) (es.push {key:=K.enc k,val:=K.encv v,born:=c}) (c+1):=by
 have hp:K.put ks k v=ks++[(k,v)]:=by unfold MapK.put;rw[hl];rfl
 rw[hp]
 refine⟨by simp[h.cells],?_,?_,?_⟩
 ·rw[List.map_append,List.nodup_append]
  refine⟨h.keys,by simp,fun a ha b hb=> ?_⟩
  simp at hb
  rw[hb]
  rintro rfl
  exact look_none.1 hl ha
 ·simp only[Array.toList_push,List.map_append,List.map_cons,List.map_nil]
  rw[List.nodup_append]
  refine⟨h.births,by simp,fun a ha b hb=> ?_⟩
  simp at hb
  rw[hb]
  obtain⟨e,he,rfl⟩:=List.mem_map.1 ha
  have:=h.old e he
  omega
 ·intro e he
  simp only[Array.toList_push,List.mem_append,List.mem_singleton]at he
  rcases he with he|rfl
  ·have:=h.old e he;omega
  ·show c<c+1;omega
theorem keys_ne{ks:List (κ×ν)}(hn:(ks.map (·.1)).Nodup){i j:Nat}{p q:κ×ν}(hi:ks[i]? =some p)(hj:ks[j]? =some q)(h:i≠j):p.1≠q.1:=by
 intro e
 obtain⟨h1,e1⟩:=List.getElem?_eq_some_iff.1 hi
 obtain⟨h2,e2⟩:=List.getElem?_eq_some_iff.1 hj
 have:=List.nodup_iff_pairwise_ne.1 hn
 rw[List.pairwise_map,List.pairwise_iff_getElem]at this
 rcases Nat.lt_or_gt_of_ne h with hlt|hlt
 ·have:=this i j h1 h2 hlt;rw[e1,e2]at this;exact this e
 ·have:=this j i h2 h1 hlt;rw[e1,e2]at this;exact this e.symm
theorem MapC.turn{ks:List (κ×ν)}{es:Array MapEntry}{c j:Nat}(h:MapC K ks es c){k:κ}{u v:ν}(hj:ks[j]? =some (k,u)):MapC K (K.put ks k v) (es.modify j fun e=>{e with key:=K.enc k,val:=K.encv v}) c:=by
 have hp:K.put ks k v=ks.map (fun p=> @ite _ (p.1=k) (K.dec _ _) (k,v) p):=by unfold MapK.put;rw[look_at h.keys hj];rfl
 have hkeys:(K.put ks k v).map (·.1)=ks.map (·.1):=by
  rw[hp,List.map_map]
  refine List.map_congr_left fun p _=> ?_
  simp only[Function.comp]
  split
  ·rename_i e;exact e.symm
  ·rfl
 have hes:(es.modify j fun e=>{e with key:=K.enc k,val:=K.encv v}).toList=es.toList.modify j fun e=>{e with key:=K.enc k,val:=K.encv v}:=by simp
 refine⟨?_,by rw[hkeys];exact h.keys,?_,?_⟩
 ·rw[hes,hp]
  apply List.ext_getElem?
  intro i
  have ha:=h.at i
  simp only[List.getElem?_map,List.getElem?_modify]
  cases hi:ks[i]? with
  |none=>
   rw[hi]at ha
   cases he:es.toList[i]? with
   |none=>simp
   |some e=>rw[he]at ha;cases ha
  |some p=>
   rw[hi]at ha
   cases he:es.toList[i]? with
   |none=>rw[he]at ha;cases ha
   |some e=>
    rw[he]at ha
    simp only[Option.map_some,Option.some.injEq,Prod.mk.injEq]at ha
    by_cases hij:j=i
    ·subst hij
     rw[hj]at hi
     injection hi with hi
     subst hi
     simp
    ·have hne:¬p.1=k:=keys_ne h.keys hi hj (fun q=>hij q.symm)
     simp[hij,hne,ha]
 ·rw[hes]
  have:(es.toList.modify j fun e=>{e with key:=K.enc k,val:=K.encv v}).map (·.born)=es.toList.map (·.born):=by
   apply List.ext_getElem?
   intro i
   simp only[List.getElem?_map,List.getElem?_modify]
   by_cases hij:j=i
   ·subst hij;cases es.toList[j]? <;>simp
   ·simp[hij]
  rw[this];exact h.births
 ·intro e he
  rw[hes]at he
  obtain⟨i,hi⟩:=List.getElem?_of_mem he
  rw[List.getElem?_modify]at hi
  cases he2:es.toList[i]? with
  |none=>rw[he2]at hi;simp at hi
  |some e2=>
   rw[he2]at hi
   have hb:=h.old e2 (List.mem_of_getElem? he2)
   by_cases hij:j=i
   ·subst hij;simp at hi;rw[←hi];exact hb
   ·simp[hij]at hi;rw[←hi];exact hb
theorem m_mput{x y z:Operand}{t b:Nat}{ks:List (κ×ν)}{k:κ}{v:ν}(i:Nat)(ht:t=K.t)(hx:ev f x= .map (some b))(hy:ev f y=K.enc k)(hv:ev f z=K.encv v)(hi:L[i]? =some (mpR K b ks)):
  MU P β L f ⟨d,.mapUpdate t x y z,ty,ps,af,g⟩ (L.set i (mpR K b (K.put ks k v))):=fun w hw=>by
 obtain⟨es,c,hb,hc,hw'⟩:=hw.mp_open i hi
 obtain⟨r,hr,hx'⟩:=found_mp hc k w
 have hg:(getObj b).run P w= .ok (.map es c) w:=run_getM hb
 subst ht
 simp only[execOp,Instr.mapUpdate,Sem.run_bind,run_underlying K.ht,Result.andThen_ok,hx,hy,hv,hg,K.chk,hr]
 cases r with
 |none=>
  have hl:K.look ks k=none:=hx'
  refine⟨_,?_,St.mp_put i hi hb hw' (hc.push (v:=v) hl)⟩
  simp[run_setM _ hb]
 |some p=>
  obtain⟨j,u⟩:=p
  obtain⟨u',hl,hu,hj⟩:=hx'
  have hst:∀w,(Instr.keyThatStays (K.enc k) (K.enc k)).run P w= .ok (K.enc k) w:=fun w=>by
   unfold Instr.keyThatStays
   rw[if_pos (K.bits k)];rfl
  have hej:((es[j]?).map (·.key)).getD (K.enc k)=K.enc k:=by
   have ha:=hc.at j
   rw[hj]at ha
   cases he:es[j]? with
   |none=>rfl
   |some e=>
    have he':es.toList[j]? =some e:=by simpa using he
    rw[he']at ha
    simp only[Option.map_some,Option.some.injEq,Prod.mk.injEq]at ha
    simp[ha.1]
  refine⟨_,?_,St.mp_put i hi hb hw' (hc.turn (v:=v) hj)⟩
  simp only[hej,Sem.run_bind,hst,Result.andThen_ok]
  simp[run_setM _ hb]
theorem erase_filter:∀{ks:List (κ×ν)} {j:Nat} {k:κ} {u:ν},(ks.map (·.1)).Nodup→ks[j]? =some (k,u)→K.del ks k=ks.eraseIdx j
 |[],_,_,_,_,h=>by simp at h
 |p::ks,0,k,u,hn,h=>by
  injection h with h;subst h
  unfold MapK.del
  rw[List.filter_cons]
  simp only[decide_true,Bool.not_true,Bool.false_eq_true,if_false,List.eraseIdx_cons_zero]
  rw[List.filter_eq_self]
  intro q hq
  rw[List.map_cons,List.nodup_cons]at hn
  have:q.1≠k:=fun e=>hn.1 (List.mem_map.2 ⟨q,hq,e⟩)
  simp[this]
 |p::ks,j+1,k,u,hn,h=>by
  have hk:p.1≠k:=keys_ne hn (i:=0) (j:=j+1) rfl h (by omega)
  rw[List.map_cons,List.nodup_cons]at hn
  have ih:=erase_filter hn.2 (by simpa using h)
  unfold MapK.del at ih⊢
  rw[List.filter_cons,List.eraseIdx_cons_succ,←ih]
  simp[hk]
theorem MapC.erase{ks:List (κ×ν)}{es:Array MapEntry}{c j:Nat}(h:MapC K ks es c){k:κ}{u:ν}(hj:ks[j]? =some (k,u)):MapC K (K.del ks k) (es.eraseIdxIfInBounds j) c:=by
 have hl:es.toList.length=ks.length:=by have:=congrArg List.length h.cells;simpa using this
 have hes:(es.eraseIdxIfInBounds j).toList=es.toList.eraseIdx j:=by
  unfold Array.eraseIdxIfInBounds
  split
  ·simp
  ·rw[List.eraseIdx_of_length_le (by simp;omega)]
 have hm:∀{α β:Type} (f:α→β) (l:List α),(l.eraseIdx j).map f=(l.map f).eraseIdx j:=fun f l=>Go.ChangeMaps.map_eraseIdx f l j
 refine⟨?_,?_,?_,?_⟩
 ·rw[erase_filter h.keys hj,hes,hm,hm,h.cells]
 ·rw[erase_filter h.keys hj,hm];exact h.keys.sublist (List.eraseIdx_sublist _ _)
 ·rw[hes,hm];exact h.births.sublist (List.eraseIdx_sublist _ _)
 ·intro e he;rw[hes]at he;exact h.old e (List.mem_of_mem_eraseIdx he)
theorem del_none{ks:List (κ×ν)}{k:κ}(h:K.look ks k=none):K.del ks k=ks:=by
 unfold MapK.del
 rw[List.filter_eq_self]
 intro p hp
 have:p.1≠k:=fun e=>look_none.1 h (List.mem_map.2 ⟨p,hp,e⟩)
 simp[this]
theorem m_mdel{x y:Operand}{t t2 b:Nat}{ks:List (κ×ν)}{k:κ}(i:Nat)(ht:t=K.t)(hx:ev f x= .map (some b))(hy:ev f y=K.enc k)(hi:L[i]? =some (mpR K b ks)):
  MV P β L f ⟨d,.call ⟨.builtin .delete,#[x,y],#[t,t2]⟩,ty,ps,af,g⟩ (fun v L'=>v= .tuple #[]∧L'=L.set i (mpR K b (K.del ks k))):=fun w hw=>by
 obtain⟨es,c,hb,hc,hw'⟩:=hw.mp_open i hi
 obtain⟨r,hr,hx'⟩:=found_mp hc k w
 have hg:(getObj b).run P w= .ok (.map es c) w:=run_getM hb
 subst ht
 simp only[execOp,resolve,invoke,builtin,Sem.run_bind,Sem.run_pure,Result.andThen_ok,List.map_toArray,List.map_cons,List.map_nil,hx,hy,Builtin.delete_,List.getElem?_toArray,List.getElem?_cons_zero,List.getElem?_cons_succ,run_underlying K.ht,hg,K.chk,hr]
 cases r with
 |none=>
  have hl:K.look ks k=none:=hx'
  refine⟨.tuple #[],_,_,?_,St.mp_put i hi hb hw' (ks':=K.del ks k) (by rw[del_none hl];exact hc),rfl,rfl⟩
  simp[run_setM _ hb]
 |some p=>
  obtain⟨j,u⟩:=p
  obtain⟨u',hl,hu,hj⟩:=hx'
  refine⟨.tuple #[],_,_,?_,St.mp_put i hi hb hw' (hc.erase hj),rfl,rfl⟩
  simp[run_setM _ hb]
end
end Go.Sl
