/-
  Ranges over maps, and clones of maps. Own work; plain Lean.
-/
import Derived.Test.YtmgpmgckbcjalaaGreatSlMp2
namespace Go.Sl
open Go.ChangeMaps (setBlock)
section
variable {P:Program}{κ ν:Type}(K:MapK P κ ν){ro:Option Nat}{n:Nat}{ds:List Deferred}{β:Base}{Q:Exit→Act→World→Prop}{f:Fm}{L:List Res}{ops:Array Oper}{rest:List Oper}
variable {d:Option Tmp}{ty:TypeId}{ps:String}{af:Array Edge}{g:Option (Nat×Bool)}
def rgR(b r:Nat)(ks pre:List (κ×ν)):Res:=fun h=>∃(es:Array MapEntry) (clock:Nat) (seen:Array Nat) (zs dz rz:List (MapEntry×(κ×ν))),
 h b=some (.map es clock)∧h r=some (.mapIter (some b) clock seen clock)∧b≠r∧MapC K ks es clock∧es.toList=zs.map (·.1)∧ks=zs.map (·.2)∧(∀z∈zs,z.1.key=K.enc z.2.1∧z.1.val=K.encv z.2.2)∧
 (dz++rz).Perm zs∧seen.toList=dz.map (·.1.born)∧pre=dz.map (·.2)
variable {K}
theorem rgR.mono(b r:Nat)(ks pre:List (κ×ν)):Mono (rgR K b r ks pre):=fun _ _ hs ⟨es,c,se,zs,dz,rz,h1,h2,h⟩=>⟨es,c,se,zs,dz,rz,hs _ _ h1,hs _ _ h2,h⟩
theorem rgR_mp{b r:Nat}{ks pre:List (κ×ν)}(a:PHeap)(h:rgR K b r ks pre a):mpR K b ks a:=by
 obtain⟨es,c,_,_,_,_,h1,_,_,h2,_⟩:=h
 exact⟨es,c,h1,h2⟩
theorem MapC.zip{ks:List (κ×ν)}{es:Array MapEntry}{c:Nat}(h:MapC K ks es c):∃zs:List (MapEntry×(κ×ν)),es.toList=zs.map (·.1)∧ks=zs.map (·.2)∧∀z∈zs,z.1.key=K.enc z.2.1∧z.1.val=K.encv z.2.2:=by
 have key:∀(es:List MapEntry) (ks:List (κ×ν)),es.map (fun e=>(e.key,e.val))=ks.map (fun p=>(K.enc p.1,K.encv p.2))→∃zs:List (MapEntry×(κ×ν)),es=zs.map (·.1)∧ks=zs.map (·.2)∧∀z∈zs,z.1.key=K.enc z.2.1∧z.1.val=K.encv z.2.2:=by
  intro es
  induction es with
  |nil=>
   intro ks h
   cases ks with
   |nil=>exact⟨[],rfl,rfl,by simp⟩
   |cons a ks=>simp at h
  |cons e es ih=>
   intro ks h
   cases ks with
   |nil=>simp at h
   |cons a ks=>
    simp only[List.map_cons,List.cons.injEq,Prod.mk.injEq]at h
    obtain⟨zs,h1,h2,h3⟩:=ih ks h.2
    refine⟨(e,a)::zs,by simp[h1],by simp[h2],fun z hz=> ?_⟩
    rcases List.mem_cons.1 hz with rfl|hz
    ·exact h.1
    ·exact h3 z hz
 exact key _ _ h.cells
theorem m_range{x:Operand}{t b:Nat}{ks:List (κ×ν)}(i:Nat)(ht:t=K.t)(hx:ev f x= .map (some b))(hi:L[i]? =some (mpR K b ks)):
  MV P β L f ⟨d,.range t x,ty,ps,af,g⟩ (fun u L'=>∃r,u= .pointer (some ⟨r,0,none⟩)∧L'=L.set i (rgR K b r ks [])):=fun w hw=>by
 obtain⟨es,c,hb,hc,hw'⟩:=hw.mp_open i hi
 have hg:(getObj b).run P w= .ok (.map es c) w:=run_getM hb
 have hli:i<L.length:=(List.getElem?_eq_some_iff.1 hi).1
 have hlt:b<w.heap.size:=(Array.getElem?_eq_some_iff.1 hb).1
 subst ht
 refine⟨.pointer (some ⟨w.heap.size,0,none⟩),w.alloc (.mapIter (some b) c #[] c),_,?_,?_,w.heap.size,rfl,rfl⟩
 ·simp[execOp,Instr.range,run_underlying K.ht,hx,hg]
 ·refine St.back i hi ?_
  have h1:=(hw.front i hi)
  have h2:St β (pt b (.map es c)::L.eraseIdx i) w:=by
   have:=hw'.front i (r:=pt b (.map es c)) (by simp[hli])
   rwa [show(L.set i (pt b (.map es c))).eraseIdx i=L.eraseIdx i from List.eraseIdx_set_eq ..]at this
  have h3:=(h2.new (.mapIter (some b) c #[] c))
  refine St.merge (L:=[pt w.heap.size (.mapIter (some b) c #[] c),pt b (.map es c)]) (M:=L.eraseIdx i) h3 fun a ha=> ?_
  obtain⟨p,q,_,hp,hq,h4,p2,q2,_,hp2,_,h5,_⟩:=ha
  obtain⟨zs,z1,z2,z3⟩:=hc.zip
  exact⟨es,c,#[],zs,[],zs,hq _ _ (hp2 _ _ h5),hp _ _ h4,by omega,hc,z1,z2,z3,List.Perm.refl _,rfl,rfl⟩
theorem rg_next{b r:Nat}{ks pre:List (κ×ν)}{w:World}(i:Nat)(hw:St β L w)(hi:L[i]? =some (rgR K b r ks pre))(ty:Nat):
  (pre.Perm ks∧(Instr.next (.pointer (some ⟨r,0,none⟩)) false ty).run P w= .ok (.tuple #[.bool false]) w)∨
  ∃x:κ×ν,∃w',(Instr.next (.pointer (some ⟨r,0,none⟩)) false ty).run P w= .ok (.tuple #[.bool true,K.enc x.1,K.encv x.2]) w'∧(∃rs,(pre++[x]++rs).Perm ks)∧St β (L.set i (rgR K b r ks (pre++[x]))) w':=by
 obtain⟨es,c,seen,zs,dz,rz,hb,hr,hbr,hc,z1,z2,z3,hperm,hseen,hpre⟩:=hw.knows (Knows.of_res i hi (rgR.mono b r ks pre) fun _ h=>h)
 have hb:w.heap[b]? =some (.map es c):=hb
 have hr:w.heap[r]? =some (.mapIter (some b) c seen c):=hr
 have hborn:(zs.map fun z=>z.1.born).Nodup:=by
  have:=hc.births
  rw[z1,List.map_map]at this
  exact this
 have hnd:((dz++rz).map fun z=>z.1.born).Nodup:=(hperm.map _).nodup_iff.2 hborn
 rcases run_next_at (P:=P) w ty r b c c seen es c hr hb hc.old (Nat.le_refl _)with⟨h0,hrun⟩|⟨e,he,w1,hw1,hrun⟩
 ·refine .inl ⟨?_,hrun⟩
  have hrz:rz=[]:=by
   cases rz with
   |nil=>rfl
   |cons z rz=>
    exfalso
    have hz:z∈zs:=hperm.mem_iff.1 (List.mem_append_right _ List.mem_cons_self)
    have hze:z.1∈es.toList:=by rw[z1];exact List.mem_map.2 ⟨z,hz,rfl⟩
    have hns:¬z.1.born∈seen.toList:=by
     rw[hseen]
     intro hm
     rw[List.map_append,List.nodup_append]at hnd
     exact hnd.2.2 _ hm _ (List.mem_map.2 ⟨z,List.mem_cons_self,rfl⟩) rfl
    have:z.1∈(leftOf es seen):=by
     unfold leftOf
     rw[Array.mem_filter]
     exact⟨by simpa using hze,by simpa using hns⟩
    have:=Array.size_pos_of_mem this
    omega
  subst hrz
  rw[List.append_nil]at hperm
  rw[hpre,z2]
  exact hperm.map _
 ·right
  have he2:e∈es.toList∧¬e.born∈seen.toList:=by
   unfold leftOf at he
   simp only[Array.toList_filter,List.mem_filter]at he
   exact⟨he.1,by simpa using he.2⟩
  have hz:∃z∈zs,z.1=e:=by
   rw[z1]at he2
   obtain⟨z,hz,e1⟩:=List.mem_map.1 he2.1
   exact⟨z,hz,e1⟩
  obtain⟨z,hz,rfl⟩:=hz
  have hzr:z∈rz:=by
   rcases List.mem_append.1 (hperm.mem_iff.2 hz)with h|h
   ·exfalso;rw[hseen]at he2;exact he2.2 (List.mem_map.2 ⟨z,h,rfl⟩)
   ·exact h
  obtain⟨A,B,rfl⟩:=List.append_of_mem hzr
  have hperm2:(dz++[z]++(A++B)).Perm zs:=by
   refine List.Perm.trans ?_ hperm
   rw[List.append_assoc]
   refine List.Perm.append_left dz ?_
   exact(List.perm_middle (a:=z) (l₁:=A) (l₂:=B)).symm
  refine⟨z.2,setBlock w1 r (.mapIter (some b) c (seen.push z.1.born) c),?_,⟨(A++B).map (·.2),?_⟩,?_⟩
  ·rw[hrun,(z3 z hz).1,(z3 z hz).2]
  ·rw[hpre,z2]
   have:=hperm2.map (·.2)
   simpa using this
  ·have hw1':St β L w1:=by rcases hw1 with rfl|rfl;exact hw;exact hw.drew
   have hr1:w1.heap[r]? =some (.mapIter (some b) c seen c):=by rcases hw1 with rfl|rfl<;>exact hr
   have hb1:w1.heap[b]? =some (.map es c):=by rcases hw1 with rfl|rfl<;>exact hb
   have hrl:r<w1.heap.size:=(Array.getElem?_eq_some_iff.1 hr1).1
   refine St.back i hi ((hw1'.front i hi).turn rfl rfl rfl fun a ha hra=> ?_)
   obtain⟨es',c',seen',_,_,_,k1,k2,_⟩:=hra
   have q1:=ha _ _ k1
   have q1':w1.heap[b]? =some (.map es' c'):=q1
   rw[hb1]at q1'
   injection q1' with q1';injection q1' with e1 e2;subst e1;subst e2
   refine⟨fun k=>if k=r then some (.mapIter (some b) c (seen.push z.1.born) c)else a k,?_,?_,?_⟩
   ·exact⟨es,c,seen.push z.1.born,zs,dz++[z],A++B,by simp[hbr,k1],by simp,hbr,hc,z1,z2,z3,hperm2,by simp[hseen],by simp[hpre]⟩
   ·intro k o hk
    show(setBlock w1 r _).heap[k]? =some o
    unfold setBlock
    by_cases e:k=r
    ·subst e;simp at hk;subst hk;simp[hrl]
    ·simp[e]at hk
     have:=ha _ _ hk
     have h9:w1.heap[k]? =some o:=this
     simp[Ne.symm e,h9]
   ·intro k hk hak
    have hne:k≠r:=by rintro rfl;rw[k2]at hak;cases hak
    refine⟨by simp[hne,hak],?_⟩
    show(setBlock w1 r _).heap[k]? =_
    unfold setBlock
    simp[Ne.symm hne]
theorem m_next{x:Operand}{b r:Nat}{ks pre:List (κ×ν)}(i:Nat)(hx:ev f x= .pointer (some ⟨r,0,none⟩))(hi:L[i]? =some (rgR K b r ks pre)):
  MV P β L f ⟨d,.next x false,ty,ps,af,g⟩ (fun v L'=>(v= .tuple #[.bool false]∧pre.Perm ks∧L'=L)∨(∃x:κ×ν,v= .tuple #[.bool true,K.enc x.1,K.encv x.2]∧(∃rs,(pre++[x]++rs).Perm ks)∧L'=L.set i (rgR K b r ks (pre++[x])))):=fun w hw=>by
 rcases rg_next i hw hi ty with⟨hp,hrun⟩|⟨x,w',hrun,hp,hw'⟩
 ·exact⟨_,w,L,by simp[execOp,hx,hrun],hw,.inl ⟨rfl,hp,rfl⟩⟩
 ·exact⟨_,w',_,by simp[execOp,hx,hrun],hw',.inr ⟨x,rfl,hp,rfl⟩⟩
theorem e_entry{x:Operand}{b r:Nat}{ks pre:List (κ×ν)}{y:κ×ν}(i:Nat)(hx:ev f x= .pointer (some ⟨r,0,none⟩))(hi:L[i]? =some (rgR K b r ks (pre++[y]))):
  EV P β L f ⟨d,.entry x,ty,ps,af,g⟩ (.tuple #[K.enc y.1,K.encv y.2]):=fun w hw=>by
 obtain⟨es,c,seen,zs,dz,rz,hb,hr,hbr,hc,z1,z2,z3,hperm,hseen,hpre⟩:=hw.knows (Knows.of_res i hi (rgR.mono b r ks (pre++[y])) fun _ h=>h)
 have hb:w.heap[b]? =some (.map es c):=hb
 have hr:w.heap[r]? =some (.mapIter (some b) c seen c):=hr
 have hne:dz≠[]:=by rintro rfl;simp at hpre
 obtain⟨dz',z,rfl⟩:∃dz' z,dz=dz'++[z]:=⟨dz.dropLast,dz.getLast hne,(List.dropLast_concat_getLast hne).symm⟩
 rw[List.map_append]at hpre hseen
 have hy:y=z.2:=by
  have:=congrArg List.getLast? hpre
  simpa using this
 have hz:z∈zs:=hperm.mem_iff.1 (by simp)
 have hs:seen=(dz'.map (·.1.born)).toArray.push z.1.born:=by
  apply Array.toList_inj.1
  simp[hseen]
 subst hs
 have hze:z.1∈es.toList:=by rw[z1];exact List.mem_map.2 ⟨z,hz,rfl⟩
 have hrun:=run_entry_at (P:=P) w r b c (dz'.map (·.1.born)).toArray es c z.1 hr hb hze hc.births
 rw[hy]
 simp[execOp,hx,hrun,(z3 z hz).1,(z3 z hz).2]
theorem e_mkiface{x:Operand}{t:Nat}{v:Value}{dd:TypeDesc}(hx:ev f x=v)(hu:P.underlying t=some dd)(hd:(match dd with| .interface _=>false|_=>true)=true):EV P β L f ⟨d,.makeInterface t x,ty,ps,af,g⟩ (.iface t v):=fun w _=>by
 subst hx
 simp only[execOp,Instr.makeInterface,Sem.run_bind,run_underlying hu,Result.andThen_ok]
 cases dd<;>simp_all
theorem e_assert{x:Operand}{t xt:Nat}{v:Value}{dd:TypeDesc}(hx:ev f x= .iface t v)(hu:P.underlying t=some dd)(hd:(match dd with| .interface _=>false|_=>true)=true):EV P β L f ⟨d,.typeAssert x xt t false,ty,ps,af,g⟩ v:=fun w _=>by
 simp only[execOp,Instr.typeAssert,hx,Sem.run_bind,run_underlying hu,Result.andThen_ok]
 cases dd<;>simp_all
def isClone(P:Program)(h:Nat):Prop:=∃fn,P.funcs[h]? =some fn∧(fn.name=="runtime.NumGoroutine")=false∧fn.body.isNone=true∧Extern.findNext fn=none∧Extern.find fn=some Extern.MapsClone.clone
theorem run_clone{t b:Nat}{es:Array MapEntry}{cl:Nat}{w:World}(hg:(getObj b).run P w= .ok (.map es cl) w):(Extern.MapsClone.clone #[.iface t (.map (some b))]).run P w= .ok (.iface t (.map (some w.heap.size))) (w.alloc (.map es cl)):=by
 have e:Extern.MapsClone.clone #[.iface t (.map (some b))]=(getObj b>>=fun o=>match o with
  | .map entries clock=>(newObj (.map entries clock)>>=fun r=>pure (.iface t (.map (some r))))
  |_=>stuck "maps.clone: a map expected"):=rfl
 rw[e]
 simp[hg]
theorem m_clone{x c:Operand}{ts:Array TypeId}{t h b:Nat}{ks:List (κ×ν)}(i:Nat)(hc:ev f c= .func (.func h) #[] #[])(hh:isClone P h)(hx:ev f x= .iface t (.map (some b)))(hm:L[i]? =some (mpR K b ks)):
  MV P β L f ⟨d,.call ⟨.value c,#[x],ts⟩,ty,ps,af,g⟩ (fun v L'=>∃b',v= .iface t (.map (some b'))∧L'=mpR K b' ks::L):=fun w hw=>by
 obtain⟨es,cl,hb,hk⟩:=hw.knows (Knows.of_res i hm (mpR.mono K b ks) fun _ h=>h)
 have hb:w.heap[b]? =some (.map es cl):=hb
 have hg:(getObj b).run P w= .ok (.map es cl) w:=run_getM hb
 obtain⟨fn,h1,h2,h3,h4,h5⟩:=hh
 refine⟨.iface t (.map (some w.heap.size)),w.alloc (.map es cl),_,?_,(hw.new (.map es cl)).conseq fun a ha=>⟨es,cl,ha,hk⟩,w.heap.size,rfl,rfl⟩
 have h2':fn.name≠"runtime.NumGoroutine":=by simpa using h2
 have h3':fn.body=none:=by simpa using h3
 simp[execOp,resolve,hc,Deferred.ofValue,invoke,callFunc,h1,h2',h3',h4,h5,hx,run_clone hg]
end
end Go.Sl
