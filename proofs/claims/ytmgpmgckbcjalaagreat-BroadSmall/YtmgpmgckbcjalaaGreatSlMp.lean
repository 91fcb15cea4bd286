/-
  Maps with keys and elements of any kind: look up, put, delete, length, range, clone. Own work; plain Lean.
-/
import Derived.Test.YtmgpmgckbcjalaaGreatSlMap
import Derived.Test.YtmgpmgckbcjalaaGreatSlEq
import Derived.Test.YtmgpmgckbcjalaaGreatSlClear
namespace Go.Sl
structure MapK(P:Program)(κ ν:Type) where
 t:Nat
 kt:Nat
 et:Nat
 dec:DecidableEq κ
 enc:κ→Value
 encv:ν→Value
 zv:ν
 ht:P.underlying t=some (.map kt et)
 hz:(P.info? et).bind (·.zero)=some (encv zv)
 chk:∀e a w,(Instr.checkKey e 10000 kt (enc a)).run P w= .ok () w
 find:∀(k:κ) (ks:List κ) (es:List MapEntry) (w:World),es.map (·.key)=ks.map enc→∃r,(Instr.findKey kt (enc k) es).run P w= .ok r w∧
  (match r with|none=>k∉ks|some (j,v)=>ks[j]? =some k∧(es[j]?).map (·.val)=some v)
 bits:∀a,Instr.sameBits 10000 (enc a) (enc a)=true
section
variable {P:Program}{κ ν:Type}
theorem find_asking{kt:Nat}{enc:κ→Value}(heq:∀a b w,∃r:Bool,(Op.equal kt (enc a) (enc b)).run P w= .ok r w∧(r=true↔a=b))(k:κ):
  ∀(ks:List κ) (es:List MapEntry) (i:Nat) (w:World),es.map (·.key)=ks.map enc→∃r,(Instr.findAsking kt (enc k) es i).run P w= .ok r w∧
   (match r with|none=>k∉ks|some (j,v)=>i≤j∧ks[j-i]? =some k∧(es[j-i]?).map (·.val)=some v)
 |[],[],i,w,_=>⟨none,by simp[Instr.findAsking],by simp⟩
 |[],_::_,_,_,h=>by simp at h
 |_::_,[],_,_,h=>by simp at h
 |a::ks,e::es,i,w,h=>by
  simp only[List.map_cons,List.cons.injEq]at h
  obtain⟨h1,h2⟩:=h
  obtain⟨r,hr,hi⟩:=heq k a w
  unfold Instr.findAsking
  rw[h1]
  cases r with
  |true=>
   have ek:k=a:=hi.1 rfl
   subst ek
   exact⟨some (i,e.val),by simp[hr],by simp⟩
  |false=>
   have ne:k≠a:=fun q=>by have:=hi.2 q;cases this
   obtain⟨r',hr',hx⟩:=find_asking heq k ks es (i+1) w h2
   refine⟨r',by simp[hr,hr'],?_⟩
   cases r' with
   |none=>simp only[List.mem_cons,not_or];exact⟨ne,hx⟩
   |some p=>
    obtain⟨g1,g2,g3⟩:=hx
    refine⟨by omega,?_,?_⟩
    ·rw[show p.1-i=(p.1-(i+1))+1 by omega,List.getElem?_cons_succ];exact g2
    ·rw[show p.1-i=(p.1-(i+1))+1 by omega,List.getElem?_cons_succ];exact g3
theorem find_struct{kt:Nat}{d:TypeDesc}{enc:κ→Value}(hd:P.underlying kt=some d)(hs:∀a b,Instr.sameNow d (enc a) (enc b)=none)(heq:∀a b w,∃r:Bool,(Op.equal kt (enc a) (enc b)).run P w= .ok r w∧(r=true↔a=b))
 (k:κ)(ks:List κ)(es:List MapEntry)(w:World)(h:es.map (·.key)=ks.map enc):∃r,(Instr.findKey kt (enc k) es).run P w= .ok r w∧
   (match r with|none=>k∉ks|some (j,v)=>ks[j]? =some k∧(es[j]?).map (·.val)=some v):=by
 unfold Instr.findKey
 cases es with
 |nil=>
  cases ks with
  |nil=>exact⟨none,by simp[run_underlying hd,Instr.findNow],by simp⟩
  |cons a ks=>simp at h
 |cons e es=>
  cases ks with
  |nil=>simp at h
  |cons a ks=>
   have hn:Instr.findNow d (enc k) (e::es) 0=none:=by
    unfold Instr.findNow
    simp only[List.map_cons,List.cons.injEq]at h
    rw[h.1,hs]
   obtain⟨r,hr,hx⟩:=find_asking heq k (a::ks) (e::es) 0 w h
   refine⟨r,by simp[run_underlying hd,hn,hr],?_⟩
   cases r with
   |none=>exact hx
   |some p=>exact⟨by simpa using hx.2.1,by simpa using hx.2.2⟩
theorem find_plain{kt:Nat}{d:TypeDesc}{enc:κ→Value}[DecidableEq κ](hd:P.underlying kt=some d)(hs:∀a b,Instr.sameNow d (enc a) (enc b)=some (decide (a=b)))
 (k:κ)(ks:List κ)(es:List MapEntry)(w:World)(h:es.map (·.key)=ks.map enc):∃r,(Instr.findKey kt (enc k) es).run P w= .ok r w∧
   (match r with|none=>k∉ks|some (j,v)=>ks[j]? =some k∧(es[j]?).map (·.val)=some v):=by
 have key:∀(ks:List κ) (es:List MapEntry) (i:Nat),es.map (·.key)=ks.map enc→∃r,Instr.findNow d (enc k) es i=some r∧
   (match r with|none=>k∉ks|some (j,v)=>i≤j∧ks[j-i]? =some k∧(es[j-i]?).map (·.val)=some v):=by
  intro ks
  induction ks with
  |nil=>
   intro es i h
   cases es with
   |nil=>exact⟨none,rfl,by simp⟩
   |cons e es=>simp at h
  |cons a ks ih=>
   intro es i h
   cases es with
   |nil=>simp at h
   |cons e es=>
    simp only[List.map_cons,List.cons.injEq]at h
    unfold Instr.findNow
    rw[h.1,hs]
    by_cases ek:k=a
    ·subst ek;exact⟨some (i,e.val),by simp,by simp⟩
    ·obtain⟨r',hr',hx⟩:=ih es (i+1) h.2
     refine⟨r',by simp[ek,hr'],?_⟩
     cases r' with
     |none=>simp only[List.mem_cons,not_or];exact⟨ek,hx⟩
     |some p=>
      obtain⟨g1,g2,g3⟩:=hx
      refine⟨by omega,?_,?_⟩
      ·rw[show p.1-i=(p.1-(i+1))+1 by omega,List.getElem?_cons_succ];exact g2
      ·rw[show p.1-i=(p.1-(i+1))+1 by omega,List.getElem?_cons_succ];exact g3
 obtain⟨r,hr,hx⟩:=key ks es 0 h
 refine⟨r,by simp[Instr.findKey,run_underlying hd,hr],?_⟩
 cases r with
 |none=>exact hx
 |some p=>exact⟨by simpa using hx.2.1,by simpa using hx.2.2⟩
variable (K:MapK P κ ν)
def MapK.look(ks:List (κ×ν))(k:κ):Option ν:=(ks.find? fun p=> @decide (p.1=k) (K.dec _ _)).map (·.2)
def MapK.put(ks:List (κ×ν))(k:κ)(v:ν):List (κ×ν):=if(K.look ks k).isSome then ks.map (fun p=> @ite _ (p.1=k) (K.dec _ _) (k,v) p)else ks++[(k,v)]
def MapK.del(ks:List (κ×ν))(k:κ):List (κ×ν):=ks.filter fun p=> !@decide (p.1=k) (K.dec _ _)
structure MapC(ks:List (κ×ν))(es:Array MapEntry)(clock:Nat):Prop where
 cells:es.toList.map (fun e=>(e.key,e.val))=ks.map fun p=>(K.enc p.1,K.encv p.2)
 keys:(ks.map (·.1)).Nodup
 births:(es.toList.map (·.born)).Nodup
 old:∀e∈es.toList,e.born<clock
def mpR(b:Nat)(ks:List (κ×ν)):Res:=fun h=>∃es clock,h b=some (.map es clock)∧MapC K ks es clock
theorem mpR.mono(b:Nat)(ks:List (κ×ν)):Mono (mpR K b ks):=fun _ _ hs ⟨es,c,h,k⟩=>⟨es,c,hs _ _ h,k⟩
variable {K}
theorem MapC.ks{ks:List (κ×ν)}{es:Array MapEntry}{c:Nat}(h:MapC K ks es c):es.toList.map (·.key)=(ks.map (·.1)).map K.enc:=by
 have:=congrArg (List.map (·.1)) h.cells
 simpa[List.map_map,Function.comp_def]using this
theorem MapC.at{ks:List (κ×ν)}{es:Array MapEntry}{c:Nat}(h:MapC K ks es c)(j:Nat):(es.toList[j]?).map (fun e=>(e.key,e.val))=(ks[j]?).map fun p=>(K.enc p.1,K.encv p.2):=by
 have:=congrArg (fun l=>l[j]?) h.cells
 simpa using this
theorem look_at{ks:List (κ×ν)}(hn:(ks.map (·.1)).Nodup){k:κ}{v:ν}{j:Nat}(h:ks[j]? =some (k,v)):K.look ks k=some v:=by
 unfold MapK.look
 obtain⟨hj,e⟩:=List.getElem?_eq_some_iff.1 h
 have hf:(ks.find? fun p=> @decide (p.1=k) (K.dec _ _))=some (k,v):=by
  rw[List.find?_eq_some_iff_getElem]
  refine⟨by simp,j,hj,e,fun i hi=> ?_⟩
  have:=List.nodup_iff_pairwise_ne.1 hn
  rw[List.pairwise_map,List.pairwise_iff_getElem]at this
  have h2:=this i j (by omega) hj hi
  rw[e]at h2
  simpa using h2
 rw[hf];rfl
theorem look_none{ks:List (κ×ν)}{k:κ}:K.look ks k=none↔k∉ks.map (·.1):=by
 unfold MapK.look
 rw[Option.map_eq_none_iff,List.find?_eq_none]
 simp only[decide_eq_true_eq,List.mem_map,not_exists,not_and]
end
end Go.Sl
