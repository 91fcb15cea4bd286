/-
  Own work; plain Lean (JnFil, SlA, JnOpen).
-/
import Derived.Test.YtkpdcajddpiknaaSlFam
import Derived.Recover
import Derived.Laws.Pointers
import Derived.Laws.Cover3
import Derived.Laws.BytesArg
import Derived.Laws.CopyRow
import Derived.MapKept
import Derived.ProofKit
import Derived.OpenShut
import Derived.Deep.Slices
import Derived.Test.YtkpdcajddpiknaaProg
import Derived.SizedLaws
set_option linter.all false
namespace Go.Sl
section
variable {P:Program}{ro:Option Nat}{n:Nat}{ds:List Deferred}{β:Base}{Q:Exit→Act→World→Prop}{f:Fm}{L:List cE}{ops:Array Oper}{rest:List Oper}
variable {d:Option Tmp}{ty:TypeId}{ps:String}{af:Array Edge}{g:Option (Nat×Bool)}
theorem aIe{o:Oper}{d:Nat}{g:FuncId}{args:Array Value}(hd:o.dst=some d)(hn:Nat.blt d n=true)
 (he:∀w,(execOp (ev f) o).run P w= .ok (.enter g args) w)
 (hc:∀w,St β L w→Calls P g args w fun e w'=>(∃ch,e= .panicked ch∧∃L',St β L' w'∧iN n ds β Q (.panic ch) f L')∨(∃v,e= .returned v∧∃L',St β L' w'∧cQ P ro n ds β ops Q rest (fS f d v) L')):
  sC P ro n ds β o Q (wpListIn (Fe ro) 3 P ops Q rest) f L:=by
 intro a w ha hw
 refine⟨fun _ _=>trivial,?_⟩
 rw[ha.eval,mH (he w) (by simp),he w,Oper.uponIn_enter,hd]
 refine⟨fun h=>by simp[Fe]at h,CallsIn.mono (mQ.2 (hc w hw)) ?_⟩
 rintro e w' (⟨ch,rfl,L',hw',k⟩|⟨v,rfl,L',hw',k⟩)
 ·exact k _ w' ha hw'
 ·exact k _ w' (ha.put hn v) hw'
theorem gC{o:Oper}{d:Nat}{g:FuncId}{args:Array Value}(hgd:o.guard=none)(hd:o.dst=some d)(hn:Nat.blt d n=true)(he:CL P f o g args)
 (hc:∀w,St β L w→Calls P g args w fun e w'=>(∃ch,e= .panicked ch∧∃L',St β L' w'∧iN n ds β Q (.panic ch) f L')∨(∃v,e= .returned v∧∃L',St β L' w'∧cQ P ro n ds β ops Q rest (fS f d v) L')):cQ P ro n ds β ops Q (o::rest) f L:=
 nT hgd (aIe hd hn he hc)
theorem aHn{x:Operand}{t:TypeId}{v:Value}(hx:ev f x= .iface t v)(k:iN n ds β Q (.panic [{v:= .iface t v,recovered:=false}]) f L):cQ P ro n ds β ops Q (⟨d,.panic x,ty,ps,af,none⟩::rest) f L:=by
 refine nT rfl fun a w ha hw=>⟨fun _ _=>trivial,?_⟩
 have hr:(execOp (ev f) ⟨d,.panic x,ty,ps,af,none⟩).run P w= .halt (.panic (.iface t v)) w:=by simp[execOp,hx,Instr.panic]
 have hs:(Oper.semAt ro (ev f) ⟨d,.panic x,ty,ps,af,none⟩)=execOp (ev f) ⟨d,.panic x,ty,ps,af,none⟩:=Oper.semAt_eq ro _ _ fun c hc=>by cases hc
 rw[ha.eval,show(Fe ro).round=ro from rfl,hs,hr,Oper.uponIn_panic]
 exact k a w ha hw
theorem dD{K:Act→World→Prop}{ch:List PanicEntry}(h:iN n ds β Q (.panic ch) f L):iN n ds β (Exit.then K Q) (.panic ch) f L:=h
theorem fU{id:Nat}{ch:List PanicEntry}(h:iN n ds β Q (.panic ch) f L):iN n ds β (Exit.inBlock id Q) (.panic ch) f L:=h
theorem pE{fn:Func}{R:Ending→World→Prop}{ch:List PanicEntry}(h:∀w,St β L w→R (.panicked ch) w):iN n [] β (bodyPost P fn R) (.panic ch) f L:=
 fun _ w ha hw=>⟨ha.defers,h w hw⟩
def Pr(φ:Prop):cE:=fun _=>φ
theorem St.pr{φ:Prop}{w:World}(hφ:φ)(h:St β L w):St β (Pr φ::L) w:=h.emp hφ
theorem aJl{c:Code}{φ:Prop}(hk:aX β L fun _=>φ)(k:φ→dE P ro n ds β c Q f L):dE P ro n ds β c Q f L:=fun a w ha hw=>k (hw.knows hk) a w ha hw
theorem St.unbun{M:List cE}{w:World}(h:St β (kI L::M) w):St β (L++M) w:=by
 obtain⟨ho,ht,hp,a,hd,hs,hs',hL⟩:=h
 exact⟨ho,ht,hp,a,hd,hs,hs',kI.append.2 hL⟩
theorem St.ex{α:Type}{r:α→cE}{M:List cE}{w:World}(h:St β ((fun a=>∃x,r x a)::M) w):∃x,St β (r x::M) w:=by
 obtain⟨ho,ht,hp,a,hd,hs,hs',p,q,h1,h2,h3,⟨x,hx⟩,h5⟩:=h
 exact⟨x,ho,ht,hp,a,hd,hs,hs',p,q,h1,h2,h3,hx,h5⟩
theorem aLu{c:Code}{α:Type}{r:α→cE}{M:List cE}(hL:L=(fun a=>∃x,r x a)::M)(k:∀x,dE P ro n ds β c Q f (r x::M)):dE P ro n ds β c Q f L:=fun a w ha hw=>by
 subst hL
 obtain⟨x,hx⟩:=hw.ex
 exact k x a w ha hx
theorem aGu{c:Code}{K M:List cE}(hL:L=kI K::M)(k:dE P ro n ds β c Q f (K++M)):dE P ro n ds β c Q f L:=fun a w ha hw=>by
 subst hL;exact k a w ha hw.unbun
theorem nO{c:Code}{r r':cE}(i:Nat)(hi:L[i]? =some r)(hr:∀a,r a→r' a)(k:dE P ro n ds β c Q f (L.set i r')):dE P ro n ds β c Q f L:=fun a w ha hw=>k a w ha (hw.conseq_at i hi hr)
theorem eL{t t':TypeId}{x y:Operand}{p:Option Addr}(hx:ev f x= .pointer p)(hy:ev f y= .pointer none)(h:P.underlying t=some (.pointer (P.pointee t))):EV P β L f ⟨d,.binOp .eql t x y t',ty,ps,af,g⟩ (.bool p.isNone):=fun w _=>by
 simp[execOp,hx,hy,eqGuard,run_eql_pointer_nil w t p h]
theorem pP{t t':TypeId}{x y:Operand}{p:Option Addr}(hx:ev f x= .pointer p)(hy:ev f y= .pointer none)(h:P.underlying t=some (.pointer (P.pointee t))):EV P β L f ⟨d,.binOp .neq t x y t',ty,ps,af,g⟩ (.bool (!p.isNone)):=fun w _=>by
 simp[execOp,hx,hy,eqGuard,run_neq_pointer_nil w t p h]
theorem tV{t t' e:TypeId}{x y:Operand}{a:Option Addr}{l c:Nat}(hx:ev f x= .slice a l c)(hy:ev f y= .slice none 0 0)(h:P.underlying t=some (.slice e)):EV P β L f ⟨d,.binOp .eql t x y t',ty,ps,af,g⟩ (.bool a.isNone):=fun w _=>by
 have hb:(binOp .eql t (.slice a l c) (.slice none 0 0)).run P w= .ok (.bool a.isNone) w:=by
  simp only[binOp]
  simp[run_equal_slice_nil w t e a l c h]
 simp[execOp,hx,hy,eqGuard,hb]
theorem aBi(a b:ByteArray):(a.toList==b.toList)=decide (a=b):=by
 rw[ByteArray.toList_eq,ByteArray.toList_eq]
 by_cases h:a=b
 ·subst h;simp
 ·have hne:a.data.toList≠b.data.toList:=fun e=>h (ByteArray.ext (Array.toList_inj.1 e))
  rw[decide_eq_false h]
  simpa using hne
theorem aGz{t t':TypeId}{x y:Operand}{a b:ByteArray}(hx:ev f x= .string a)(hy:ev f y= .string b):EV P β L f ⟨d,.binOp .eql t x y t',ty,ps,af,g⟩ (.bool (decide (a=b))):=fun w _=>by
 simp[execOp,hx,hy,eqGuard,binOp,Op.stringOp,aBi]
theorem aAw{t t':TypeId}{x y:Operand}{a b:ByteArray}(hx:ev f x= .string a)(hy:ev f y= .string b):EV P β L f ⟨d,.binOp .neq t x y t',ty,ps,af,g⟩ (.bool (decide (a≠b))):=fun w _=>by
 have e:(!decide (a=b))=decide (a≠b):=by by_cases h:a=b<;>simp[h]
 simp[execOp,hx,hy,eqGuard,binOp,Op.stringOp,aBi]
theorem aHb{t:TypeId}{x:Operand}{a:UInt64}(hx:ev f x=Ux a):EV P β L f ⟨d,.unOp .xor t x,ty,ps,af,g⟩ (Ux (~~~a)):=fun w _=>by
 have h1:(Op.intBits BinOp.xor IntKind.u64 (if IntKind.u64.signed=true then-1 else IntKind.u64.max) (a.toNat:Int)).run P w= .ok (Ux (~~~a)) w:=by
  have e:(IntKind.u64.max:Int)=((18446744073709551615:UInt64).toNat:Int):=by decide
  have e2:(18446744073709551615:UInt64)^^^a= ~~~a:=by
   apply UInt64.toBitVec_inj.1
   simp
   exact BitVec.allOnes_xor
  have h:=oK 18446744073709551615 a
  rw[e2]at h
  rw[if_neg (by decide),e]
  simp only[Op.intBits]
  exact congrArg (fun z=>Result.ok (Value.int IntKind.u64 z) w) h
 simp[execOp,hx,Op.unary,h1]
def tF(sps:List Sp)(N:Nat):Bool:=(List.range N).all fun j=>hZ j (gT sps N)
theorem yP{sps:List Sp}{N j:Nat}(h:tF sps N=true)(hj:j<N):j∈gT sps N:=fL.1 (List.all_eq_true.1 h j (List.mem_range.2 hj))
def aBs(t:Tok)(N:Nat):Bool:=iA t.prod (Nat.blt · N)&&iA t.cons (Nat.blt · N)
end
section
variable {P:Program}{ro:Option Nat}{n:Nat}{ds:List Deferred}{β:Base}{Q:Exit→Act→World→Prop}
theorem aEn{opsA:List Oper}{oN:Oper}{ops:List Oper}{sps:List Sp}{toks:List Tok}{ini:List (Nat×Value)}{fin:List Nat}{M:List cE}
 (hA:ops=opsA++[oN])(hal:tF sps opsA.length=true)(hno:toks.all (fun t=>aBs t opsA.length)=true)(h1:nP ops sps ini=true)(h2:toks.all (kZ ops sps)=true)(ho:Obs P ro n ds β ops sps toks ini opsA 0)(hf:fin.all (sJ ops ini)=true)
 (hQ:∀f',KEv sps f' (sps.take opsA.length)→nH ini fin f'→cQ P ro n ds β ops.toArray Q [oN] f' (rs (mD toks) f'++M)):
  ∀(fuel:Nat) (listed:Array Bool) (f:Fm) (a:Act) (w:World),listed.size=ops.length→((List.range ops.length).filter (fun j=> !listed.getD j false)).length≤fuel→
   Inv ops sps toks ini n ds β M (fun j=>listed.getD j false) f a w→listed.getD opsA.length false=false→wpAnyIn (Fe ro) 3 P .any ops.toArray Q fuel listed a w:=by
 have hc:=h1
 simp only[nP,Bool.and_eq_true]at hc
 obtain⟨⟨hlen,hops⟩,hsps⟩:=hc
 have hlen:=Nat.eq_of_beq_eq_true hlen
 have hop:∀{i:Nat} {o:Oper},ops[i]? =some o→(∀e∈o.after,Region.binds .any e=true→e.on<i)∧∀j∈gT sps i,behind sps o j=true:=by
  intro i o hi
  have:=gS hops hi
  simp only[Nat.zero_add,Bool.and_eq_true,List.all_eq_true]at this
  exact⟨fun e he hb=>by have:=this.1 e (by simpa using he);rw[hb]at this;simpa using this,this.2⟩
 have hsp:∀{i:Nat} {s:Sp},sps[i]? =some s→(∀j∈s.need,j∈s.anc)∧(∀x∈s.ini,∀p,ini[x]? =some p→aEl ops sps i p.1=true)∧(∀t∈s.sl,∀(j:Nat) o,ops[j]? =some o→o.dst=some t→j=i∨j∈s.anc):=by
  intro i s hi
  have:=gS hsps hi
  simp only[Nat.zero_add,Bool.and_eq_true,List.all_eq_true]at this
  refine⟨fun j hj=>fL.1 (this.1.1 j hj),fun x hx p hp=> ?_,fun t hts j o hj hd=> ?_⟩
  ·have:=this.1.2 x hx;rw[hp]at this;exact this
  ·have:=gS (this.2 t hts) hj
   simp only[Nat.zero_add,lL.2 hd,Bool.not_true,Bool.false_or,Bool.or_eq_true]at this
   rcases this with h|h
   ·exact .inl (Nat.eq_of_beq_eq_true h)
   ·exact .inr (fL.1 h)
 have hN:ops.length=opsA.length+1:=by rw[hA];simp
 have hoN:ops[opsA.length]? =some oN:=by rw[hA];simp
 have done:∀(listed:Array Bool) (f:Fm) (a:Act) (w:World),(∀j,j<opsA.length→listed.getD j false=true)→listed.getD opsA.length false=false→Inv ops sps toks ini n ds β M (fun j=>listed.getD j false) f a w→
   wpListIn (Fe ro) 3 P ops.toArray Q [oN] a w:=by
  intro listed f a w hall hlN I
  have hK:KEv sps f (sps.take opsA.length):=KEv.of fun s hs=>by
   obtain⟨j,hj⟩:=List.getElem?_of_mem hs
   have hjl:j<opsA.length:=by
    have:=(List.getElem?_eq_some_iff.1 hj).1
    simp at this;omega
   rw[List.getElem?_take_of_lt hjl]at hj
   exact I.k j s hj (hall j hjl)
  have hI:nH ini fin f:=nH.of fun x hx p hp=>by
   refine I.ini p (List.mem_of_getElem? hp) fun j o hj _ hd=> ?_
   have:=List.all_eq_true.1 hf x hx
   unfold sJ at this;rw[hp]at this
   have:=List.all_eq_true.1 this o (List.mem_of_getElem? hj)
   rw[lL.2 hd]at this;cases this
  have hT:toks.filter (fD fun j=>listed.getD j false)=mD toks:=by
   refine List.filter_congr fun t hm=> ?_
   have hlt:=List.all_eq_true.1 hno t hm
   simp only[aBs,Bool.and_eq_true]at hlt
   have hP:iA t.prod (fun j=>listed.getD j false)=true:=by
    cases hp:t.prod with
    |none=>rfl
    |some p=>have:=hlt.1;rw[hp]at this;exact hall p (by simpa[iA]using this)
   unfold fD
   rw[hP]
   cases hcn:t.cons with
   |none=>rfl
   |some c=>have:=hlt.2;rw[hcn]at this;simp[gG,hall c (by simpa[iA]using this)]
  have hst:=I.st
  rw[hT]at hst
  exact hQ f hK hI a w I.hat hst
 have allSet:∀(fuel:Nat) (listed:Array Bool) (a:Act) (w:World),listed.size=ops.length→(∀j,j<ops.length→listed.getD j false=true)→Q .normal a w→wpAnyIn (Fe ro) 3 P .any ops.toArray Q fuel listed a w:=by
  intro fuel listed a w hsz hall hq
  have hr:Region.ready .any ops.toArray listed=[]:=by
   refine List.eq_nil_iff_forall_not_mem.2 fun j hj=> ?_
   obtain⟨hl,o,ho',_⟩:=mem_ready.1 hj
   have hj':j<ops.length:=by
    have:=(Array.getElem?_eq_some_iff.1 ho').1
    simpa using this
   have:=hall j hj'
   simp only[Array.getD_eq_getD_getElem?,Array.getElem?_eq_getElem (by omega:j<listed.size),Option.getD_some]at hl this
   rw[hl]at this;cases this
  cases fuel with
  |zero=>exact⟨hr,hq⟩
  |succ k=>exact⟨fun _=>hq,fun i hi=>by rw[hr]at hi;cases hi⟩
 intro fuel
 induction fuel with
 |zero=>
  intro listed f a w hsz hle I hlN
  have:opsA.length∈(List.range ops.length).filter (fun j=> !listed.getD j false):=List.mem_filter.2 ⟨List.mem_range.2 (by omega),by rw[hlN];rfl⟩
  have:=List.length_pos_of_mem this
  omega
 |succ fuel ih=>
  intro listed f a w hsz hle I hlN
  refine⟨fun hr=> ?_,fun i hi=> ?_⟩
  ·exfalso
   have least:∀j,j<ops.length→listed.getD j false=true:=by
    intro j
    induction j using Nat.strongRecOn with
    |_ j ihj=>
     intro hj
     cases hl:listed.getD j false with
     |true=>rfl
     |false=>
      have hl':listed.getD j true=false:=by
       simp only[Array.getD_eq_getD_getElem?,Array.getElem?_eq_getElem (by omega:j<listed.size),Option.getD_some]at hl⊢
       exact hl
      have ho:=List.getElem?_eq_getElem hj
      have:j∈Region.ready .any ops.toArray listed:=mem_ready.2 ⟨hl',_,(List.getElem?_toArray ..).trans ho,fun e he hb=>ihj e.on ((hop ho).1 e he hb) (by have:=(hop ho).1 e he hb;omega)⟩
      rw[hr]at this;simp at this
   have:=least opsA.length (by omega)
   rw[hlN]at this;cases this
  obtain⟨hl,o,ho',hdep⟩:=mem_ready.1 hi
  have ho'':ops[i]? =some o:=by simpa using ho'
  have hi':i<ops.length:=(List.getElem?_eq_some_iff.1 ho'').1
  have hDi:listed.getD i false=false:=by
   simp only[Array.getD_eq_getD_getElem?,Array.getElem?_eq_getElem (by omega:i<listed.size),Option.getD_some]at hl⊢
   exact hl
  have hanc:∀m∈gT sps i,listed.getD m false=true:=by
   intro m hm
   have hb:=(hop ho'').2 m hm
   unfold behind at hb
   obtain⟨e,he,hb⟩:=List.any_eq_true.1 hb
   simp only[Bool.and_eq_true,Bool.or_eq_true]at hb
   have hd:=hdep e (by simpa using he) hb.1
   rcases hb.2 with h|h
   ·have:=Nat.eq_of_beq_eq_true h;subst this;exact hd
   ·exact I.closed e.on hd m (fL.1 h)
  by_cases hiN:i=opsA.length
  ·subst hiN
   rw[hoN]at ho''
   injection ho'' with ho''
   subst ho''
   have hall:∀j,j<opsA.length→listed.getD j false=true:=fun j hj=>hanc j (yP hal hj)
   have hob:=done listed f a w hall hlN I
   have stepN:∀a' w',wpListIn (Fe ro) 3 P ops.toArray Q [] a' w'→wpAnyIn (Fe ro) 3 P .any ops.toArray Q fuel (listed.setIfInBounds opsA.length true) a' w':=by
    intro a' w' hq
    refine allSet fuel _ a' w' (by simp[hsz]) (fun j hj=> ?_) (by simpa only[wpListIn]using hq)
    by_cases e:j=opsA.length
    ·subst e;simp[Array.getD_eq_getD_getElem?,hsz,hi']
    ·rw[getD_set_ne _ (Ne.symm e)];exact hall j (by omega)
   unfold wpOpIn
   rw[ho']
   simp only
   unfold wpListIn at hob
   split at hob
   ·rename_i hwn
    rw[if_pos hwn]
    exact Oper.wpIn_mono stepN hob
   ·rename_i hwn
    rw[if_neg hwn]
    exact⟨hob.1,stepN _ _ hob.2⟩
  have hiA:i<opsA.length:=by omega
  have hoA:opsA[i]? =some o:=by rw[hA,List.getElem?_append_left hiA]at ho'';exact ho''
  obtain⟨s,hs⟩:∃s,sps[i]? =some s:=⟨_,List.getElem?_eq_getElem (by omega)⟩
  have hsa:gT sps i=s.anc:=by unfold gT;rw[hs]
  have hob:=ho.get hoA
  rw[Nat.zero_add]at hob
  unfold Ob at hob
  rw[hs]at hob
  have hob:=hob f (rs (toks.filter (fun t=>fD (fun j=>listed.getD j false) t&& !hZ i t.by_)) f++M)
   (zV.of fun j hj s' hs'=>I.k j s' hs' (hanc j (by rw[hsa];exact(hsp hs).1 j hj)))
   (nH.of fun x hx p hp=>I.ini p (List.mem_of_getElem? hp) fun j oj hj hD hd=>by
    have:=gS ((hsp hs).2.1 x hx p hp) hj
    simp only[Nat.zero_add,lL.2 hd,Bool.not_true,Bool.false_or,Bool.or_eq_true]at this
    rcases this with h|h
    ·have:=Nat.eq_of_beq_eq_true h;subst this;rw[hDi]at hD;cases hD
    ·have:=I.closed j hD i (fL.1 h);exact absurd (hDi.symm.trans this) (by simp))
  have hsplit:=vM (ops:=ops) (D:=fun j=>listed.getD j false) I.closed hDi hanc h2
  have hst:St β (rs (nC toks i) f++(rs (toks.filter (fun t=>fD (fun j=>listed.getD j false) t&& !hZ i t.by_)) f++M)) w:=by
   have:=I.st.perm (List.Perm.append_right M (List.Perm.map (fun t:Tok=>t.r (cut t.sl f)) hsplit.1))
   simpa[rs,List.append_assoc]using this
  have hD':(fun j=>(listed.setIfInBounds i true).getD j false)=lG (fun j=>listed.getD j false) i:=by
   funext j
   unfold lG
   by_cases e:j=i
   ·subst e
    simp[Array.getD_eq_getD_getElem?,hsz,hi']
   ·have:Nat.beq j i=false:=by
     cases h:Nat.beq j i with
     |false=>rfl
     |true=>exact absurd (Nat.eq_of_beq_eq_true h) e
    rw[this,getD_set_ne _ (Ne.symm e)];rfl
  have step:∀a' w',pC n ds β o.dst (fun f=>s.k (cut s.sl f)) f (rs (nW toks i)) (rs (toks.filter (fun t=>fD (fun j=>listed.getD j false) t&& !hZ i t.by_)) f++M) a' w'→
    wpAnyIn (Fe ro) 3 P .any ops.toArray Q fuel (listed.setIfInBounds i true) a' w':=by
   rintro a' w' ⟨f',hff,hat',hk',hst'⟩
   refine ih _ f' a' w' (by simp[hsz]) ?_ ?_ (by rw[getD_set_ne _ (by omega)];exact hlN)
   ·have:=rJ (p:=fun j=> !listed.getD j false) (q:=fun j=> !(listed.setIfInBounds i true).getD j false) (i:=i) (l:=List.range ops.length) ?_ (by simp only[hDi];rfl) ?_ (List.mem_range.2 hi')
    ·omega
    ·intro x hx
     by_cases e:x=i
     ·subst e;rw[hDi];rfl
     ·rw[getD_set_ne _ (Ne.symm e)]at hx;exact hx
    ·have:=congrFun hD' i
     simp only[lG,Nat.beq_refl,Bool.true_or]at this
     simp only[this];rfl
   ·rw[hD']
    refine⟨?_,?_,?_,hat',?_⟩
    ·intro j hj m hm
     simp only[lG,Bool.or_eq_true]at hj⊢
     rcases hj with hj|hj
     ·have:=Nat.eq_of_beq_eq_true hj;subst this;exact .inr (hanc m hm)
     ·exact .inr (I.closed j hj m hm)
    ·intro j s' hs' hj
     simp only[lG,Bool.or_eq_true]at hj
     by_cases e:j=i
     ·subst e;rw[hs]at hs';injection hs' with hs';subst hs';exact hk'
     ·have hj:listed.getD j false=true:=by
       rcases hj with hj|hj
       ·exact absurd (Nat.eq_of_beq_eq_true hj) e
       ·exact hj
      rw[wO (f:=f') (g:=f) (fun x hx=>hff x fun hd=> ?_)];exact I.k j s' hs' hj
      rcases(hsp hs').2.2 x hx i o ho'' hd with h|h
      ·exact e h.symm
      ·have:=I.closed j hj i (by unfold gT;rw[hs'];exact h);exact absurd (hDi.symm.trans this) (by simp)
    ·intro p hp hno
     rw[hff p.1 fun hd=>hno i o ho'' (by simp[lG]) hd]
     exact I.ini p hp fun j oj hj hD=>hno j oj hj (by simp only[lG,hD,Bool.or_true])
    ·have h3:rs (toks.filter (fun t=>fD (fun j=>listed.getD j false) t&& !hZ i t.by_)) f'=rs (toks.filter (fun t=>fD (fun j=>listed.getD j false) t&& !hZ i t.by_)) f:=by
      unfold rs
      refine List.map_congr_left fun t ht'=> ?_
      obtain⟨hm,hact⟩:=List.mem_filter.1 ht'
      rw[wO (f:=f') (g:=f) fun x hx=>hff x fun hd=> ?_]
      have hc:=List.all_eq_true.1 h2 t hm
      simp only[kZ,Bool.and_eq_true,List.all_eq_true]at hc
      have:=gS (hc.2 x hx) ho''
      simp only[Nat.zero_add,lL.2 hd,Bool.not_true,Bool.false_or]at this
      simp only[Bool.and_eq_true,fD]at hact
      cases hp:t.prod with
      |none=>rw[hp]at this;cases this
      |some q=>
       rw[hp]at this hact
       simp only[gG,Bool.or_eq_true]at this
       have hq:listed.getD q false=true:=hact.1.1
       rcases this with h|h
       ·have:=Nat.eq_of_beq_eq_true h;subst this;rw[hDi]at hq;cases hq
       ·have:=I.closed q hq i (fL.1 h);exact absurd (hDi.symm.trans this) (by simp)
     have:=hst'.perm (L':=rs (toks.filter (fD (lG (fun j=>listed.getD j false) i))) f'++M) ?_
     ·exact this
     ·have hp:=List.Perm.append_right M (List.Perm.map (fun t:Tok=>t.r (cut t.sl f')) hsplit.2)
      refine List.Perm.trans ?_ hp.symm
      rw[←h3]
      simp[rs,List.append_assoc]
  have hob:=hob a w I.hat hst
  unfold wpOpIn
  rw[ho']
  unfold wpListIn at hob
  simp only
  split at hob
  ·rename_i hwn
   rw[if_pos hwn]
   exact Oper.wpIn_mono step (aBu (K:=pC n ds β o.dst (fun f=>s.k (cut s.sl f)) f (rs (nW toks i)) (rs (toks.filter (fun t=>fD (fun j=>listed.getD j false) t&& !hZ i t.by_)) f++M)) (by
    have hfun:(wpListIn (Fe ro) 3 P ops.toArray (Qn (pC n ds β o.dst (fun f=>s.k (cut s.sl f)) f (rs (nW toks i)) (rs (toks.filter (fun t=>fD (fun j=>listed.getD j false) t&& !hZ i t.by_)) f++M))) [])=pC n ds β o.dst (fun f=>s.k (cut s.sl f)) f (rs (nW toks i)) (rs (toks.filter (fun t=>fD (fun j=>listed.getD j false) t&& !hZ i t.by_)) f++M):=by
     funext a w;simp only[wpListIn,Qn]
    rw[hfun]at hob
    exact hob))
  ·rename_i hwn
   rw[if_neg hwn]
   refine⟨hob.1,step _ _ ?_⟩
   have:=hob.2
   simp only[wpListIn,Qn]at this
   exact this
theorem zZ{id:Nat}{opsA:List Oper}{oN:Oper}{f:Fm}{L:List cE}(sps:List Sp)(toks:List Tok)(ini:List (Nat×Value))(fin:List Nat)(M:List cE)(hm:P.follows .mixedOrders=true)
 (hal:tF sps opsA.length=true)(hno:toks.all (fun t=>aBs t opsA.length)=true)
 (h1:nP (opsA++[oN]) sps ini=true)(h2:toks.all (kZ (opsA++[oN]) sps)=true)(hf:fin.all (sJ (opsA++[oN]) ini)=true)(hL:L=rs (lT toks) f++M)(hi:rZ f ini)
 (ho:Obs P ro n ds β (opsA++[oN]) sps toks ini opsA 0)
 (hQ:∀f',KEv sps f' (sps.take opsA.length)→nH ini fin f'→cQ P ro n ds β (opsA++[oN]).toArray Q [oN] f' (rs (mD toks) f'++M)):dE P ro n ds β (.region id (opsA++[oN]).toArray true) Q f L:=by
 intro a w ha hw
 have hD0:∀j,(Array.replicate (opsA++[oN]).length false).getD j false=false:=by
  intro j
  by_cases hj:j<(opsA++[oN]).length
  ·rw[Array.getD_eq_getD_getElem?,Array.getElem?_eq_getElem (by simpa using hj)];simp
  ·rw[Array.getD_eq_getD_getElem?,Array.getElem?_eq_none (by simpa using hj)];rfl
 refine wpIn_region_any hm (aEn rfl hal hno h1 h2 ho hf hQ _ _ f a _ (by simp) ?_ ?_ (hD0 _))
 ·have:=List.length_filter_le (fun j=> !(Array.replicate (opsA++[oN]).toArray.size false).getD j false) (List.range (opsA++[oN]).length)
  simpa using this
 ·refine⟨fun j hj=> ?_,fun j s _ hj=> ?_,fun p hp _=>hi.get p hp,ha,?_⟩
  ·have:=hD0 j;exact absurd (hj.symm.trans this) (by simp)
  ·have:=hD0 j;exact absurd (hj.symm.trans this) (by simp)
  ·have hT:toks.filter (fD fun j=>(Array.replicate (opsA++[oN]).toArray.size false).getD j false)=lT toks:=by
    refine List.filter_congr fun t _=> ?_
    unfold fD
    have hD1:∀j,(Array.replicate (opsA++[oN]).toArray.size false).getD j false=false:=hD0
    cases t.prod<;>cases t.cons<;>simp only[iA,gG,hD1]<;>rfl
   rw[hT,←hL]
   exact hw.drew
theorem iQ{id:Nat}{ops:List Oper}{oN:Oper}{f:Fm}{L:List cE}(N:Nat)(hl:ops.length=N+1)(hoN:ops[N]? =some oN)(sps:List Sp)(toks:List Tok)(ini:List (Nat×Value))(fin:List Nat)(M:List cE)(hm:P.follows .mixedOrders=true)
 (hal:tF sps N=true)(hno:toks.all (fun t=>aBs t N)=true)
 (h1:nP ops sps ini=true)(h2:toks.all (kZ ops sps)=true)(hf:fin.all (sJ ops ini)=true)(hL:L=rs (lT toks) f++M)(hi:rZ f ini)
 (ho:Obs P ro n ds β ops sps toks ini (ops.take N) 0)
 (hQ:∀f',KEv sps f' (sps.take N)→nH ini fin f'→cQ P ro n ds β ops.toArray Q [oN] f' (rs (mD toks) f'++M)):dE P ro n ds β (.region id ops.toArray true) Q f L:=by
 have he:ops=ops.take N++[oN]:=by
  have h:=List.take_add_one (l:=ops) (i:=N)
  rw[hoN,←hl,List.take_length]at h
  simpa using h
 have hlen:(ops.take N).length=N:=by simp;omega
 generalize ops.take N=opsA at*
 subst he
 subst hlen
 exact zZ sps toks ini fin M hm hal hno h1 h2 hf hL hi ho hQ
theorem cU{d:Nat}{v:Value}{f:Fm}{L:List cE}{ops:Array Oper}{rest:List Oper}(h:f d=v)(k:cQ P ro n ds β ops Q rest (fS f d v) L):cQ P ro n ds β ops Q rest f L:=by rw[←kL h];exact k
end
structure KComp where
 kind:UInt8
 v0:Int
 v1:Int
 v2:Int
 v3:Int
 deriving DecidableEq
structure KEnt where
 id:Int
 comps:List KComp
 deriving DecidableEq
structure KWorld where
 tick:Int
 ents:List KEnt
 deriving DecidableEq
def zW:Rp UInt64:=Rp.flat 1 (fun x=>[Ux x]) (fun _=>rfl)
def bE:Rp UInt8:=Rp.flat 1 (fun x=>[Bx x]) (fun _=>rfl)
theorem wT{α:Type}{xs ys:List α}{k:Nat}{a b:α}(h1:xs[k]? =some a)(h2:ys[k]? =some b)(hne:a≠b):xs≠ys:=by
 rintro rfl
 rw[h1]at h2
 injection h2 with h
 exact hne h
theorem rW{α:Type}{xs ys:List α}{k:Nat}{a:α}(h1:xs[k]? =some a)(h2:ys[k]? =some a)(h:xs.take k=ys.take k):xs.take (k+1)=ys.take (k+1):=by
 rw[List.take_add_one,List.take_add_one,h,h1,h2]
theorem uR{α:Type}{xs ys:List α}{k:Nat}(h:xs.take k=ys.take k)(h1:xs.length≤k)(h2:ys.length≤k):xs=ys:=by
 rwa [List.take_of_length_le h1,List.take_of_length_le h2]at h
theorem iD{p:Prop}[Decidable p](h:¬p):Ending.returned (.bool false)= .returned (.bool (decide p)):=by rw[decide_eq_false h]
theorem zX{p:Prop}[Decidable p](h:p):Ending.returned (.bool true)= .returned (.bool (decide p)):=by rw[decide_eq_true h]
theorem iB{α:Type}{xs:List α}{k:Nat}{a:α}(h:xs[k]? =some a):xs.take (k+1)=xs.take k++[a]:=by
 rw[List.take_add_one,h];rfl
theorem take_prefix{α:Type}{xs:List α}{k:Nat}{a:α}(h:xs[k]? =some a):xs.take k++[a]<+:xs:=by
 rw[←iB h];exact List.take_prefix _ _
open Go.RowKit
abbrev Bs:=List UInt8
abbrev BX(bs:Bs):List Value:=bs.map fun c=>Bx c
def aBx:Rp ByteArray:=Rp.flat 1 (fun s=>[.string s]) (fun _=>rfl)
def rA:Rp Bs:=Rp.slice bE
abbrev mK(bs:Bs):ByteArray:=⟨bs.toArray⟩
theorem aJj(bs:Bs):(BX bs).all (·.oneCell')=true:=by
 induction bs with
 |nil=>rfl
 |cons a l ih=>simp only[BX,List.map_cons,List.all_cons,Bool.and_eq_true];exact⟨rfl,ih⟩
theorem qR{p:Option Addr}{m c T:Nat}{vs:List Value}{h:bR}(hr:row (.slice p m c) T 1 m vs h):vs.length=m∧m≤c∧c≤maxLen:=by
 obtain⟨hl,⟨e,h0⟩|⟨b,cap,cur,e,hb,h1,h2,_⟩⟩:=hr
 ·injection e with _ _ e3
  subst e3;subst h0;refine⟨by simpa using hl,by omega,by unfold maxLen;omega⟩
 ·injection e with _ _ e3
  subst e3;exact⟨by simpa using hl,h1,h2⟩
theorem mG{α:Type}{enc:α→Value}{p:Option Addr}{m c T:Nat}{xs:List α}{h:bR}(hr:row (.slice p m c) T 1 m (xs.map enc) h):m=xs.length∧bO (Rp.flat 1 (fun x=>[enc x]) (fun _=>rfl)) h p xs:=by
 have hl:=(qR hr).1
 rw[List.length_map]at hl
 refine⟨hl.symm,fun j x hj=> ?_⟩
 have hlt:=(List.getElem?_eq_some_iff.1 hj).1
 obtain⟨b,cur,rfl,hb,_⟩:=jC hr (by omega)
 refine⟨rfl,[enc x],?_,rfl⟩
 show Cs h ((ba (some ⟨b,0,none⟩)).add (j*1)) _
 rw[Nat.mul_one]
 refine xH hr ?_ (Nat.succ_pos _)
 rw[List.drop_eq_getElem_cons (by simpa using hlt)]
 have:=(List.getElem?_eq_some_iff.1 hj).2
 simp[this]
theorem aId{p:Option Addr}{m c T:Nat}{bs:Bs}{h:bR}(hr:row (.slice p m c) T 1 m (BX bs) h):bO bE h p bs:=(mG (enc:=fun x:UInt8=>Bx x) hr).2
theorem fB{p:Option Addr}{m c T:Nat}{bs:Bs}{h:bR}(hr:row (.slice p m c) T 1 m (BX bs) h):Sl bE h (.slice p m c) bs:=by
 have h1:=(mG (enc:=fun x:UInt8=>Bx x) hr).1
 have h2:=qR hr
 exact⟨p,c,by rw[h1],by omega,by have:=h2.2.2;unfold maxLen at this;omega,aId hr⟩
theorem aFq{p:Option Addr}{m c T:Nat}{xs:List ByteArray}{h:bR}(hr:row (.slice p m c) T 1 m (xs.map fun s=> .string s) h):bO aBx h p xs:=(mG (enc:=fun x:ByteArray=> .string x) hr).2
theorem aBf{p:Option Addr}{m c T:Nat}{xs:List ByteArray}{h:bR}(hr:row (.slice p m c) T 1 m (xs.map fun s=> .string s) h):Sl aBx h (.slice p m c) xs:=by
 have h1:=(mG (enc:=fun x:ByteArray=> .string x) hr).1
 have h2:=qR hr
 exact⟨p,c,by rw[h1],by omega,by have:=h2.2.2;unfold maxLen at this;omega,aFq hr⟩
theorem sH{α:Type}{enc:α→Value}{h:bR}{a:Option Addr}{xs:List α}(he:bO (Rp.flat 1 (fun x=>[enc x]) (fun _=>rfl)) h a xs):Cs h (ba a) (xs.map enc):=by
 intro j v hj
 rw[List.getElem?_map]at hj
 cases hx:xs[j]? with
 |none=>rw[hx]at hj;cases hj
 |some x=>
  rw[hx]at hj
  injection hj with hj
  obtain⟨_,cs,hc,hr⟩:=he j x hx
  have hr:cs=[enc x]:=hr
  subst hr
  have hc:Cs h ((ba a).add (j*1)) [enc x]:=hc
  rw[Nat.mul_one]at hc
  have:=hc 0 (enc x) rfl
  rw[Addr.add_zero']at this
  rw[←hj];exact this
theorem yM{h:bR}{a:Option Addr}{xs:Bs}(he:bO bE h a xs):Cs h (ba a) (BX xs):=sH (enc:=fun x:UInt8=>Bx x) he
theorem lC{α:Type}{R:Rp α}{h:bR}{a:Option Addr}{xs:List α}(he:bO R h a xs)(hx:0<xs.length):a=some (ba a):=(he 0 _ (List.getElem?_eq_getElem hx)).1
theorem gX{bs:Bs}{j:Nat}{b:UInt8}(hj:j<bs.length):kE (BX bs) (j*1) [Bx b]=BX (bs.set j b):=by
 unfold kE BX
 rw[Nat.mul_one,List.map_set]
 rw[List.set_eq_take_append_cons_drop,if_pos (by simpa using hj)]
 simp
theorem kW{p:Option Addr}{m c T h:Nat}{bs:Bs}{a:bR}(hr:row (.slice p m c) T 1 m (BX bs) a)(hh:h≤m):row (.slice p h c) T 1 (bs.take h).length (BX (bs.take h)) a:=by
 have hlen:=(mG (enc:=fun x:UInt8=>Bx x) hr).1
 have e:(bs.take h).length=h:=by simp;omega
 rw[e]
 obtain⟨hl,⟨e1,h0⟩|⟨b,cap,cur,e1,hb,h1,h2,h3,h4⟩⟩:=hr
 ·have:h=0:=by omega
  subst this
  injection e1 with e1 e2 e3
  subst e1;subst e3
  exact⟨by simp,.inl ⟨rfl,rfl⟩⟩
 ·injection e1 with e1 e2 e3
  subst e1;subst e3
  refine⟨by simp;omega,.inr ⟨b,c,cur,rfl,hb,by omega,h2,h3,?_⟩⟩
  have e5:cur.toList.take (h*1)=(cur.toList.take (m*1)).take (h*1):=by rw[List.take_take,Nat.min_eq_left (by omega)]
  rw[e5,h4];simp[List.map_take]
def tX(us:List Value)(xs:List Bs):cE:=fun h=>us.length=xs.length∧∀(i:Nat) x u,xs[i]? =some x→us[i]? =some u→Sl bE h u x
theorem tX.mono(us:List Value)(xs:List Bs):oZ (tX us xs):=fun _ _ hs ⟨h1,h2⟩=>⟨h1,fun i x u hx hu=>Sl.mono bE u x _ _ hs (h2 i x u hx hu)⟩
theorem wR(h:bR):tX [] [] h:=⟨rfl,fun i x u hx _=>by simp at hx⟩
theorem tY{us:List Value}{xs:List Bs}{u:Value}{x:Bs}{h:bR}(hi:tX us xs h)(hu:Sl bE h u x):tX (us++[u]) (xs++[x]) h:=by
 refine⟨by simp[hi.1],fun i y v hy hv=> ?_⟩
 by_cases hlt:i<xs.length
 ·rw[List.getElem?_append_left hlt]at hy
  rw[List.getElem?_append_left (by rw[hi.1];exact hlt)]at hv
  exact hi.2 i y v hy hv
 ·have h1:=(List.getElem?_eq_some_iff.1 hy).1
  have:i=xs.length:=by simp at h1;omega
  subst this
  rw[List.getElem?_append_right (Nat.le_refl _)]at hy
  rw[←hi.1,List.getElem?_append_right (Nat.le_refl _)]at hv
  simp at hy hv
  subst hy;subst hv;exact hu
def tL(us:List Value):cE:=fun h=>∀u∈us,u= .slice none 0 0∨∃g m c cur,u= .slice (some ⟨g,0,none⟩) m c∧h g=some (.cells cur 5 (0,0))∧m≤c∧c≤maxLen∧cur.size=c
theorem tL.mono(us:List Value):oZ (tL us):=fun _ _ hs h u hu=>(h u hu).imp id fun⟨g,m,c,cur,e,hg,r⟩=>⟨g,m,c,cur,e,hs _ _ hg,r⟩
theorem aIc{v:Value}{m:Nat}{vs:List Value}{h:bR}(hr:row v 5 1 m vs h):tL [v] h:=fun u hu=>by
 simp only[List.mem_singleton]at hu
 subst hu
 obtain⟨_,⟨e,_⟩|⟨g,cap,cur,e,hg,h1,h2,h3,_⟩⟩:=hr
 ·exact .inl e
 ·exact .inr ⟨g,m,cap,cur,e,hg,h1,h2,by omega⟩
def ins(us:List Value)(xs:List Bs):cE:=fun h=>tX us xs h∧tL us h
theorem ins.mono(us:List Value)(xs:List Bs):oZ (ins us xs):=fun _ _ hs ⟨h1,h2⟩=>⟨tX.mono _ _ _ _ hs h1,tL.mono _ _ _ hs h2⟩
theorem aHk(h:bR):ins [] [] h:=⟨wR h,fun _ hu=>by cases hu⟩
theorem aEm{us:List Value}{xs:List Bs}{u:Value}{x:Bs}{h:bR}(hi:ins us xs h)(hu:Sl bE h u x)(hs:tL [u] h):ins (us++[u]) (xs++[x]) h:=
 ⟨tY hi.1 hu,fun v hv=>by
  rcases List.mem_append.1 hv with h1|h1
  ·exact hi.2 v h1
  ·exact hs v h1⟩
def dP(T:Nat)(p:Option Addr)(c:Nat)(xs:List Bs):cE:=fun h=>∃us,kI [row (.slice p xs.length c) T 1 xs.length us,ins us xs] h
theorem tJ{T:Nat}{p:Option Addr}{c:Nat}{xs:List Bs}{h:bR}(hr:dP T p c xs h):Sl rA h (.slice p xs.length c) xs:=by
 obtain⟨us,a,b,_,ha,hb,hr,a',b',_,ha',_,hi,_⟩:=hr
 have hl:=qR hr
 have hi:tX us xs h:=tX.mono _ _ _ _ (ha'.trans hb) hi.1
 refine⟨p,c,rfl,hl.2.1,by have:=hl.2.2;unfold maxLen at this;omega,fun j x hj=> ?_⟩
 have hlt:=(List.getElem?_eq_some_iff.1 hj).1
 obtain⟨q,cur,rfl,hq,_⟩:=jC hr (by omega)
 obtain⟨u,hu⟩:∃u,us[j]? =some u:=⟨_,List.getElem?_eq_getElem (by rw[hi.1];exact hlt)⟩
 refine⟨rfl,[u],Cs.mono _ _ _ _ ha (?_:Cs a _ _),u,rfl,hi.2 j x u hj hu⟩
 show Cs a ((ba (some ⟨q,0,none⟩)).add (j*1)) _
 rw[Nat.mul_one]
 refine xH hr ?_ (Nat.succ_pos _)
 rw[List.drop_eq_getElem_cons (by omega)]
 have:=(List.getElem?_eq_some_iff.1 hu).2
 simp[this]
theorem qQ(T:Nat)(h:bR):dP T none 0 [] h:=
 ⟨[],fun _=>none,h,fun _=> .inl rfl,fun _ _ h=>(by cases h),gR.refl _,eS _ _ _,fun _=>none,h,fun _=> .inl rfl,fun _ _ h=>(by cases h),gR.refl _,aHk _,trivial⟩
theorem Sl.parts{α:Type}{R:Rp α}{h:bR}{p:Option Addr}{n c:Nat}{xs:List α}(hs:Sl R h (.slice p n c) xs):n=xs.length∧xs.length≤c∧c≤9223372036854775807∧bO R h p xs:=by
 obtain⟨a,c',e,h1,h2,h3⟩:=hs.get
 injection e with e1 e2 e3
 subst e1;subst e2;subst e3
 exact⟨rfl,h1,h2,h3⟩
end Go.Sl
namespace Go.Jn
open Go.Sl
def aEz(z:UInt64):UInt64:=
 let z:=(z^^^z>>>30)*0xbf58476d1ce4e5b9
 let z:=(z^^^z>>>27)*0x94d049bb133111eb
 z^^^z>>>31
def jN(d w:UInt64):UInt64:=aEz (d*0x9e3779b97f4a7c15+w+1)
def bF(t:Int):UInt64:=jN 0 (U t)
def mI(h:UInt64)(xs:List UInt64):UInt64:=xs.foldl (fun h w=>h*0x9e3779b97f4a7c15+w+1) h
def aDc(xs:List UInt64):UInt64:=aEz (mI 0 xs)
theorem wA(h:UInt64)(xs:List UInt64)(x:UInt64):mI h (xs++[x])=mI h xs*0x9e3779b97f4a7c15+x+1:=by simp[mI]
def iH(s:ByteArray):List UInt64:=s.data.toList.map UInt8.toUInt64
def sL(bs:Bs):UInt64:=aDc (iH (mK bs))
def gP(h:UInt64)(bs:Bs):UInt64:=bs.foldl (fun n x=>(n<<<8)|||x.toUInt64) h
def aP(bs:Bs):UInt64:=gP 0 bs
theorem uV(h:UInt64)(bs:Bs)(x:UInt8):gP h (bs++[x])=(gP h bs<<<8)|||x.toUInt64:=by simp[gP]
def be:Nat→UInt64→Bs
 |0,_=>[]
 |k+1,n=>(n>>>UInt64.ofNat (8*k)).toUInt8::be k n
theorem aL:∀(k:Nat) (n:UInt64),(be k n).length=k
 |0,_=>rfl
 |k+1,n=>by simp[be,aL k n]
def vF(e n:Int)(bs:Bs):UInt64:=jN (jN (sL bs) (U n)) (U e)
def aD(e n:Int)(bs:Bs):Bs:=be 4 (U (bs.length:Int))++be 4 (~~~(U (bs.length:Int)))++be 8 (U n)++bs++be 8 (vF e n bs)
theorem aH(e n:Int)(bs:Bs):(aD e n bs).length=24+bs.length:=by simp[aD,aL];omega
def qS(xs:Bs):UInt64:=aP (xs.take 4)
def rin(xs:Bs):UInt64:=aP ((xs.take 8).drop 4)
def xF(xs:Bs):UInt64:=aP ((xs.take 16).drop 8)
def jS(xs:Bs):Prop:=((xs.length:Nat):Int)<(24:Int)∨(((qS xs^^^rin xs).toNat:Int)≠(4294967295:Int))∨(65536:Int)<((qS xs).toNat:Int)∨((xs.length:Nat):Int)-(24:Int)<(((qS xs).toNat:Nat):Int)∨(4611686018427387904:Int)<((xF xs).toNat:Int)
instance (xs:Bs):Decidable (jS xs):=by unfold jS;infer_instance
def vK(xs:Bs):Bs:=(xs.take (16+(qS xs).toNat)).drop 16
def aCz(xs:Bs):UInt64:=aP ((xs.take (24+(qS xs).toNat)).drop (16+(qS xs).toNat))
def eD(xs:Bs):Nat:=if jS xs then 0 else(xF xs).toNat
def aZ(xs:Bs):Bs:=if jS xs then []else vK xs
def fK(e:Int)(xs:Bs):Bool:=if jS xs then false else decide (aCz xs=vF e ((xF xs).toNat:Int) (vK xs))
def nY(a:Option Addr)(c:Nat)(xs:Bs):Option Addr:=if jS xs then none else gL a c 16 1
def nD(c:Nat)(xs:Bs):Nat:=if jS xs then 0 else c-16
theorem kF{e:Int}{xs:Bs}(h:fK e xs=true):24+(aZ xs).length≤xs.length:=by
 unfold fK aZ at*
 by_cases hb:jS xs
 ·rw[if_pos hb]at h;cases h
 ·rw[if_neg hb]
  unfold jS at hb
  simp only[not_or,Int.not_lt]at hb
  simp[vK];omega
theorem jT{xs:Bs}:(aZ xs).length≤65536:=by
 unfold aZ
 by_cases hb:jS xs
 ·rw[if_pos hb];simp
 ·rw[if_neg hb]
  unfold jS at hb
  simp only[not_or,Int.not_lt]at hb
  simp[vK];omega
theorem lD{xs:Bs}:eD xs≤4611686018427387904:=by
 unfold eD
 by_cases hb:jS xs
 ·rw[if_pos hb];omega
 ·rw[if_neg hb]
  unfold jS at hb
  simp only[not_or,Int.not_lt]at hb
  omega
theorem aCt{h:bR}{a:Option Addr}{c:Nat}{xs:Bs}(hc:xs.length≤c)(he:bO bE h a xs):bO bE h (nY a c xs) (aZ xs):=by
 unfold nY aZ
 by_cases hb:jS xs
 ·rw[if_pos hb,if_pos hb];intro j x hx;simp at hx
 ·rw[if_neg hb,if_neg hb]
  have hb':=hb
  unfold jS at hb'
  simp only[not_or,Int.not_lt]at hb'
  exact bO.drop 16 (by simp;omega) (bO.take _ he)
theorem aIa{c:Nat}{xs:Bs}(hc:xs.length≤c):(aZ xs).length≤nD c xs:=by
 unfold aZ nD
 by_cases hb:jS xs
 ·rw[if_pos hb,if_pos hb];simp
 ·rw[if_neg hb,if_neg hb]
  unfold jS at hb
  simp only[not_or,Int.not_lt]at hb
  simp[vK];omega
theorem aAj{h:bR}{a:Option Addr}{c:Nat}{xs:Bs}(hc:xs.length≤c)(hm:c≤9223372036854775807)(he:bO bE h a xs):Sl bE h (.slice (nY a c xs) (aZ xs).length (nD c xs)) (aZ xs):=
 ⟨_,_,rfl,aIa hc,by unfold nD;split<;>omega,aCt hc he⟩
def gI(e:Int):Nat→Nat→Bs→List Bs
 |0,_,_=>[]
 |f+1,n,xs=>if fK e xs=true∧eD xs=n∧n≠4611686018427387904 then aZ xs::gI e f (n+1) (xs.drop (24+(aZ xs).length))else []
structure KS where
 head:Bs
 a:Bs
 b:Bs
 power:Int
 deriving DecidableEq
structure KI where
 epoch:Nat
 next:Nat
 state:Bs
 recs:List Bs
 size:Nat
 deriving DecidableEq
def KS.area(k:KS)(e:Nat):Bs:=if e%2=0 then k.a else k.b
def KS.setArea(k:KS)(e:Nat)(xs:Bs):KS:=if e%2=0 then{k with a:=xs}else{k with b:=xs}
def KS.okP(k:KS):Prop:=(k.head.length=0∨k.head.length=32)∧k.a.length≤262144∧k.b.length≤262144∧-1≤k.power
instance (k:KS):Decidable k.okP:=by unfold KS.okP;infer_instance
def lS(best:UInt64)(k:Nat)(head:Bs):UInt64:=
 let n:=aP ((head.take (k*16+8)).drop (k*16))
 let s:=aP ((head.take (k*16+16)).drop (k*16+8))
 if best<n∧n<4611686018427387904∧n%2=U (((k*16)/16:Nat):Int)∧s=bF (n.toNat:Int)then n else best
def bX(head:Bs):Nat→UInt64
 |0=>0
 |k+1=>lS (bX head k) k head
theorem kQ(head:Bs):∀j,(bX head j).toNat<4611686018427387904
 |0=>by show(0:UInt64).toNat<_;decide
 |j+1=>by
  unfold bX lS
  simp only
  split
  ·rename_i h;exact h.2.1
  ·exact kQ head j
theorem aEd{xs:Bs}{j:Nat}(h1:((bX xs j).toNat:Int)<((aP ((xs.take (j*16+8)).drop (j*16))).toNat:Int))(h2:((aP ((xs.take (j*16+8)).drop (j*16))).toNat:Int)<(4611686018427387904:Int))
 (h3:((aP ((xs.take (j*16+8)).drop (j*16))%(2:UInt64)).toNat:Int)=((U ((((j*16)/16:Nat):Int))).toNat:Int))(h4:((aP ((xs.take (j*16+16)).drop (j*16+8))).toNat:Int)=((bF (((aP ((xs.take (j*16+8)).drop (j*16))).toNat:Nat):Int)).toNat:Int)):
  bX xs (j+1)=aP ((xs.take (j*16+8)).drop (j*16)):=by
 have c1:bX xs j<aP ((xs.take (j*16+8)).drop (j*16)):=UInt64.lt_iff_toNat_lt.2 (by omega)
 have c2:aP ((xs.take (j*16+8)).drop (j*16))<4611686018427387904:=UInt64.lt_iff_toNat_lt.2 (by
  have h3:(4611686018427387904:UInt64).toNat=4611686018427387904:=rfl
  omega)
 have c3:=UInt64.toNat_inj.1 (Int.ofNat_inj.1 h3)
 have c4:=UInt64.toNat_inj.1 (Int.ofNat_inj.1 h4)
 show lS _ _ _=_
 unfold lS
 exact if_pos ⟨c1,c2,c3,c4⟩
theorem aJu{xs:Bs}{j:Nat}(h1:¬((bX xs j).toNat:Int)<((aP ((xs.take (j*16+8)).drop (j*16))).toNat:Int)):bX xs (j+1)=bX xs j:=by
 rw[bX,lS,if_neg]
 intro h;have:=UInt64.lt_iff_toNat_lt.1 h.1;omega
theorem aJv{xs:Bs}{j:Nat}(h2:¬((aP ((xs.take (j*16+8)).drop (j*16))).toNat:Int)<(4611686018427387904:Int)):bX xs (j+1)=bX xs j:=by
 rw[bX,lS,if_neg]
 intro h;have h1:=UInt64.lt_iff_toNat_lt.1 h.2.1
 have h3:(4611686018427387904:UInt64).toNat=4611686018427387904:=rfl
 omega
theorem aJw{xs:Bs}{j:Nat}(h3:¬((aP ((xs.take (j*16+8)).drop (j*16))%(2:UInt64)).toNat:Int)=((U ((((j*16)/16:Nat):Int))).toNat:Int)):bX xs (j+1)=bX xs j:=by
 rw[bX,lS,if_neg]
 intro h;exact h3 (by rw[h.2.2.1])
theorem aJx{xs:Bs}{j:Nat}(h4:¬((aP ((xs.take (j*16+16)).drop (j*16+8))).toNat:Int)=((bF (((aP ((xs.take (j*16+8)).drop (j*16))).toNat:Nat):Int)).toNat:Int)):bX xs (j+1)=bX xs j:=by
 rw[bX,lS,if_neg]
 intro h;exact h4 (by rw[h.2.2.2])
def aT(head:Bs):Nat:=(bX head (head.length/16)).toNat
def aR:List Bs→Nat
 |[]=>0
 |r::l=>24+r.length+aR l
def fG(e:Nat)(n:Nat)(xs:Bs):List Bs:=gI (e:Int) (xs.length+1) n xs
def eW(k:KS):Option KI:=
 let e:=aT k.head
 let ar:=k.area e
 if e=0 then some ⟨0,fG 0 0 ar|>.length,[],fG 0 0 ar,aR (fG 0 0 ar)⟩
 else if fK e ar=true then
  let sz:=24+(aZ ar).length
  let rs:=fG e (eD ar) (ar.drop sz)
  some ⟨e,eD ar+rs.length,aZ ar,rs,sz+aR rs⟩
 else none
def wr(xs:Bs)(at_:Nat):Bs→Bs
 |[]=>xs
 |b::bs=>wr (if at_<xs.length then xs.set at_ b else xs++[b]) (at_+1) bs
def pw(p:Int)(m:Nat):Nat:=if p<0 then m else min p.toNat m
def pl(p:Int)(m:Nat):Int:=if p<0 then p else p-(min p.toNat m:Nat)
end Go.Jn
namespace Go.Sl
open Go.RowKit
section
variable {P:Program}{ro:Option Nat}{n:Nat}{ds:List Deferred}{β:Base}{Q:Exit→Act→World→Prop}{f:Fm}{L:List cE}{ops:Array Oper}{rest:List Oper}
variable {d:Option Tmp}{ty:TypeId}{ps:String}{af:Array Edge}{g:Option (Nat×Bool)}
def aM:Value→Option Addr| .slice a _ _=>a|_=>none
def aN:Value→Nat| .slice _ _ c=>c|_=>0
theorem pR{L':List cE}(hL:L=L')(k:cQ P ro n ds β ops Q rest f L'):cQ P ro n ds β ops Q rest f L:=by subst hL;exact k
theorem lR{c:Code}{L':List cE}(hL:L=L')(k:dE P ro n ds β c Q f L'):dE P ro n ds β c Q f L:=by subst hL;exact k
theorem pQ{L':List cE}(hp:L.Perm L')(k:cQ P ro n ds β ops Q rest f L'):cQ P ro n ds β ops Q rest f L:=fun a w ha hw=>k a w ha (hw.perm hp)
theorem rM{α:Type}{enc:α→Value}{xs:List α}{k:Nat}{x:α}(h:xs[k]? =some x):((xs.map enc).drop (k*1)).take [enc x].length=[enc x]:=by
 have hlt:=(List.getElem?_eq_some_iff.1 h).1
 have hx:=(List.getElem?_eq_some_iff.1 h).2
 rw[Nat.mul_one,List.drop_eq_getElem_cons (by simpa using hlt)]
 simp[hx]
theorem aDo{bs:Bs}{k:Nat}{c:UInt8}(h:bs[k]? =some c):((BX bs).drop (k*1)).take [Bx c].length=[Bx c]:=rM (enc:=fun c:UInt8=>Bx c) h
abbrev jG{α:Type}(enc:α→Value):Rp α:=Rp.flat 1 (fun x=>[enc x]) (fun _=>rfl)
theorem iF{α:Type}{enc:α→Value}{p:Option Addr}{m c T:Nat}{xs:List α}(i:Nat)(hi:L[i]? =some (row (.slice p m c) T 1 m (xs.map enc))):aX β L (fun h=>bO (jG enc) h p xs):=
 aX.of_res i hi (bO.mono _ _ _) fun _ h=>(mG h).2
theorem fO{α:Type}{enc:α→Value}{b T:Nat}{fr:Nat×Nat}{xs:List α}(i:Nat)(hi:L[i]? =some (pt b (.cells (xs.map enc).toArray T fr))):aX β L (fun h=>bO (jG enc) h (some ⟨b,0,none⟩) xs):=
 aX.of_res i hi (bO.mono _ _ _) fun a h j x hx=>by
  refine⟨rfl,[enc x],?_,rfl⟩
  have e:(ba (some ⟨b,0,none⟩)).add (j*(jG enc).n)=⟨b,j,none⟩:=by
   show(⟨b,0,none⟩:Addr).add (j*1)=_
   rw[Nat.mul_one]
   unfold Addr.add;split<;>simp_all
  rw[e]
  refine Cs.of_pt h ?_
  have:=rM (enc:=enc) hx
  rw[Nat.mul_one]at this
  simpa using this
theorem aGq{α:Type}{enc:α→Value}(h1:∀x,(enc x).oneCell'=true)(xs:List α):(xs.map enc).all (·.oneCell')=true:=by
 induction xs with
 |nil=>rfl
 |cons a l ih=>simp only[List.map_cons,List.all_cons,Bool.and_eq_true];exact⟨h1 a,ih⟩
theorem cG{α:Type}{enc:α→Value}{x y:Operand}{t e bytes m k c:Nat}{v:Value}{xs ys:List α}{ao:Option Addr}(i:Nat)(h1:∀x,(enc x).oneCell'=true)(hsl:nB P t e 1=true)(hel:zS P e 1 bytes=true)(hx:ev f x=v)(hi:L[i]? =some (row v e 1 m (xs.map enc)))
 (hm:xs.length=m)(hy:ev f y= .slice ao k c)(hl:ys.length=k)(hk:aX β L (fun h=>bO (jG enc) h ao ys))(hby:(m+k)*bytes≤140737488355328)(h63:m+k≤140737488355328):
  MV P β L f ⟨d,.call ⟨.builtin .append,#[x,y],#[t,t]⟩,ty,ps,af,g⟩ (fun v' L'=>∃p c,v'= .slice p (xs++ys).length c∧L'=L.set i (row (.slice p (xs++ys).length c) e 1 (xs++ys).length ((xs++ys).map enc))):=fun w hw=>by
 have hkk:=hw.knows hk
 have hcs:aX β L (fun h=>Cs h (ba ao) (ys.map enc)):=fun h hb hr=>sH (hk h hb hr)
 obtain⟨v',w',L',g1,g2,p,c',rfl,rfl⟩:=jR (P:=P) (ty:=ty) (ps:=ps) (af:=af) (g:=g) (d:=d) i hsl hel hx hi hy (by simp[hl]) hcs (aGq h1 ys) (fun h=>lC hkk (by omega)) (by unfold maxLen;omega) hby w hw
 have e1:(xs++ys).length=m+k:=by simp[hm,hl]
 rw[e1]
 exact⟨_,w',_,g1,g2,p,c',rfl,by rw[List.map_append]⟩
theorem dJ(x:UInt8):(Bx x).oneCell'=true:=rfl
theorem aFy(x:ByteArray):(Value.string x).oneCell'=true:=rfl
def aEk(P:Program)(t:TypeId):Bool:=match P.underlying t with|some (.interface _)=>false|some _=>true|none=>false
theorem aHa{t:TypeId}{x:Operand}{v:Value}(ht:aEk P t=true)(hx:ev f x=v):EV P β L f ⟨d,.makeInterface t x,ty,ps,af,g⟩ (.iface t v):=fun w _=>by
 unfold aEk at ht
 cases hu:P.underlying t with
 |none=>rw[hu]at ht;cases ht
 |some dd=>
  rw[hu]at ht
  cases dd<;>simp_all [execOp,Instr.makeInterface,run_underlying hu]
theorem lU{x:Operand}{t e b m c T:Nat}{cs:Array Value}(i:Nat)(hi:L[i]? =some (pt b (.cells cs T)))(hx:ev f x= .slice (some ⟨b,0,none⟩) m c)(hs:P.underlying t=some (.slice e))(he:P.underlying e=some (.int .u8)):
  MV P β L f ⟨d,.convert t t x,ty,ps,af,g⟩ (fun u L'=>u= .slice (some ⟨b,0,none⟩) m c∧L'=L.set i (pt b (.cells cs T (cs.size,cs.size+1)))):=fun w hw=>by
 have hb:=hw.pt i hi
 have hsh:w.shape? b=some (T,cs.size):=by simp[World.shape?,hb]
 have hlt:=(Array.getElem?_eq_some_iff.1 hb).1
 refine⟨_,w.freeze ⟨b,cs.size,none⟩ 1,_,?_,St.back i hi ((hw.front i hi).put rfl rfl rfl ?_ ?_),rfl,rfl⟩
 ·simp[execOp,hx,convert,run_underlying hs,run_underlying he,markStringish,hsh]
 ·unfold World.freeze
  rw[if_neg (by decide)]
  simp[Array.getElem?_modify,hb]
 ·intro k hk hlt'
  unfold World.freeze
  rw[if_neg (by decide)]
  simp[Array.getElem?_modify,Ne.symm hk]
theorem jO{x:Operand}{t1 t2 e m c:Nat}{a:Option Addr}{bs:Bs}(hx:ev f x= .slice a m c)(hl:bs.length=m)(h1:P.underlying t1=some (.slice e))(he:P.underlying e=some (.int .u8))(h2:P.underlying t2=some .string)
 (hk:aX β L (fun h=>bO bE h a bs)):EV P β L f ⟨d,.convert t1 t2 x,ty,ps,af,g⟩ (.string (mK bs)):=fun w hw=>by
 subst hl
 have hkk:=hw.knows hk
 cases a with
 |none=>
  have hz:bs=[]:=by
   cases bs with
   |nil=>rfl
   |cons b l=>have:=lC hkk (by simp);cases this
  subst hz
  simp[execOp,hx,convert,run_underlying h1,run_underlying h2,run_underlying he]
  rfl
 |some ad=>
  have hc:Cs (ph w) ad (BX bs):=yM hkk
  have hr:=run_convert_bytes_back (P:=P) w t1 t2 e ad c bs h1 he h2 fun j hj=>hc j _ (by simp[hj])
  simp[execOp,hx,hr]
theorem aBd:∀c,pF [Value.int .u8 0] c=BX (List.replicate c 0)
 |0=>rfl
 |c+1=>by unfold pF;rw[aBd c];rfl
theorem oM{x y:Operand}{t e c:Nat}(hsl:nB P t e 1=true)(hel:zS P e 1 1=true)(hz:(P.info? e).bind (·.zero)=some (.int .u8 0))(hx:ev f x= .int .i64 (c:Int))(hy:ev f y= .int .i64 (c:Int))(h0:0<c)(hc:c≤140737488355328):
  MV P β L f ⟨d,.makeSlice t x y,ty,ps,af,g⟩ (fun u L'=>∃b,u= .slice (some ⟨b,0,none⟩) (List.replicate c (0:UInt8)).length c∧L'=row (.slice (some ⟨b,0,none⟩) (List.replicate c (0:UInt8)).length c) e 1 (List.replicate c (0:UInt8)).length (BX (List.replicate c 0))::L):=fun w hw=>by
 obtain⟨v,w',L',h1,h2,b,rfl,rfl⟩:=aHu (P:=P) (ty:=ty) (ps:=ps) (af:=af) (g:=g) (d:=d) hsl hel hz rfl hx hy (by omega) (by unfold maxLen;omega) (by omega) w hw
 have e1:(List.replicate c (0:UInt8)).length=c:=by simp
 rw[e1]
 have e2:pF (Value.int .u8 0).cells.toList c=BX (List.replicate c 0):=aBd c
 rw[e2]at h2
 exact⟨_,w',_,h1,h2,b,rfl,rfl⟩
end
end Go.Sl
namespace Go.Jn
open Go.Sl
abbrev xL(pH pA pB:Option Addr)(cH cA cB:Nat)(k:KS):Array Value:= #[.slice pH k.head.length cH,.slice pA k.a.length cA,.slice pB k.b.length cB,Ix k.power]
abbrev stL(S:Nat)(pH pA pB:Option Addr)(cH cA cB:Nat)(k:KS):List cE:=
 [pt S (.cells (xL pH pA pB cH cA cB k) 32),row (.slice pH k.head.length cH) 5 1 k.head.length (BX k.head),row (.slice pA k.a.length cA) 5 1 k.a.length (BX k.a),row (.slice pB k.b.length cB) 5 1 k.b.length (BX k.b)]
def aS(S:Nat)(k:KS):cE:=fun h=>∃pH pA pB cH cA cB,kI (stL S pH pA pB cH cA cB k) h
theorem St.openStore{β:Base}{S:Nat}{k:KS}{M:List cE}{w:World}(h:St β (aS S k::M) w):∃pH pA pB cH cA cB,St β (stL S pH pA pB cH cA cB k++M) w:=by
 obtain⟨ho,ht,hp,a,hd,hs,hs',p,q,h1,h2,h3,⟨pH,pA,pB,cH,cA,cB,hx⟩,h5⟩:=h
 exact⟨pH,pA,pB,cH,cA,cB,St.unbun ⟨ho,ht,hp,a,hd,hs,hs',p,q,h1,h2,h3,hx,h5⟩⟩
theorem St.closeStore{β:Base}{S:Nat}{pH pA pB:Option Addr}{cH cA cB:Nat}{k:KS}{M:List cE}{w:World}(h:St β (stL S pH pA pB cH cA cB k++M) w):St β (aS S k::M) w:=
 h.merge fun _ h=>⟨pH,pA,pB,cH,cA,cB,h⟩
abbrev aAb(S:Nat)(ps pr:Option Addr)(cs cr:Nat)(i:KI)(dn:Bool):Array Value:=
 #[.pointer (some ⟨S,0,none⟩),Nx i.epoch,Nx i.next,.slice ps i.state.length cs,.slice pr i.recs.length cr,Nx i.size,.bool dn]
abbrev jL(J S:Nat)(ps pr:Option Addr)(cs cr:Nat)(i:KI)(dn:Bool):List cE:=
 [pt J (.cells (aAb S ps pr cs cr i dn) 84),row (.slice ps i.state.length cs) 5 1 i.state.length (BX i.state),dP 30 pr cr i.recs]
def dC(J S:Nat)(i:KI)(dn:Bool):cE:=fun h=>∃ps pr cs cr,kI (jL J S ps pr cs cr i dn) h
theorem St.openJour{β:Base}{J S:Nat}{i:KI}{dn:Bool}{M:List cE}{w:World}(h:St β (dC J S i dn::M) w):∃ps pr cs cr,St β (jL J S ps pr cs cr i dn++M) w:=by
 obtain⟨ho,ht,hp,a,hd,hs,hs',p,q,h1,h2,h3,⟨ps,pr,cs,cr,hx⟩,h5⟩:=h
 exact⟨ps,pr,cs,cr,St.unbun ⟨ho,ht,hp,a,hd,hs,hs',p,q,h1,h2,h3,hx,h5⟩⟩
theorem St.closeJour{β:Base}{J S:Nat}{ps pr:Option Addr}{cs cr:Nat}{i:KI}{dn:Bool}{M:List cE}{w:World}(h:St β (jL J S ps pr cs cr i dn++M) w):St β (dC J S i dn::M) w:=
 h.merge fun _ h=>⟨ps,pr,cs,cr,h⟩
def xQ:List PanicEntry:=[{v:= .iface 116 (.agg #[]),recovered:=false}]
def dN(p:Int):Int:=if 0<p then p-1 else p
theorem iS{xs:Bs}:∀{bs:Bs} {at_:Nat},(wr xs at_ bs).length≤xs.length+bs.length
 |[],_=>by simp[wr]
 |b::bs,at_=>by
  unfold wr
  refine Nat.le_trans (iS (bs:=bs)) ?_
  split<;>simp<;>omega
theorem aBw{xs:Bs}{b:UInt8}:∀{bs:Bs} {at_:Nat},wr xs at_ (bs++[b])=(if at_+bs.length<(wr xs at_ bs).length then(wr xs at_ bs).set (at_+bs.length) b else wr xs at_ bs++[b])
 |[],at_=>by simp[wr];rfl
 |c::bs,at_=>by
  show wr _ (at_+1) (bs++[b])=_
  rw[aBw (bs:=bs)]
  simp only[wr,List.length_cons,show at_+1+bs.length=at_+(bs.length+1) by omega]
  rfl
theorem fM{xs bs:Bs}{at_ k:Nat}{b:UInt8}(h:bs[k]? =some b):wr xs at_ (bs.take (k+1))=(if at_+k<(wr xs at_ (bs.take k)).length then(wr xs at_ (bs.take k)).set (at_+k) b else wr xs at_ (bs.take k)++[b]):=by
 have hl:=(List.getElem?_eq_some_iff.1 h).1
 rw[iB h,aBw]
 simp[Nat.min_eq_left (Nat.le_of_lt hl)]
theorem oR{p:Int}{k m:Nat}(h:k≤pw p m)(hk:k<m)(hp:pl p k≠0):k+1≤pw p m∧dN (pl p k)=pl p (k+1):=by
 unfold pw pl dN at*
 by_cases h0:p<0
 ·rw[if_pos h0]at h hp⊢
  rw[if_pos h0,if_pos h0]
  exact⟨by omega,if_neg (by omega)⟩
 ·rw[if_neg h0]at h hp⊢
  rw[if_neg h0,if_neg h0]
  refine⟨by omega,?_⟩
  split<;>omega
theorem oS{p:Int}{k m:Nat}(h:k≤pw p m)(hk:k<m)(hp:pl p k=0):pw p m=k∧pl p m=0:=by
 unfold pw pl at*
 by_cases h0:p<0
 ·rw[if_pos h0]at hp;omega
 ·rw[if_neg h0]at h hp
  rw[if_neg h0,if_neg h0]
  omega
theorem rP{p:Int}{m k:Nat}(h:k≤pw p m)(hk:m≤k):pw p m=m∧k=m:=by
 unfold pw at*
 split at h<;>(constructor<;>(try split)<;>omega)
def lJ(xs:Bs)(p:Int)(at_:Nat)(bs:Bs):Bs:=wr xs at_ (bs.take (pw p bs.length))
def eI(p:Int)(bs:Bs):Prop:=pw p bs.length=bs.length
instance (p:Int)(bs:Bs):Decidable (eI p bs):=by unfold eI;infer_instance
def cutOk(xs:Bs)(p:Int)(size:Nat):Prop:=xs.length≤size∨p≠0
instance (xs:Bs)(p:Int)(size:Nat):Decidable (cutOk xs p size):=by unfold cutOk;infer_instance
def gV(xs:Bs)(p:Int)(size:Nat):Bs:=if p=0 then xs else xs.take size
def fP(xs:Bs)(p:Int)(size:Nat):Int:=if size<xs.length then dN p else p
def cJ(k:KS)(e at_:Nat)(bs:Bs):KS:={k.setArea e (lJ (k.area e) k.power at_ bs)with power:=pl k.power bs.length}
def aV(k:KS)(e size:Nat):KS:={k.setArea e (gV (k.area e) k.power size)with power:=fP (k.area e) k.power size}
def iV(k:KS)(at_:Nat)(bs:Bs):KS:={k with head:=lJ k.head k.power at_ bs,power:=pl k.power bs.length}
def gK(k:KS)(i:KI)(bs:Bs):KS:=cJ k i.epoch i.size (aD i.epoch i.next bs)
def aBy(k:KS)(i:KI)(bs:Bs):Prop:=eI k.power (aD i.epoch i.next bs)
instance (k:KS)(i:KI)(bs:Bs):Decidable (aBy k i bs):=by unfold aBy;infer_instance
def nF(i:KI)(bs:Bs):KI:={epoch:=i.epoch+1,next:=i.next,state:=bs,recs:=[],size:=24+bs.length}
def hG(i:KI)(bs:Bs):KI:={i with recs:=i.recs++[bs],size:=i.size+(aD i.epoch i.next bs).length,next:=i.next+1}
def pI(e:Nat):Bs:=be 8 (U (e:Int))++be 8 (bF (e:Int))
def vC(k:KS)(e:Nat):KS:=aV k e 0
def nE(k:KS)(e n:Nat)(bs:Bs):KS:=cJ (vC k e) e 0 (aD e n bs)
def lY(k:KS)(e n:Nat)(bs:Bs):KS:=let q:=nE k e n bs;if q.head.length=0 then{q with head:=List.replicate 32 0}else q
def ck4(k:KS)(e n:Nat)(bs:Bs):KS:=iV (lY k e n bs) (e%2*16) (pI e)
def lZ(k:KS)(e:Nat):Prop:=cutOk (k.area e) k.power 0
def pG(k:KS)(e n:Nat)(bs:Bs):Prop:=eI (vC k e).power (aD e n bs)
def tS(k:KS)(e n:Nat)(bs:Bs):Prop:=eI (lY k e n bs).power (pI e)
instance (k:KS)(e:Nat):Decidable (lZ k e):=by unfold lZ;infer_instance
instance (k:KS)(e n:Nat)(bs:Bs):Decidable (pG k e n bs):=by unfold pG;infer_instance
instance (k:KS)(e n:Nat)(bs:Bs):Decidable (tS k e n bs):=by unfold tS;infer_instance
def iE(k:KS)(e n:Nat)(bs:Bs):KS:=if lZ k e then(if pG k e n bs then ck4 k e n bs else nE k e n bs)else k
def sU(k:KS)(e n:Nat)(bs:Bs):Prop:=lZ k e∧pG k e n bs∧tS k e n bs
instance (k:KS)(e n:Nat)(bs:Bs):Decidable (sU k e n bs):=by unfold sU;infer_instance
open Go.Sl
section
variable {P:Program}{ro:Option Nat}{n:Nat}{ds:List Deferred}{β:Base}{Q:Exit→Act→World→Prop}{f:Fm}{L:List cE}{ops:Array Oper}{rest:List Oper}
variable {d:Option Tmp}{ty:TypeId}{ps:String}{af:Array Edge}{g:Option (Nat×Bool)}
theorem cI{c:Code}{S:Nat}{k:KS}{M:List cE}(hL:L=aS S k::M)(K:∀pH pA pB cH cA cB,dE P ro n ds β c Q f (stL S pH pA pB cH cA cB k++M)):dE P ro n ds β c Q f L:=fun a w ha hw=>by
 subst hL
 obtain⟨pH,pA,pB,cH,cA,cB,h⟩:=St.openStore hw
 exact K pH pA pB cH cA cB a w ha h
theorem bW{c:Code}{S:Nat}{pH pA pB:Option Addr}{cH cA cB:Nat}{k:KS}{M:List cE}(hL:L=stL S pH pA pB cH cA cB k++M)(K:dE P ro n ds β c Q f (aS S k::M)):dE P ro n ds β c Q f L:=fun a w ha hw=>by
 subst hL
 exact K a w ha (St.closeStore hw)
theorem kO{e:Exit}{S:Nat}{pH pA pB:Option Addr}{cH cA cB:Nat}{k:KS}{M:List cE}(hL:L=stL S pH pA pB cH cA cB k++M)(K:iN n ds β Q e f (aS S k::M)):iN n ds β Q e f L:=fun a w ha hw=>by
 subst hL
 exact K a w ha (St.closeStore hw)
theorem lM{x y:Operand}{t T bytes b n2 c2 c:Nat}{p q:Option Addr}{xs:List Bs}{bs:Bs}{M:List cE}(hL:L=dP T p c xs::row (.slice q n2 c2) 5 1 n2 (BX bs)::pt b (.cells #[.slice q n2 c2] T)::M)
 (hsl:nB P t T 1=true)(hel:zS P T 1 bytes=true)(hx:ev f x= .slice p xs.length c)(hy:ev f y= .slice (some ⟨b,0,none⟩) 1 1)(hby:(xs.length+1)*bytes≤140737488355328)(h63:xs.length+1≤140737488355328):
  MV P β L f ⟨d,.call ⟨.builtin .append,#[x,y],#[t,t]⟩,ty,ps,af,g⟩ (fun v' L'=>∃p' c',v'= .slice p' (xs++[bs]).length c'∧L'=dP T p' c' (xs++[bs])::pt b (.cells #[.slice q n2 c2] T)::M):=fun w hw=>by
 subst hL
 obtain⟨us,hw1⟩:=hw.ex (r:=fun us h=>kI [row (.slice p xs.length c) T 1 xs.length us,ins us xs] h)
 have hw2:=hw1.unbun
 have hk:aX β (row (.slice p xs.length c) T 1 xs.length us::ins us xs::row (.slice q n2 c2) 5 1 n2 (BX bs)::pt b (.cells #[.slice q n2 c2] T)::M) (fun h=>Cs h (ba (some ⟨b,0,none⟩)) [.slice q n2 c2]):=
  dM 3 (cs:= #[.slice q n2 c2]) (vs:=[.slice q n2 c2]) rfl rfl
 obtain⟨v',w',L',g1,g2,p',c',rfl,rfl⟩:=jR (P:=P) (ty:=ty) (ps:=ps) (af:=af) (g:=g) (d:=d) (m:=xs.length) (vs:=us) (n:=1) 0 hsl hel hx rfl hy (by rfl) hk (by rfl) (fun _=>rfl) (by unfold maxLen;omega) hby w hw2
 have e1:(xs++[bs]).length=xs.length+1:=by simp
 refine⟨_,w',_,g1,?_,p',c',by rw[e1],rfl⟩
 have g3:St β ([row (.slice p' (xs.length+1) c') T 1 (xs.length+1) (us++[.slice q n2 c2]),ins us xs,row (.slice q n2 c2) 5 1 n2 (BX bs)]++(pt b (.cells #[.slice q n2 c2] T)::M)) w':=g2
 refine St.merge g3 ?_
 rintro a ⟨a1,b1,hd,h1,h2,hr,a2,b2,hd2,h3,h4,hi,a3,b3,hd3,h5,h6,hr2,_⟩
 refine⟨us++[.slice q n2 c2],a1,b1,hd,h1,h2,by rw[e1];exact hr,b1,fun _=>none,fun _=> .inr rfl,gR.refl _,fun _ _ h=>(by cases h),?_,trivial⟩
 exact aEm (ins.mono _ _ _ _ h3 hi) (Sl.mono _ _ _ _ _ (h5.trans h4) (fB hr2)) (tL.mono _ _ _ (h5.trans h4) (aIc hr2))
end
def JF(J S:Nat)(i:KI)(dn:Bool):bR→Prop:=fun h=>∃ps pr cs cr,Cs h ⟨J,0,none⟩ (aAb S ps pr cs cr i dn).toList∧Sl bE h (.slice ps i.state.length cs) i.state∧Sl rA h (.slice pr i.recs.length cr) i.recs
theorem JF.mono(J S:Nat)(i:KI)(dn:Bool):oZ (JF J S i dn):=fun h h' hs ⟨ps,pr,cs,cr,h1,h2,h3⟩=>⟨ps,pr,cs,cr,Cs.mono _ _ _ _ hs h1,Sl.mono _ _ _ _ _ hs h2,Sl.mono _ _ _ _ _ hs h3⟩
theorem iX{J S:Nat}{i:KI}{dn:Bool}{h:bR}(hr:dC J S i dn h):JF J S i dn h:=by
 obtain⟨ps,pr,cs,cr,hx⟩:=hr
 have he:=hx.each
 obtain⟨a1,s1,r1⟩:=he _ (by simp[jL]:pt J (.cells (aAb S ps pr cs cr i dn) 84)∈jL J S ps pr cs cr i dn)
 obtain⟨a2,s2,r2⟩:=he _ (by simp[jL]:row (.slice ps i.state.length cs) 5 1 i.state.length (BX i.state)∈jL J S ps pr cs cr i dn)
 obtain⟨a3,s3,r3⟩:=he _ (by simp[jL]:dP 30 pr cr i.recs∈jL J S ps pr cs cr i dn)
 exact⟨ps,pr,cs,cr,Cs.mono _ _ _ _ s1 (Cs.of_pt (o:=0) r1 rfl),Sl.mono _ _ _ _ _ s2 (fB r2),Sl.mono _ _ _ _ _ s3 (tJ r3)⟩
theorem uX{k:KS}{e at_:Nat}{bs:Bs}(h:e%2=0):{k with a:=lJ k.a k.power at_ bs,power:=pl k.power bs.length}=cJ k e at_ bs:=by simp[cJ,KS.setArea,KS.area,h]
theorem xP{k:KS}{e at_:Nat}{bs:Bs}(h:e%2=1):{k with b:=lJ k.b k.power at_ bs,power:=pl k.power bs.length}=cJ k e at_ bs:=by simp[cJ,KS.setArea,KS.area,h]
theorem mA{k:KS}{e size:Nat}(h:e%2=0):{k with a:=gV k.a k.power size,power:=fP k.a k.power size}=aV k e size:=by simp[aV,KS.setArea,KS.area,h]
theorem nQ{k:KS}{e size:Nat}(h:e%2=1):{k with b:=gV k.b k.power size,power:=fP k.b k.power size}=aV k e size:=by simp[aV,KS.setArea,KS.area,h]
theorem iP{k:KS}{e:Nat}(h:e%2=0):k.area e=k.a:=if_pos h
theorem jW{k:KS}{e:Nat}(h:e%2=1):k.area e=k.b:=if_neg (by omega)
def KS.fits(k:KS)(m:Nat):Prop:=k.head.length≤1048576∧k.a.length≤m∧k.b.length≤m∧k.power≤9223372036854775807
theorem KS.fits.le{k:KS}{m m':Nat}(h:k.fits m)(hm:m≤m'):k.fits m':=⟨h.1,by have:=h.2.1;omega,by have:=h.2.2.1;omega,h.2.2.2⟩
theorem KS.fits.wr{k:KS}{m e at_:Nat}{bs:Bs}(h:k.fits m):(cJ k e at_ bs).fits (m+bs.length):=by
 have h1:∀xs:Bs,xs.length≤m→(lJ xs k.power at_ bs).length≤m+bs.length:=fun xs hx=>by
  unfold lJ
  refine Nat.le_trans iS ?_
  simp;omega
 have hp:pl k.power bs.length≤k.power:=by unfold pl;split<;>omega
 unfold cJ KS.setArea KS.area
 obtain⟨a,b,c,d⟩:=h
 split<;>rename_i hh<;>simp only[hh,if_true]<;>exact⟨a,by first|(simp;omega)|(have:=h1 k.a b;omega),by first|(simp;omega)|(have:=h1 k.b c;omega),by show pl _ _≤_;omega⟩
theorem KS.fits.cut{k:KS}{m e size:Nat}(h:k.fits m):(aV k e size).fits m:=by
 have h1:∀xs:Bs,xs.length≤m→(gV xs k.power size).length≤m:=fun xs hx=>by
  unfold gV;split
  ·exact hx
  ·simp;omega
 have hp:∀xs,fP xs k.power size≤k.power:=fun xs=>by unfold fP dN;split<;>(try split)<;>omega
 unfold aV KS.setArea KS.area
 obtain⟨a,b,c,d⟩:=h
 split<;>rename_i hh<;>simp only[hh,if_true]<;>exact⟨a,by first|(have:=h1 k.a b;omega)|exact b,by first|(have:=h1 k.b c;omega)|exact c,by first|(have:=hp k.a;show fP _ _ _≤_;omega)|(have:=hp k.b;show fP _ _ _≤_;omega)⟩
theorem rK{k:KS}{m:Nat}{x:Bs}(h:k.fits m)(hx:x.length≤1048576):({k with head:=x}:KS).fits m:=⟨hx,h.2.1,h.2.2.1,h.2.2.2⟩
open Go.Sl
structure KOp where
 kind:UInt8
 power:UInt8
 body:Bs
structure KC where
 epoch:Nat
 next:Nat
 state:ByteArray
 recs:List ByteArray
def isP(c:KC)(i:KI):Prop:=i.epoch=c.epoch∧i.next=c.next∧mK i.state=c.state∧i.recs.map mK=c.recs
instance (c:KC)(i:KI):Decidable (isP c i):=by unfold isP;infer_instance
open Go.Sl
def mE(bs:Bs):Nat:=bs.foldl (fun n x=>n*256+x.toNat) 0
theorem wX(h:Nat):∀bs:Bs,bs.foldl (fun n x=>n*256+x.toNat) h=h*256^bs.length+mE bs
 |[]=>by simp[mE]
 |x::bs=>by
  have h1:=wX (h*256+x.toNat) bs
  have h2:=wX (0*256+x.toNat) bs
  simp only[List.foldl_cons,mE,List.length_cons]at*
  rw[h1,h2,Nat.pow_succ,Nat.add_mul]
  simp only[Nat.zero_mul,Nat.zero_add]
  rw[Nat.mul_assoc h,Nat.mul_comm 256]
  omega
theorem kR(x:UInt8)(bs:Bs):mE (x::bs)=x.toNat*256^bs.length+mE bs:=by
 have:=wX (0*256+x.toNat) bs
 simpa[mE]using this
theorem qK:∀bs:Bs,mE bs<256^bs.length
 |[]=>by simp[mE]
 |x::bs=>by
  rw[kR,List.length_cons,Nat.pow_succ]
  have h1:=qK bs
  have h2:=x.toNat_lt
  have h3:x.toNat*256^bs.length≤255*256^bs.length:=Nat.mul_le_mul_right _ (by omega)
  omega
theorem wF{h:UInt64}{x:UInt8}(hh:h.toNat<72057594037927936):((h<<<8)|||x.toUInt64).toNat=h.toNat*256+x.toNat:=by
 have h2:=x.toNat_lt
 have e1:(h<<<(8:UInt64)).toNat=h.toNat<<<8:=by
  rw[UInt64.toNat_shiftLeft]
  simp only[UInt64.reduceToNat,Nat.reduceMod,Nat.shiftLeft_eq]
  omega
 rw[UInt64.toNat_or,e1]
 have e2:x.toUInt64.toNat=x.toNat:=by simp
 rw[e2,←Nat.shiftLeft_add_eq_or_of_lt (by omega),Nat.shiftLeft_eq]
theorem wE:∀(bs:Bs) (h:UInt64),h.toNat*256^bs.length+mE bs<18446744073709551616→(gP h bs).toNat=h.toNat*256^bs.length+mE bs
 |[],h,_=>by simp[gP,mE]
 |x::bs,h,hlt=>by
  rw[kR,List.length_cons,Nat.pow_succ]at hlt
  have hp:0<256^bs.length:=Nat.pow_pos (by decide)
  have h1:h.toNat<72057594037927936:=by
   have:h.toNat*(256^bs.length*256)=h.toNat*256*256^bs.length:=by rw[Nat.mul_comm (256^bs.length),Nat.mul_assoc]
   have h3:h.toNat*256*1≤h.toNat*256*256^bs.length:=Nat.mul_le_mul_left _ hp
   omega
  have e:=wF (x:=x) h1
  have ih:=wE bs ((h<<<8)|||x.toUInt64) (by
   rw[e,Nat.add_mul,Nat.mul_assoc,Nat.mul_comm 256];omega)
  show(gP ((h<<<8)|||x.toUInt64) bs).toNat=_
  rw[ih,e,kR,List.length_cons,Nat.pow_succ,Nat.add_mul,Nat.mul_assoc,Nat.mul_comm 256]
  omega
theorem mO{bs:Bs}(h:bs.length≤8):(aP bs).toNat=mE bs:=by
 have h1:=qK bs
 have h2:256^bs.length≤256^8:=Nat.pow_le_pow_right (by decide) h
 have:=wE bs 0 (by simp only[UInt64.reduceToNat,Nat.zero_mul,Nat.zero_add];omega)
 simpa[aP]using this
theorem qJ:∀(k:Nat) (n:UInt64),k≤8→mE (be k n)=n.toNat%256^k
 |0,n,_=>by simp[be,mE,Nat.mod_one]
 |k+1,n,hk=>by
  have ih:=qJ k n (by omega)
  have h8:(UInt64.ofNat (8*k)).toNat%64=8*k:=by simp;omega
  have hs:((n>>>UInt64.ofNat (8*k)).toUInt8).toNat=(n.toNat/256^k)%256:=by
   rw[UInt64.toNat_toUInt8,UInt64.toNat_shiftRight,h8,Nat.shiftRight_eq_div_pow,Nat.pow_mul]
  rw[be,kR,ih,aL,hs,Nat.pow_succ,Nat.mod_mul]
  rw[Nat.mul_comm]
  omega
theorem jU(n:UInt64):aP (be 8 n)=n:=by
 apply UInt64.toNat_inj.1
 rw[mO (by simp[aL]),qJ 8 n (by omega)]
 exact Nat.mod_eq_of_lt (by have:=n.toNat_lt;simpa using this)
theorem rY(n:UInt64):(aP (be 4 n)).toNat=n.toNat%4294967296:=by
 rw[mO (by simp[aL]),qJ 4 n (by omega)]
theorem uA:∀{a b:Bs},a.length=b.length→mE a=mE b→a=b
 |[],[],_,_=>rfl
 |[],_::_,h,_=>by simp at h
 |_::_,[],h,_=>by simp at h
 |x::a,y::b,h,e=>by
  have hl:a.length=b.length:=by simpa using h
  rw[kR,kR,hl]at e
  have h1:=qK a
  have h2:=qK b
  rw[hl]at h1
  have hp:0<256^b.length:=Nat.pow_pos (by decide)
  have hx:x.toNat=y.toNat:=by
   have e1:(x.toNat*256^b.length+mE a)/256^b.length=x.toNat:=by
    rw[Nat.mul_comm,Nat.mul_add_div hp,Nat.div_eq_of_lt h1];rfl
   have e2:(y.toNat*256^b.length+mE b)/256^b.length=y.toNat:=by
    rw[Nat.mul_comm,Nat.mul_add_div hp,Nat.div_eq_of_lt h2];rfl
   rw[e,e2]at e1;exact e1.symm
  have hxy:x=y:=UInt8.toNat_inj.1 hx
  subst hxy
  rw[uA hl (by omega)]
theorem oW{a b:Bs}(ha:a.length≤8)(h:a.length=b.length)(e:aP a=aP b):a=b:=
 uA h (by rw[←mO ha,←mO (by omega:b.length≤8),e])
theorem zR{x:UInt64}(h:x.toNat<4294967296):(x^^^aP (be 4 (~~~x)))=4294967295:=by
 have e1:aP (be 4 (~~~x))= ~~~x%4294967296:=by
  apply UInt64.toNat_inj.1
  rw[rY,UInt64.toNat_mod]
  rfl
 rw[e1]
 have e2: ~~~x%4294967296= ~~~x&&&4294967295:=by
  apply UInt64.toNat_inj.1
  rw[UInt64.toNat_mod,UInt64.toNat_and]
  show _%2^32=_&&&(2^32-1)
  rw[Nat.and_two_pow_sub_one_eq_mod]
 rw[e2]
 have e3:x&&&4294967295=x:=by
  apply UInt64.toNat_inj.1
  rw[UInt64.toNat_and]
  show _&&&(2^32-1)=_
  rw[Nat.and_two_pow_sub_one_eq_mod]
  exact Nat.mod_eq_of_lt h
 conv=>lhs;lhs;rw[←e3]
 apply UInt64.toBitVec_inj.1
 simp only[UInt64.toBitVec_xor,UInt64.toBitVec_and,UInt64.toBitVec_not]
 ext i hi
 simp only[BitVec.getElem_xor,BitVec.getElem_and,BitVec.getElem_not]
 cases x.toBitVec[i]<;>simp
open Go.Sl
theorem fY{n:Nat}(h:n<18446744073709551616):(U (n:Int)).toNat=n:=by
 have h1:=jM (n:Int)
 rw[vL]at h1
 omega
open Go.Sl
theorem tk{a b:Bs}{k:Nat}(h:a.length=k):(a++b).take k=a:=by rw[←h];simp
theorem dr{a b:Bs}{k:Nat}(h:a.length=k):(a++b).drop k=b:=by rw[←h];simp
theorem aCv{A B C p D rest:Bs}(hA:A.length=4)(hB:B.length=4)(hC:C.length=8)(hD:D.length=8):
  qS (A++B++C++p++D++rest)=aP A∧rin (A++B++C++p++D++rest)=aP B∧xF (A++B++C++p++D++rest)=aP C∧
  ((aP A).toNat=p.length→vK (A++B++C++p++D++rest)=p∧aCz (A++B++C++p++D++rest)=aP D):=by
 have e0:(A++B++C++p++D++rest).take 4=A:=by simp only[List.append_assoc];exact tk hA
 have e1:qS (A++B++C++p++D++rest)=aP A:=by rw[qS,e0]
 refine⟨e1,?_,?_,fun hl=>⟨?_,?_⟩⟩
 ·rw[rin,List.drop_take,show(8:Nat)-4=4 from rfl]
  simp only[List.append_assoc]
  rw[dr hA,tk hB]
 ·rw[xF,List.drop_take,show(16:Nat)-8=8 from rfl]
  rw[show A++B++C++p++D++rest=(A++B)++(C++(p++(D++rest))) by simp,dr (by simp[hA,hB]),tk hC]
 ·rw[vK,e1,hl,List.drop_take,show 16+p.length-16=p.length by omega]
  rw[show A++B++C++p++D++rest=(A++B++C)++(p++(D++rest)) by simp,dr (by simp[hA,hB,hC]),tk rfl]
 ·rw[aCz,e1,hl,List.drop_take,show 24+p.length-(16+p.length)=8 by omega]
  rw[show A++B++C++p++D++rest=(A++B++C++p)++(D++rest) by simp,dr (by simp[hA,hB,hC];omega),tk hD]
theorem aAy(e n:Int)(p:Bs):aD e n p=be 4 (U (p.length:Int))++be 4 (~~~(U (p.length:Int)))++be 8 (U n)++p++be 8 (vF e n p):=rfl
theorem qP{e:Int}{n:Nat}{p rest:Bs}(hp:p.length≤65536)(hn:n≤4611686018427387904):fK e (aD e n p++rest)=true∧eD (aD e n p++rest)=n∧aZ (aD e n p++rest)=p:=by
 have hU:(U (p.length:Int)).toNat=p.length:=fY (by omega)
 have hs:aP (be 4 (U (p.length:Int)))=U (p.length:Int):=by
  apply UInt64.toNat_inj.1
  rw[rY,hU];omega
 have h:=aCv (A:=be 4 (U (p.length:Int))) (B:=be 4 (~~~(U (p.length:Int)))) (C:=be 8 (U n)) (p:=p) (D:=be 8 (vF e n p)) (rest:=rest) (aL _ _) (aL _ _) (aL _ _) (aL _ _)
 rw[←aAy]at h
 obtain⟨h1,h2,h3,h4⟩:=h
 obtain⟨h5,h6⟩:=h4 (by rw[hs,hU])
 rw[hs]at h1
 rw[jU]at h3 h6
 have hno:(U (n:Int)).toNat=n:=fY (by omega)
 have hok:¬jS (aD e n p++rest):=by
  unfold jS
  rw[h1,h2,h3,hU,hno,zR (by rw[hU];omega)]
  have hl:(aD e n p++rest).length=24+p.length+rest.length:=by simp[aH]
  rw[hl]
  have h7:((4294967295:UInt64).toNat:Int)=4294967295:=rfl
  omega
 refine⟨?_,?_,?_⟩
 ·rw[fK,if_neg hok,h6,h3,h5,hno];simp
 ·rw[eD,if_neg hok,h3,hno]
 ·rw[aZ,if_neg hok,h5]
theorem xD(e:Int):fK e []=false:=by
 rw[fK,if_pos (.inl (by simp))]
open Go.Sl
def jG(e:Nat):Nat→List Bs→Bs
 |_,[]=>[]
 |n,r::rs=>aD e n r++jG e (n+1) rs
theorem gF(e n:Nat):jG e n []=[]:=by rw[jG]
theorem fI(e n:Nat)(r:Bs)(rs:List Bs):jG e n (r::rs)=aD e n r++jG e (n+1) rs:=by rw[jG]
theorem kA(e:Nat)(rs:List Bs):∀n:Nat,(jG e n rs).length=aR rs:=by
 induction rs with
 |nil=>intro n;rw[gF,aR];rfl
 |cons r rs ih=>intro n;rw[fI,List.length_append,aH,ih (n+1),aR]
theorem aCh(e:Nat)(b:Bs)(rs:List Bs):∀n:Nat,jG e n (rs++[b])=jG e n rs++aD e ((n+rs.length:Nat):Int) b:=by
 induction rs with
 |nil=>intro n;rw[List.nil_append,fI,gF,gF,List.append_nil,List.nil_append,List.length_nil,Nat.add_zero]
 |cons r rs ih=>intro n;rw[List.cons_append,fI,ih (n+1),fI,List.append_assoc,List.length_cons,show n+1+rs.length=n+(rs.length+1) by omega]
theorem vP{e n f:Nat}{r tail:Bs}(hr:r.length≤65536)(hn:n<4611686018427387904):gI e (f+1) n (aD e n r++tail)=r::gI e f (n+1) tail:=by
 have h1:=qP (e:=e) (n:=n) (p:=r) (rest:=tail) hr (by omega)
 have e2:(aD e n r++tail).drop (24+r.length)=tail:=dr (aH _ _ _)
 rw[gI,if_pos ⟨h1.1,h1.2.1,by omega⟩,h1.2.2,e2]
theorem aCq{e:Nat}(rs:List Bs):∀(n f:Nat) (tail:Bs),(∀b∈rs,b.length≤65536)→n+rs.length≤4611686018427387904→fK e tail=false→rs.length<f→gI e f n (jG e n rs++tail)=rs:=by
 induction rs with
 |nil=>
  intro n f tail _ _ ht hf
  obtain⟨f,rfl⟩:∃g,f=g+1:=⟨f-1,by simp at hf;omega⟩
  rw[gF,List.nil_append,gI,if_neg (by rw[ht];simp)]
 |cons r rs ih=>
  intro n f tail hb hn ht hf
  obtain⟨f,rfl⟩:∃g,f=g+1:=⟨f-1,by simp at hf;omega⟩
  simp only[List.length_cons]at hn hf
  have e1:jG e n (r::rs)++tail=aD e n r++(jG e (n+1) rs++tail):=by rw[fI,List.append_assoc]
  rw[e1,vP (hb r (by simp)) (by omega),ih (n+1) f tail (fun b hb'=>hb b (by simp[hb'])) (by omega) ht (by omega)]
def jF(i:KI):Bs:=(if i.epoch=0 then []else aD i.epoch ((i.next-i.recs.length:Nat):Int) i.state)++jG i.epoch (i.next-i.recs.length) i.recs
structure WF(i:KI):Prop where
 size:i.size=(jF i).length
 next:i.recs.length≤i.next
 zero:i.epoch=0→i.state=[]∧i.next=i.recs.length
 big:i.next≤4611686018427387904
 state:i.state.length≤65536
 recs:∀b∈i.recs,b.length≤65536
theorem rV{e n:Nat}{rs:List Bs}{tail:Bs}(hb:∀b∈rs,b.length≤65536)(hn:n+rs.length≤4611686018427387904)(ht:fK e tail=false):fG e n (jG e n rs++tail)=rs:=by
 refine aCq rs n _ tail hb hn ht ?_
 have h1:rs.length≤(jG e n rs).length:=by
  rw[kA]
  clear hb hn ht
  induction rs with
  |nil=>simp
  |cons a l ih=>simp only[List.length_cons,aR];omega
 simp;omega
theorem zD{k:KS}{i:KI}{tail:Bs}(he:aT k.head=i.epoch)(ha:k.area i.epoch=jF i++tail)(ht:fK i.epoch tail=false)(wf:WF i):eW k=some i:=by
 obtain⟨ep,nx,stt,rs,sz⟩:=i
 obtain⟨w1,w2,w3,w4,w5,w6⟩:=wf
 simp only at*
 unfold eW
 simp only[he,ha]
 by_cases h0:ep=0
 ·subst h0
  obtain⟨z1,z2⟩:=w3 rfl
  subst z1;subst z2
  have e1:jF ⟨0,rs.length,[],rs,sz⟩=jG 0 0 rs:=by simp[jF]
  rw[e1]at w1⊢
  rw[if_pos rfl,rV w6 (by omega) ht]
  rw[kA]at w1
  rw[w1]
 ·have e1:jF ⟨ep,nx,stt,rs,sz⟩=aD ep ((nx-rs.length:Nat):Int) stt++jG ep (nx-rs.length) rs:=by simp[jF,h0]
  rw[e1]at w1⊢
  rw[List.append_assoc]
  have h1:=qP (e:=ep) (n:=nx-rs.length) (p:=stt) (rest:=jG ep (nx-rs.length) rs++tail) w5 (by omega)
  have e2:(aD ep ((nx-rs.length:Nat):Int) stt++(jG ep (nx-rs.length) rs++tail)).drop (24+stt.length)=jG ep (nx-rs.length) rs++tail:=dr (aH _ _ _)
  rw[if_neg h0,if_pos h1.1,h1.2.1,h1.2.2,e2,rV w6 (by omega) ht]
  simp only[List.length_append,aH,kA]at w1
  rw[w1,show nx-rs.length+rs.length=nx by omega]
def qG(m0:UInt64)(s0:Bs)(m1:UInt64)(s1:Bs):Bs:=be 8 m0++s0++(be 8 m1++s1)
def wY(j m:UInt64)(s:Bs):Prop:=m<4611686018427387904∧m%2=j∧aP s=bF ((m.toNat:Nat):Int)
instance (j m:UInt64)(s:Bs):Decidable (wY j m s):=by unfold wY;infer_instance
def ep4(b j m:UInt64)(s:Bs):UInt64:=if b<m∧wY j m s then m else b
theorem tW{m0 m1:UInt64}{s0 s1:Bs}(h0:s0.length=8)(h1:s1.length=8):(qG m0 s0 m1 s1).length=32:=by simp[qG,aL,h0,h1]
theorem mC{m0 m1:UInt64}{s0 s1:Bs}(h0:s0.length=8)(h1:s1.length=8):aT (qG m0 s0 m1 s1)=(ep4 (ep4 0 0 m0 s0) 1 m1 s1).toNat:=by
 have hl:=tW (m0:=m0) (m1:=m1) h0 h1
 have b0:=aL 8 m0
 have b1:=aL 8 m1
 have w0:aP (((qG m0 s0 m1 s1).take (0*16+8)).drop (0*16))=m0:=by
  simp only[qG,List.append_assoc]
  rw[show 0*16+8=8 from rfl,tk b0,show 0*16=0 from rfl,List.drop_zero,jU]
 have w1:((qG m0 s0 m1 s1).take (0*16+16)).drop (0*16+8)=s0:=by
  rw[List.drop_take]
  simp only[qG,List.append_assoc]
  rw[show 0*16+8=8 from rfl,dr b0,show 0*16+16-8=8 from rfl,tk h0]
 have w2:aP (((qG m0 s0 m1 s1).take (1*16+8)).drop (1*16))=m1:=by
  rw[List.drop_take]
  unfold qG
  rw[show 1*16=16 from rfl,dr (by simp[b0,h0]),show 16+8-16=8 from rfl,tk b1,jU]
 have w3:((qG m0 s0 m1 s1).take (1*16+16)).drop (1*16+8)=s1:=by
  rw[List.drop_take,show qG m0 s0 m1 s1=(be 8 m0++s0++be 8 m1)++s1 by simp[qG]]
  rw[show 1*16+8=24 from rfl,dr (by simp[b0,h0,b1]),show 1*16+16-24=8 from rfl,List.take_of_length_le (by omega)]
 unfold aT
 rw[hl]
 show(bX _ 2).toNat=_
 rw[bX,bX,bX]
 unfold lS
 simp only[w0,w1,w2,w3]
 have u0:U ((0*16/16:Nat):Int)=0:=by decide
 have u1:U ((1*16/16:Nat):Int)=1:=by decide
 rw[u0,u1]
 rfl
theorem oY:∀{bs xs:Bs} {at_:Nat},at_+bs.length≤xs.length→wr xs at_ bs=xs.take at_++bs++xs.drop (at_+bs.length)
 |[],xs,at_,_=>by simp[wr]
 |b::bs,xs,at_,h=>by
  have hl:at_<xs.length:=by simp at h;omega
  rw[wr,if_pos hl,oY (by simp at h⊢;omega)]
  simp only[List.length_cons]
  rw[List.drop_set_of_lt (by omega),show at_+1+bs.length=at_+(bs.length+1) by omega]
  congr 1
  rw[List.take_add_one]
  rw[List.getElem?_set_self hl,List.take_set_of_le (by omega)]
  simp
theorem aAq:∀{bs xs:Bs},wr xs xs.length bs=xs++bs
 |[],xs=>by simp[wr]
 |b::bs,xs=>by
  rw[wr,if_neg (by omega)]
  have:=aAq (bs:=bs) (xs:=xs++[b])
  simp only[List.length_append,List.length_cons,List.length_nil]at this
  rw[this];simp
def pN(head:Bs)(e:Nat):Prop:=(head=[]∧e=0)∨∃m0 s0 m1 s1,m0<256∧m1<256∧s0.length=8∧s1.length=8∧head=qG (U ((m0:Nat):Int)) s0 (U ((m1:Nat):Int)) s1∧aT head=e
theorem pN.epoch{head:Bs}{e:Nat}(h:pN head e):aT head=e:=by
 rcases h with⟨rfl,rfl⟩|⟨_,_,_,_,_,_,_,_,_,h⟩
 ·rfl
 ·exact h
theorem pN.len{head:Bs}{e:Nat}(h:pN head e):head.length=0∨head.length=32:=by
 rcases h with⟨rfl,rfl⟩|⟨_,_,_,_,_,_,h0,h1,rfl,_⟩
 ·left;rfl
 ·right;exact tW h0 h1
theorem aDh:pN (List.replicate 32 0) 0:= .inr ⟨0,List.replicate 8 0,0,List.replicate 8 0,by decide,by decide,by decide,by decide,by decide+kernel,by decide+kernel⟩
theorem qY{a b:UInt64}:a<b↔a.toNat<b.toNat:=UInt64.lt_iff_toNat_lt
theorem oL(b j m:UInt64)(s:Bs):(ep4 b j m s=m∧b<m∧wY j m s)∨(ep4 b j m s=b∧¬(b<m∧wY j m s)):=by
 unfold ep4
 split
 ·rename_i h;exact .inl ⟨rfl,h⟩
 ·rename_i h;exact .inr ⟨rfl,h⟩
open Go.Sl
theorem nK(k:KS)(e:Nat)(xs:Bs):(k.setArea e xs).area e=xs:=by
 unfold KS.setArea KS.area
 split<;>rfl
theorem jX(k:KS){e e':Nat}(h:e%2≠e'%2)(xs:Bs):(k.setArea e xs).area e'=k.area e':=by
 unfold KS.setArea KS.area
 by_cases h1:e%2=0
 ·rw[if_pos h1,if_neg (by omega),if_neg (by omega)]
 ·rw[if_neg h1,if_pos (by omega),if_pos (by omega)]
theorem iI(k:KS)(e:Nat)(p:Int):({k with power:=p}:KS).area e=k.area e:=rfl
theorem mJ(k:KS)(e:Nat)(xs:Bs):(k.setArea e xs).head=k.head:=by unfold KS.setArea;split<;>rfl
theorem kP{P:Bs→Prop}{k:KS}(ha:P k.a)(hb:P k.b)(e:Nat):P (k.area e):=by unfold KS.area;split<;>assumption
structure Inv(k:KS)(i:KI)(N:Nat)(x:Bool):Prop where
 head:pN k.head i.epoch
 area:∃tail,k.area i.epoch=jF i++tail∧fK i.epoch tail=false∧(x=true→tail=[])
 wf:WF i
 eN:i.epoch≤N
 nN:i.next≤N
 sz:i.size≤324*(N+1)
 la:(k.area 0).length≤324*(N+2)
 lb:(k.area 1).length≤324*(N+2)
 st:i.state.length≤300
 rs:∀b∈i.recs,b.length≤300
 pw: -1≤k.power∧k.power≤255
theorem Inv.mono{k:KS}{i:KI}{N M:Nat}{x:Bool}(h:Inv k i N x)(hM:N≤M):Inv k i M x:=
 ⟨h.head,h.area,h.wf,by have:=h.eN;omega,by have:=h.nN;omega,by have:=h.sz;omega,by have:=h.la;omega,by have:=h.lb;omega,h.st,h.rs,h.pw⟩
theorem Inv.weak{k:KS}{i:KI}{N:Nat}(h:Inv k i N true):Inv k i N false:=
 ⟨h.head,let⟨t,a,b,_⟩:=h.area;⟨t,a,b,fun e=>by cases e⟩,h.wf,h.eN,h.nN,h.sz,h.la,h.lb,h.st,h.rs,h.pw⟩
theorem Inv.any{k:KS}{i:KI}{N:Nat}{x:Bool}(h:Inv k i N x):Inv k i N false:=by cases x;exact h;exact h.weak
theorem Inv.exact{k:KS}{i:KI}{N:Nat}(h:Inv k i N true):k.area i.epoch=jF i:=by
 obtain⟨t,a,_,c⟩:=h.area
 rw[a,c rfl,List.append_nil]
theorem Inv.lens{k:KS}{i:KI}{N:Nat}{x:Bool}(h:Inv k i N x):k.a.length≤324*(N+2)∧k.b.length≤324*(N+2):=⟨h.la,h.lb⟩
theorem Inv.fits{k:KS}{i:KI}{N:Nat}{x:Bool}(h:Inv k i N x)(hN:N≤100):k.fits 524288:=by
 have h1:=h.lens
 have h2:=h.head.len
 exact⟨by omega,by omega,by omega,by have:=h.pw;omega⟩
theorem Inv.okP{k:KS}{i:KI}{N:Nat}{x:Bool}(h:Inv k i N x)(hN:N≤100):k.okP:=by
 have h1:=h.lens
 have h2:=h.head.len
 exact⟨h2,by omega,by omega,h.pw.1⟩
theorem Inv.read{k:KS}{i:KI}{N:Nat}{x:Bool}(h:Inv k i N x):eW k=some i:=by
 obtain⟨t,a,b,_⟩:=h.area
 exact zD h.head.epoch a b h.wf
theorem aAt{k:KS}{e size:Nat}(hp:k.power≠0):(aV k e size).area e=(k.area e).take size:=by
 unfold aV
 rw[iI,nK,gV,if_neg hp]
theorem Inv.cut{k:KS}{i:KI}{N:Nat}{x:Bool}(h:Inv k i N x)(hp:k.power≠0):Inv (aV k i.epoch i.size) i N true:=by
 obtain⟨t,a,b,_⟩:=h.area
 have e1:(aV k i.epoch i.size).area i.epoch=jF i:=by
  rw[aAt hp,a,h.wf.size,List.take_left']
  rfl
 have hle:∀e,((aV k i.epoch i.size).area e).length≤324*(N+2):=by
  have h1:∀xs:Bs,xs.length≤324*(N+2)→(gV xs k.power i.size).length≤324*(N+2):=fun xs hx=>by
   unfold gV;split
   ·exact hx
   ·simp;omega
  intro e
  by_cases he:i.epoch%2=e%2
  ·have e2:(aV k i.epoch i.size).area e=(aV k i.epoch i.size).area i.epoch:=by unfold KS.area;rw[he]
   rw[e2]
   unfold aV
   rw[iI,nK]
   exact h1 _ (kP (P:=fun z=>z.length≤_) h.la h.lb _)
  ·unfold aV
   rw[iI,jX _ he]
   exact kP (P:=fun z=>z.length≤_) h.la h.lb _
 refine⟨?_,⟨[],by rw[e1,List.append_nil],xD _,fun _=>rfl⟩,h.wf,h.eN,h.nN,h.sz,hle 0,hle 1,h.st,h.rs,?_⟩
 ·show pN (k.setArea _ _).head _
  rw[mJ];exact h.head
 ·show-1≤fP _ _ _∧fP _ _ _≤255
  have:=h.pw
  unfold fP dN
  split<;>(try split)<;>omega
theorem aEc{i:KI}{bs:Bs}(wf:WF i):jF (hG i bs)=jF i++aD i.epoch i.next bs:=by
 have h1:(hG i bs).next-(hG i bs).recs.length=i.next-i.recs.length:=by simp[hG]
 have h2:=aCh i.epoch bs i.recs (i.next-i.recs.length)
 have h3:i.next-i.recs.length+i.recs.length=i.next:=by have:=wf.next;omega
 rw[h3]at h2
 unfold jF
 rw[h1]
 show _++jG i.epoch _ (i.recs++[bs])=_
 rw[h2,List.append_assoc]
 rfl
theorem aGs{k:KS}{i:KI}{bs:Bs}(ha:k.area i.epoch=jF i)(wf:WF i):(gK k i bs).area i.epoch=jF i++(aD i.epoch i.next bs).take (Jn.pw k.power (aD i.epoch i.next bs).length):=by
 unfold gK cJ
 rw[iI,nK,lJ,ha,wf.size,aAq]
theorem aDt{k:KS}{e:Nat}(h:lZ k e):(vC k e).area e=[]:=by
 unfold vC aV
 rw[iI,nK,gV]
 split
 ·rename_i hp
  rcases h with h|h
  ·exact List.eq_nil_of_length_eq_zero (by omega)
  ·exact absurd hp h
 ·simp
theorem aCb{k:KS}{e e':Nat}(h:e%2≠e'%2):(vC k e).area e'=k.area e':=by
 unfold vC aV
 rw[iI,jX _ h]
theorem aDu(k:KS)(e:Nat):(vC k e).head=k.head:=by
 show(k.setArea _ _).head=_
 rw[mJ]
theorem aDv{k:KS}{e n:Nat}{bs:Bs}(h:lZ k e):(nE k e n bs).area e=(aD e n bs).take (Jn.pw (vC k e).power (aD e n bs).length):=by
 unfold nE cJ
 rw[iI,nK,lJ,aDt h]
 have:=aAq (bs:=(aD e n bs).take (Jn.pw (vC k e).power (aD e n bs).length)) (xs:=[])
 simpa using this
theorem aCc{k:KS}{e e' n:Nat}{bs:Bs}(h:e%2≠e'%2):(nE k e n bs).area e'=k.area e':=by
 unfold nE cJ
 rw[iI,jX _ h,aCb h]
theorem aDw(k:KS)(e n:Nat)(bs:Bs):(nE k e n bs).head=k.head:=by
 show((vC k e).setArea _ _).head=_
 rw[mJ,aDu]
theorem aDx(k:KS)(e n:Nat)(bs:Bs)(e':Nat):(lY k e n bs).area e'=(nE k e n bs).area e':=by
 unfold lY;simp only;split<;>rfl
theorem yI(k:KS)(e n:Nat)(bs:Bs)(e':Nat):(ck4 k e n bs).area e'=(nE k e n bs).area e':=by
 rw[←aDx];rfl
theorem aJr(i:KI)(bs:Bs):jF (nF i bs)=aD ((i.epoch+1:Nat):Int) i.next bs:=by
 unfold jF
 rw[if_neg (by simp[nF])]
 show aD ((i.epoch+1:Nat):Int) ((i.next-0:Nat):Int) bs++jG (i.epoch+1) _ []=_
 rw[gF,List.append_nil,Nat.sub_zero]
theorem yJ(e:Nat):(pI e).length=16:=by simp[pI,aL]
open Go.Sl
theorem xA(m:Nat):Jn.pw (-1) m=m:=by unfold Jn.pw;rw[if_pos (by decide)]
theorem aAh(m:Nat):pl (-1) m= -1:=by unfold pl;rw[if_pos (by decide)]
theorem aAr{p:Int}{bs:Bs}(h:p= -1):eI p bs:=by subst h;exact xA _
theorem wH{k:KS}{i:KI}{bs:Bs}(h:k.power= -1):aBy k i bs:=aAr h
theorem aGr{k:KS}{i:KI}{bs:Bs}(h:k.power= -1):(gK k i bs).power= -1:=by show pl k.power _= -1;rw[h,aAh]
theorem wL{k:KS}{e:Nat}(h:k.power= -1):(vC k e).power= -1:=by
 show fP _ k.power _= -1
 unfold fP dN;rw[h];split<;>rfl
theorem aGv{k:KS}{e n:Nat}{bs:Bs}(h:k.power= -1):(nE k e n bs).power= -1:=by show pl (vC k e).power _= -1;rw[wL h,aAh]
theorem wM{k:KS}{e n:Nat}{bs:Bs}(h:k.power= -1):(lY k e n bs).power= -1:=by
 have:=aGv (e:=e) (n:=n) (bs:=bs) h
 unfold lY;simp only;split<;>exact this
theorem tT{k:KS}{e n:Nat}{bs:Bs}(h:k.power= -1):sU k e n bs:=⟨.inr (by rw[h];decide),aAr (wL h),aAr (wM h)⟩
theorem wN{k:KS}{e n:Nat}{bs:Bs}(h:k.power= -1):iE k e n bs=ck4 k e n bs:=by
 have hc:=tT (e:=e) (n:=n) (bs:=bs) h
 rw[iE,if_pos hc.1,if_pos hc.2.1]
theorem aGw{k:KS}{e n:Nat}{bs:Bs}(h:k.power= -1):(iE k e n bs).power= -1:=by
 rw[wN h]
 show pl (lY k e n bs).power _= -1
 rw[wM h,aAh]
open Go.Sl
theorem xZ{xs:Bs}(h:xs.length=8):be 8 (aP xs)=xs:=
 oW (by rw[aL];omega) (by rw[aL,h]) (jU _)
theorem aJy{xs:Bs}(h:xs.length=32):∃m0 s0 m1 s1,s0.length=8∧s1.length=8∧xs=qG m0 s0 m1 s1:=by
 refine⟨aP (xs.take 8),(xs.drop 8).take 8,aP ((xs.drop 16).take 8),xs.drop 24,by simp;omega,by simp;omega,?_⟩
 unfold qG
 rw[xZ (by simp;omega),xZ (by simp;omega)]
 have h1:xs.drop 16=(xs.drop 16).take 8++xs.drop 24:=by
  conv=>lhs;rw[←List.take_append_drop 8 (xs.drop 16)]
  rw[List.drop_drop]
 have h2:xs.drop 8=(xs.drop 8).take 8++xs.drop 16:=by
  conv=>lhs;rw[←List.take_append_drop 8 (xs.drop 8)]
  rw[List.drop_drop]
 conv=>lhs;rw[←List.take_append_drop 8 xs,h2,h1]
 simp
theorem aKc{e:Nat}(h:e<4611686018427387904):(U (e:Int))%2=U ((e%2:Nat):Int):=by
 apply UInt64.toNat_inj.1
 rw[UInt64.toNat_mod,fY (by omega),fY (by omega)];rfl
theorem yS{e:Nat}(he:e<4611686018427387904):wY (U ((e%2:Nat):Int)) (U (e:Int)) (be 8 (bF (e:Int))):=by
 have hUe:(U (e:Int)).toNat=e:=fY (by omega)
 have u62:(4611686018427387904:UInt64).toNat=4611686018427387904:=rfl
 exact⟨qY.2 (by rw[hUe,u62];omega),aKc he,by rw[jU,hUe]⟩
theorem u0_:U ((0:Nat):Int)=0:=by decide
theorem u1_:U ((1:Nat):Int)=1:=by decide
theorem tD{b j m:UInt64}{s:Bs}(h1:b<m)(h2:wY j m s):ep4 b j m s=m:=if_pos ⟨h1,h2⟩
theorem aEi{head:Bs}{e:Nat}{m:UInt64}{t:Bs}(hm:m.toNat=e+1)(ht:t.length=8)(h0':(e+1)%2=0→wY 0 m t)(h1':(e+1)%2=1→wY 1 m t)(hl:head.length=32)(he:aT head=e):
  aT (wr head ((e+1)%2*16) (be 8 m++t))=e+1:=by
 obtain⟨m0,s0,m1,s1,h0,h1,rfl⟩:=aJy hl
 have b0:=aL 8 m0
 have b1:=aL 8 m1
 have bm:=aL 8 m
 have hc:(be 8 m++t).length=16:=by rw[List.length_append,bm,ht]
 rw[mC h0 h1]at he
 rw[oY (by rw[hl,hc];omega),hc]
 by_cases hp:(e+1)%2=0
 ·have hok:=h0' hp
  rw[hp]
  have e1:(qG m0 s0 m1 s1).take (0*16)++(be 8 m++t)++(qG m0 s0 m1 s1).drop (0*16+16)=qG m t m1 s1:=by
   unfold qG
   rw[show 0*16+16=16 from rfl,dr (by rw[List.length_append,b0,h0]),Nat.zero_mul,List.take_zero,List.nil_append]
  rw[e1,mC ht h1]
  have hz:(0:UInt64).toNat=0:=rfl
  rw[tD (qY.2 (by rw[hm,hz];omega)) hok]
  rcases oL m 1 m1 s1 with⟨r1,r2,r3⟩|⟨r1,_⟩
  ·exfalso
   have r2':=qY.1 r2
   rcases oL (ep4 0 0 m0 s0) 1 m1 s1 with⟨q1,_⟩|⟨q1,q2⟩
   ·rw[q1]at he;omega
   ·rw[q1]at he
    exact q2 ⟨qY.2 (by omega),r3⟩
  ·rw[r1,hm]
 ·have hp1:(e+1)%2=1:=by omega
  have hok:=h1' hp1
  rw[hp1]
  have e1:(qG m0 s0 m1 s1).take (1*16)++(be 8 m++t)++(qG m0 s0 m1 s1).drop (1*16+16)=qG m0 s0 m t:=by
   have e3:(qG m0 s0 m1 s1).drop (1*16+16)=[]:=List.drop_of_length_le (by rw[hl];omega)
   rw[e3,List.append_nil]
   unfold qG
   rw[show 1*16=16 from rfl,tk (by rw[List.length_append,b0,h0])]
  rw[e1,mC h0 ht]
  have e2:(ep4 0 0 m0 s0).toNat≤e:=by
   rcases oL (ep4 0 0 m0 s0) 1 m1 s1 with⟨q1,q2,_⟩|⟨q1,_⟩
   ·rw[q1]at he;have:=qY.1 q2;omega
   ·rw[q1]at he;omega
  rw[tD (qY.2 (by rw[hm];omega)) hok,hm]
theorem aCj{head:Bs}{e:Nat}(hl:head.length=32)(he:aT head=e)(hb:e+1<4611686018427387904):
  aT (wr head ((e+1)%2*16) (pI (e+1)))=e+1:=by
 have hok:=yS hb
 unfold pI
 exact aEi (fY (by omega)) (aL _ _) (fun h=>by rw[h,u0_]at hok;exact hok) (fun h=>by rw[h,u1_]at hok;exact hok) hl he
theorem aGp:(List.replicate 32 0:Bs)=qG 0 (List.replicate 8 0) 0 (List.replicate 8 0):=by decide+kernel
theorem aEj{e:Nat}{m:UInt64}{t:Bs}(hm:m.toNat=e)(h1:1≤e)(ht:t.length=8)(h0':e%2=0→wY 0 m t)(h1':e%2=1→wY 1 m t):
  aT (wr (List.replicate 32 0) (e%2*16) (be 8 m++t))=e:=by
 have hz:(List.replicate 8 0:Bs).length=8:=by rw[List.length_replicate]
 have bm:=aL 8 m
 have hc:(be 8 m++t).length=16:=by rw[List.length_append,bm,ht]
 have h0z:(0:UInt64).toNat=0:=rfl
 rw[oY (by rw[hc,List.length_replicate];omega),hc]
 by_cases hp:e%2=0
 ·have hok:=h0' hp
  rw[hp]
  have e1:(List.replicate 32 0:Bs).take (0*16)++(be 8 m++t)++(List.replicate 32 0:Bs).drop (0*16+16)=qG m t 0 (List.replicate 8 0):=by
   rw[aGp];unfold qG
   rw[show 0*16+16=16 from rfl,dr (by rw[List.length_append,aL,hz]),Nat.zero_mul,List.take_zero,List.nil_append]
  rw[e1,mC ht hz,tD (qY.2 (by rw[hm,h0z];omega)) hok]
  rcases oL m 1 0 (List.replicate 8 0)with⟨_,r2,_⟩|⟨r1,_⟩
  ·have:=qY.1 r2;rw[hm,h0z]at this;omega
  ·rw[r1,hm]
 ·have hp1:e%2=1:=by omega
  have hok:=h1' hp1
  rw[hp1]
  have e1:(List.replicate 32 0:Bs).take (1*16)++(be 8 m++t)++(List.replicate 32 0:Bs).drop (1*16+16)=qG 0 (List.replicate 8 0) m t:=by
   rw[List.drop_of_length_le (by rw[List.length_replicate];omega),List.append_nil,aGp];unfold qG
   rw[show 1*16=16 from rfl,tk (by rw[List.length_append,aL,hz])]
  have e2:ep4 0 0 0 (List.replicate 8 0)=0:=by decide+kernel
  rw[e1,mC hz ht,e2,tD (qY.2 (by rw[hm,h0z];omega)) hok,hm]
theorem yN{e:Nat}(h1:1≤e)(hb:e<4611686018427387904):aT (wr (List.replicate 32 0) (e%2*16) (pI e))=e:=by
 have hok:=yS hb
 unfold pI
 exact aEj (fY (by omega)) h1 (aL _ _) (fun h=>by rw[h,u0_]at hok;exact hok) (fun h=>by rw[h,u1_]at hok;exact hok)
theorem aKl{i:KI}{bs:Bs}(wf:WF i)(hn:i.next<4611686018427387904)(hb:bs.length≤65536):WF (hG i bs):=by
 refine⟨?_,?_,fun h=> ?_,?_,wf.state,?_⟩
 ·rw[aEc wf,List.length_append,←wf.size];rfl
 ·have:=wf.next;simp[hG];omega
 ·have:=wf.zero h;simp[hG];exact this
 ·show i.next+1≤_;omega
 ·intro b hb'
  rcases List.mem_append.1 hb' with h|h
  ·exact wf.recs b h
  ·simp at h;subst h;omega
theorem aKm{i:KI}{bs:Bs}(wf:WF i)(hb:bs.length≤65536):WF (nF i bs):=by
 refine⟨?_,by simp[nF],fun h=>by simp[nF]at h,wf.big,hb,fun b h=>by simp[nF]at h⟩
 unfold jF
 rw[if_neg (by simp[nF])]
 show 24+bs.length=_
 rw[List.length_append,aH,kA]
 simp[nF,aR]
theorem aDj{k:KS}{B:Nat}(h0:(k.area 0).length≤B)(h1:(k.area 1).length≤B)(e:Nat):(k.area e).length≤B:=
 kP (P:=fun z=>z.length≤B) (k:=k) h0 h1 e
structure Lst(k:KS)(i:KI)(B:Nat):Prop where
 pw:k.power= -1
 hl:(i.epoch=0∧k.head=[])∨k.head.length=32
 ep:aT k.head=i.epoch
 ar:k.area i.epoch=jF i
 wf:WF i
 la:(k.area 0).length≤B
 lb:(k.area 1).length≤B
namespace Lst
variable {k:KS}{i:KI}{B:Nat}
theorem area(h:Lst k i B)(e:Nat):(k.area e).length≤B:=aDj h.la h.lb e
theorem size(h:Lst k i B):(k.area i.epoch).length=i.size:=by rw[h.ar,h.wf.size]
theorem sz(h:Lst k i B):i.size≤B:=by rw[←h.size];exact h.area _
theorem read(h:Lst k i B):eW k=some i:=zD h.ep (by rw[h.ar,List.append_nil]) (xD _) h.wf
theorem e62(h:Lst k i B):i.epoch<4611686018427387904:=by rw[←h.ep];exact kQ _ _
theorem okP(h:Lst k i B)(hB:B≤262144):k.okP:=
 ⟨h.hl.elim (fun x=> .inl (by rw[x.2];rfl)) .inr,by have:=h.la;show(k.area 0).length≤_;omega,by have:=h.lb;show(k.area 1).length≤_;omega,by rw[h.pw];omega⟩
theorem fits(h:Lst k i B)(hB:B≤262144):k.fits 524288:=by
 have h1:=h.okP hB
 exact⟨by have:=h1.1;omega,by have:=h1.2.1;omega,by have:=h1.2.2.1;omega,by rw[h.pw];decide⟩
theorem recsLen(h:Lst k i B):24*i.recs.length≤B:=by
 have h1:=h.sz
 have h2:=h.wf.size
 unfold jF at h2
 rw[List.length_append,kA]at h2
 have:∀l:List Bs,24*l.length≤aR l:=by
  intro l
  induction l with
  |nil=>simp
  |cons a l ih=>simp only[List.length_cons,aR];omega
 have:=this i.recs
 omega
theorem cutS_self(h:Lst k i B):aV k i.epoch i.size=k:=by
 unfold aV
 have hl:=h.size
 have e2:gV (k.area i.epoch) k.power i.size=k.area i.epoch:=by unfold gV;rw[if_neg (by rw[h.pw];decide),List.take_of_length_le (by omega)]
 have e3:fP (k.area i.epoch) k.power i.size=k.power:=by unfold fP;rw[if_neg (by omega)]
 rw[e2,e3]
 unfold KS.setArea KS.area
 split<;>rfl
theorem cutOk(h:Lst k i B):cutOk (k.area i.epoch) k.power i.size:= .inr (by rw[h.pw];decide)
theorem mono(h:Lst k i B){C:Nat}(hB:B≤C):Lst k i C:=⟨h.pw,h.hl,h.ep,h.ar,h.wf,Nat.le_trans h.la hB,Nat.le_trans h.lb hB⟩
theorem ap(h:Lst k i B){bs:Bs}(hn:i.next<4611686018427387904)(hb:bs.length≤65536){C:Nat}(hB:B≤C)(hC:i.size+24+bs.length≤C):Lst (gK k i bs) (hG i bs) C:=by
 have hl:=aH i.epoch i.next bs
 have e1:(gK k i bs).area i.epoch=jF i++aD i.epoch i.next bs:=by
  rw[aGs h.ar h.wf,h.pw,xA,List.take_length]
 have ha:∀e,((gK k i bs).area e).length≤C:=fun e=>by
  by_cases he:i.epoch%2=e%2
  ·have e2:(gK k i bs).area e=(gK k i bs).area i.epoch:=by unfold KS.area;rw[he]
   rw[e2,e1,List.length_append,←h.wf.size,hl];omega
  ·unfold gK cJ
   rw[iI,jX _ he]
   exact Nat.le_trans (h.area e) hB
 refine⟨aGr h.pw,?_,?_,by rw[aEc h.wf];exact e1,aKl h.wf hn hb,ha 0,ha 1⟩
 ·show(_∧(k.setArea _ _).head=[])∨(k.setArea _ _).head.length=32
  rw[mJ];exact h.hl
 ·show aT (k.setArea _ _).head=_
  rw[mJ];exact h.ep
theorem ck(h:Lst k i B){bs:Bs}(he:i.epoch<4611686018427387903)(hb:bs.length≤65536){C:Nat}(hB:B≤C)(hC:24+bs.length≤C):Lst (iE k (i.epoch+1) i.next bs) (nF i bs) C:=by
 have hok:=tT (e:=i.epoch+1) (n:=i.next) (bs:=bs) h.pw
 have hl:=aH ((i.epoch+1:Nat):Int) i.next bs
 have e2:(nE k (i.epoch+1) i.next bs).area (i.epoch+1)=aD ((i.epoch+1:Nat):Int) i.next bs:=by
  rw[aDv hok.1,wL h.pw,xA,List.take_length]
 have ha:∀e,((ck4 k (i.epoch+1) i.next bs).area e).length≤C:=fun e=>by
  rw[yI]
  by_cases he:(i.epoch+1)%2=e%2
  ·have e3:(nE k (i.epoch+1) i.next bs).area e=(nE k (i.epoch+1) i.next bs).area (i.epoch+1):=by unfold KS.area;rw[he]
   rw[e3,e2,hl];omega
  ·rw[aCc he]
   exact Nat.le_trans (h.area e) hB
 have e1:=aDw k (i.epoch+1) i.next bs
 have hh:(lY k (i.epoch+1) i.next bs).head.length=32∧aT (lY k (i.epoch+1) i.next bs).head=i.epoch:=by
  rcases h.hl with⟨h0,h1⟩|h1
  ·have e3:(lY k (i.epoch+1) i.next bs).head=List.replicate 32 0:=by unfold lY;simp only;rw[if_pos (by rw[e1,h1];rfl)]
   rw[e3,h0];exact⟨by simp,aDh.epoch⟩
  ·have e3:(lY k (i.epoch+1) i.next bs).head=k.head:=by unfold lY;simp only;rw[if_neg (by rw[e1,h1];omega),e1]
   rw[e3];exact⟨h1,h.ep⟩
 have e4:(ck4 k (i.epoch+1) i.next bs).head=wr (lY k (i.epoch+1) i.next bs).head ((i.epoch+1)%2*16) (pI (i.epoch+1)):=by
  show lJ _ (lY k (i.epoch+1) i.next bs).power _ _=_
  rw[lJ,wM h.pw,xA,List.take_length]
 have hc:=yJ (i.epoch+1)
 rw[wN h.pw]
 refine⟨by rw[←wN h.pw];exact aGw h.pw,.inr ?_,?_,by rw[yI,aJr];exact e2,aKm h.wf hb,ha 0,ha 1⟩
 ·rw[e4,oY (by rw[hh.1,hc];omega)]
  simp[hh.1,hc];omega
 ·rw[e4];exact aCj hh.1 hh.2 (by omega)
end Lst
theorem aCl:Lst ⟨[],[],[],-1⟩ ⟨0,0,[],[],0⟩ 0:=
 ⟨rfl,.inl ⟨rfl,rfl⟩,by decide+kernel,by simp[KS.area,jF,gF],⟨by decide,by decide,fun _=>⟨rfl,rfl⟩,by decide,by decide,by simp⟩,by simp[KS.area],by simp[KS.area]⟩
def xR(e n:Nat):Bs:=aD e n [115]++aD e n [114]++aD e ((n+1:Nat):Int) [116]
def lsH(e:Nat):Bs:=wr (List.replicate 32 0) (e%2*16) (pI e)
def sV(e n:Nat):KS:=⟨lsH e,xR e n,xR e n,-1⟩
theorem tG(e n:Nat):(xR e n).length=75:=by simp[xR,aH]
theorem aKn{xs bs:Bs}{at_:Nat}(h:at_+bs.length≤xs.length):(wr xs at_ bs).length=xs.length:=by
 rw[oY h];simp;omega
theorem tZ(e n:Nat):(sV e n).head=lsH e:=by simp only[sV]
theorem aEr(e n:Nat):(sV e n).head.length=32:=by
 rw[tZ,lsH,aKn (by rw[yJ,List.length_replicate];omega),List.length_replicate]
theorem aKw(e n:Nat):(sV e n).okP:=
 ⟨.inr (aEr e n),by show(xR e n).length≤_;rw[tG];omega,by show(xR e n).length≤_;rw[tG];omega,by show(-1:Int)≤-1;omega⟩
theorem aEs{e n:Nat}{i:KI}{t:Bs}(h1:1≤e)(he:e<4611686018427387904)(hie:i.epoch=e)(ha:xR e n=jF i++t)(hr:eW (sV e n)=some i)(wf:WF i):∃i,eW (sV e n)=some i∧Lst (aV (sV e n) i.epoch i.size) i 75:=by
 refine⟨i,hr,?_⟩
 have har:(sV e n).area i.epoch=xR e n:=by unfold KS.area sV;split<;>rfl
 have hp:(sV e n).power≠0:=by show(-1:Int)≠0;decide
 have e1:=aAt (k:=sV e n) (e:=i.epoch) (size:=i.size) hp
 have hle:∀e',((aV (sV e n) i.epoch i.size).area e').length≤75:=fun e'=>by
  by_cases h:i.epoch%2=e'%2
  ·have e2:(aV (sV e n) i.epoch i.size).area e'=(aV (sV e n) i.epoch i.size).area i.epoch:=by unfold KS.area;rw[h]
   rw[e2,e1,har,List.length_take,tG];omega
  ·unfold aV
   rw[iI,jX _ h]
   unfold KS.area sV
   split<;>(simp only[tG];omega)
 have eh:(aV (sV e n) i.epoch i.size).head=(sV e n).head:=by show(KS.setArea _ _ _).head=_;rw[mJ]
 refine⟨?_,.inr ?_,?_,?_,wf,hle 0,hle 1⟩
 ·show fP _ _ _= -1
  unfold fP dN;split<;>rfl
 ·rw[eh];exact aEr e n
 ·rw[eh,hie,tZ,lsH];exact yN h1 he
 ·rw[e1,har,ha,wf.size,List.take_left'];rfl
theorem aHp{e n:Nat}(h1:1≤e)(he:e<4611686018427387904)(hn:n≤4611686018427387904):∃i,eW (sV e n)=some i∧Lst (aV (sV e n) i.epoch i.size) i 75:=by
 have h1l:([115]:Bs).length≤65536:=by decide
 have hep:aT (sV e n).head=e:=by rw[tZ,lsH];exact yN h1 he
 have har:(sV e n).area e=xR e n:=by unfold KS.area sV;split<;>rfl
 have ea:xR e n=aD e n [115]++(aD e n [114]++aD e ((n+1:Nat):Int) [116]):=by unfold xR;rw[List.append_assoc]
 have hd:(xR e n).drop 25=aD e n [114]++aD e ((n+1:Nat):Int) [116]:=by rw[ea];exact dr (aH _ _ _)
 have hrec:=qP (e:=e) (n:=n) (p:=[115]) (rest:=aD e n [114]++aD e ((n+1:Nat):Int) [116]) h1l hn
 rw[←ea]at hrec
 have hread:∀rs,fG e n (aD e n [114]++aD e ((n+1:Nat):Int) [116])=rs→eW (sV e n)=some ⟨e,n+rs.length,[115],rs,25+aR rs⟩:=fun rs hrs=>by
  unfold eW
  simp only[hep,har]
  rw[if_neg (by omega),if_pos hrec.1,hrec.2.1,hrec.2.2]
  show some (KI.mk e (n+(fG e n ((xR e n).drop 25)).length) [115] (fG e n ((xR e n).drop 25)) (25+aR (fG e n ((xR e n).drop 25))))=_
  rw[hd,hrs]
 have hf:∀f,f=(aD e n [114]++aD e ((n+1:Nat):Int) [116]).length→f=50:=fun f h=>by rw[h];simp[aH]
 by_cases c0:n=4611686018427387904
 ·have hrs:fG e n (aD e n [114]++aD e ((n+1:Nat):Int) [116])=[]:=by
   unfold fG
   rw[gI,if_neg (fun h=>h.2.2 c0)]
  refine aEs (i:=⟨e,n,[115],[],25⟩) (t:=aD e n [114]++aD e ((n+1:Nat):Int) [116]) h1 he rfl ?_ (hread [] hrs) ⟨?_,by simp,fun h=> ?_,by simpa using hn,by simp,by simp⟩
  ·rw[ea];unfold jF;simp only;rw[if_neg (by omega),gF,List.append_nil];rfl
  ·unfold jF;simp only;rw[if_neg (by omega),gF,List.append_nil,aH];rfl
  ·exact absurd h (by simp only;omega)
 ·by_cases c1:n+1=4611686018427387904
  ·have hrs:fG e n (aD e n [114]++aD e ((n+1:Nat):Int) [116])=[[114]]:=by
    unfold fG
    rw[vP (by decide) (by omega)]
    simp only[List.length_append,aH]
    show _::gI e 50 (n+1) _=_
    rw[gI,if_neg (fun h=>h.2.2 c1)]
   refine aEs (i:=⟨e,n+1,[115],[[114]],50⟩) (t:=aD e ((n+1:Nat):Int) [116]) h1 he rfl ?_ (hread [[114]] hrs) ⟨?_,by simp,fun h=> ?_,by simp only;omega,by simp,by simp⟩
   ·unfold jF xR;simp only[List.length_cons,List.length_nil];rw[if_neg (by omega),fI,gF,List.append_nil];rfl
   ·unfold jF;simp only[List.length_cons,List.length_nil];rw[if_neg (by omega),fI,gF,List.append_nil,List.length_append,aH,aH];rfl
   ·exact absurd h (by simp only;omega)
  ·have e2:aD e n [114]++aD e ((n+1:Nat):Int) [116]=jG e n [[114],[116]]++[]:=by rw[fI,fI,gF,List.append_nil,List.append_nil]
   have hrs:fG e n (aD e n [114]++aD e ((n+1:Nat):Int) [116])=[[114],[116]]:=by
    rw[e2];exact rV (by simp) (by simp only[List.length_cons,List.length_nil];omega) (xD _)
   refine aEs (i:=⟨e,n+2,[115],[[114],[116]],75⟩) (t:=[]) h1 he rfl ?_ (hread _ hrs) ⟨?_,by simp,fun h=> ?_,by simp only;omega,by simp,by simp⟩
   ·unfold jF;simp only[List.length_cons,List.length_nil];rw[if_neg (by omega),fI,fI,gF,List.append_nil,List.append_nil,ea];rfl
   ·unfold jF;simp only[List.length_cons,List.length_nil];rw[if_neg (by omega),fI,fI,gF,List.append_nil,List.length_append,List.length_append,aH,aH,aH];rfl
   ·exact absurd h (by simp only;omega)
end Go.Jn
namespace Go.Sl
section
variable {P:Program}{ro:Option Nat}{n:Nat}{ds:List Deferred}{β:Base}{Q:Exit→Act→World→Prop}{f:Fm}{L:List cE}{ops:Array Oper}{rest:List Oper}
variable {d:Option Tmp}{ty:TypeId}{ps:String}{af:Array Edge}{g:Option (Nat×Bool)}
theorem nZ{ki:IntKind}{k:Nat}{y:Nat}{c:BoundsCode}{w:World}(h:k≤y):(Instr.sliceBound (.int ki (k:Int)) y c).run P w= .ok k w:=by
 unfold Instr.sliceBound asIntOf
 simp only[Sem.run_bind,Sem.run_pure,Result.andThen_ok]
 rw[if_pos (by omega)]
 simp
theorem wP{ki:IntKind}{x y:Operand}{t e k len cap h:Nat}{a:Option Addr}(ht:nB P t e k=true)(hx:ev f x= .slice a len cap)(hy:ev f y= .int ki (h:Int))(hh:h≤cap):
  EV P β L f ⟨d,.slice t x none (some y) none,ty,ps,af,g⟩ (.slice a h cap):=fun w _=>by
 obtain⟨hu,i,hi,hn⟩:=gN ht
 have e0:∀a:Addr,a.add 0=a:=fun a=>by unfold Addr.add;split<;>simp_all
 simp[execOp,Instr.sliceAt,Instr.slice,run_underlying hu,hx,hy,Instr.sliceBounds,nZ hh,sizeOf,typeInfo,hi]
 intro _
 cases a<;>simp[e0]
theorem wQ{ki kj:IntKind}{x y z:Operand}{t e k len cap l h:Nat}{a:Option Addr}(ht:nB P t e k=true)(hx:ev f x= .slice a len cap)(hy:ev f y= .int ki (l:Int))(hz:ev f z= .int kj (h:Int))(hl:l≤h)(hh:h≤cap):
  EV P β L f ⟨d,.slice t x (some y) (some z) none,ty,ps,af,g⟩ (.slice (gL a cap l k) (h-l) (cap-l)):=fun w _=>by
 obtain⟨hu,i,hi,hn⟩:=gN ht
 simp[execOp,Instr.sliceAt,Instr.slice,run_underlying hu,hx,hy,hz,Instr.sliceBounds,nZ hl,nZ hh,sizeOf,typeInfo,hi,hn,gL]
theorem kJ{c:Code}{K M:List cE}{F:bR→Prop}(hL:L=K++M)(hF:∀a,kI K a→F a)(k:dE P ro n ds β c Q f (F::M)):dE P ro n ds β c Q f L:=fun a w ha hw=>by
 subst hL;exact k a w ha (hw.merge hF)
theorem rI{e:Exit}{K M:List cE}{F:bR→Prop}(hL:L=K++M)(hF:∀a,kI K a→F a)(k:iN n ds β Q e f (F::M)):iN n ds β Q e f L:=fun a w ha hw=>by
 subst hL;exact k a w ha (hw.merge hF)
theorem kI.head{r:cE}{rs:List cE}{h:bR}(hL:kI (r::rs) h):∃a,gR a h∧r a:=let⟨a,_,_,ha,_,hr,_⟩:=hL;⟨a,ha,hr⟩
end
theorem aGm(x:UInt64):(x%(2:UInt64)).toNat≤1:=by
 have e:(2:UInt64).toNat=2:=rfl
 rw[UInt64.toNat_mod,e];omega
theorem aAg{α:Type _}(L:List α):L.Perm ((List.range L.length).filterMap (L[·]?)):=by
 have:(List.range L.length).filterMap (L[·]?)=L:=by
  induction L with
  |nil=>rfl
  |cons a l ih=>
   rw[List.length_cons,List.range_succ_eq_map,List.filterMap_cons,List.filterMap_map]
   simp only[List.getElem?_cons_zero]
   congr 1
 rw[this]
theorem bN{α:Type _}{L L':List α}(ix:List Nat)(n:Nat)(hn:L.length=n)(h:(List.range n).isPerm ix=true)(e:ix.filterMap (L[·]?)=L'):L.Perm L':=by
 subst e;subst hn
 exact(aAg L).trans ((List.isPerm_iff.1 h).filterMap _)
structure Fl(α:Type) where
 n:Nat
 enc:α→List Value
 len:∀x,(enc x).length=n
 one:∀x,(enc x).all (·.oneCell')=true
 pos:0<n
abbrev Fl.R{α:Type}(F:Fl α):Rp α:=Rp.flat F.n F.enc F.len
section
variable {α:Type}{F:Fl α}
end
section
variable {P:Program}{ro:Option Nat}{n:Nat}{ds:List Deferred}{β:Base}{Q:Exit→Act→World→Prop}{f:Fm}{L:List cE}{ops:Array Oper}{rest:List Oper}
variable {d:Option Tmp}{ty:TypeId}{ps:String}{af:Array Edge}{g:Option (Nat×Bool)}
variable {α:Type}{F:Fl α}
end
section
variable {P:Program}{ro:Option Nat}{n:Nat}{ds:List Deferred}{β:Base}{Q:Exit→Act→World→Prop}{f:Fm}{L:List cE}
end
section
variable {P:Program}{ro:Option Nat}{n:Nat}{ds:List Deferred}{β:Base}{Q:Exit→Act→World→Prop}{f:Fm}{L:List cE}
variable {d:Option Tmp}{ty:TypeId}{ps:String}{af:Array Edge}{g:Option (Nat×Bool)}{α:Type}{F:Fl α}
end
section
variable {P:Program}{ro:Option Nat}{n:Nat}{ds:List Deferred}{β:Base}{Q:Exit→Act→World→Prop}{f:Fm}{L:List cE}{ops:Array Oper}{rest:List Oper}
variable {d:Option Tmp}{ty:TypeId}{ps:String}{af:Array Edge}{g:Option (Nat×Bool)}
end
def eM(xs:Bs)(k:Nat)(ys:Bs):Bs:=xs.take k++ys++xs.drop (k+ys.length)
theorem mR{xs ys:Bs}{k:Nat}(h:k+ys.length≤xs.length):(eM xs k ys).length=xs.length:=by
 unfold eM;simp;omega
section
variable {P:Program}{ro:Option Nat}{n:Nat}{ds:List Deferred}{β:Base}{Q:Exit→Act→World→Prop}{f:Fm}{L:List cE}{ops:Array Oper}{rest:List Oper}
variable {d:Option Tmp}{ty:TypeId}{ps:String}{af:Array Edge}{g:Option (Nat×Bool)}
theorem yQ{x y:Operand}{t e T k c cc cq:Nat}{p q ao:Option Addr}{xs ys:Bs}(i:Nat)(hsl:nB P t e 1=true)(hx:ev f x= .slice q (xs.length-k) cq)(hq:∀b,p=some ⟨b,0,none⟩→q=some ⟨b,k,none⟩)
 (hi:L[i]? =some (row (.slice p xs.length c) T 1 xs.length (BX xs)))(hk:k+ys.length≤xs.length)(h0:0<ys.length)(hy:ev f y= .slice ao ys.length cc)(hkn:aX β L (fun h=>bO bE h ao ys)):
  MV P β L f ⟨d,.call ⟨.builtin .copy,#[x,y],#[t,t]⟩,ty,ps,af,g⟩ (fun v L'=>v=Nx ys.length∧L'=L.set i (row (.slice p (eM xs k ys).length c) T 1 (eM xs k ys).length (BX (eM xs k ys)))):=fun w hw=>by
 obtain⟨hu,inf,hinf,hn2⟩:=gN hsl
 have hkk:=hw.knows hkn
 have hao:=lC hkk h0
 obtain⟨ad,rfl⟩:∃ad,ao=some ad:=⟨_,hao⟩
 have hc:Cs (ph w) ad (BX ys):=yM hkk
 have hex:∃a,gR a (ph w)∧row (.slice p xs.length c) T 1 xs.length (BX xs) a:=by
  obtain⟨_,_,_,hh,hd,hs,hs',hL⟩:=hw
  obtain⟨a,ha,hr⟩:=hL.each _ (List.mem_of_getElem? hi)
  exact⟨a,ha.trans hs',hr⟩
 have hm:0<xs.length:=by omega
 obtain⟨a,ha,hr⟩:=hex
 obtain⟨b,cur,rfl,hb,h2,h3,h4,h5,h6⟩:=jC hr hm
 have hbw:w.heap[b]? =some (.cells cur T (0,0)):=ha _ _ hb
 rw[hq b rfl]at hx
 have hyl:(BX ys).length=ys.length:=by simp
 have hxl:(BX xs).length=xs.length:=by simp
 have hcp:=run_copy_row (P:=P) w t t ty e b k (xs.length-k) cq ad ys.length cc cur T (BX ys) hu (by rw[hinf];simp[hn2]) hbw (by rw[hyl];exact(Nat.min_eq_left (by omega)).symm) (fun j v hj=>hc j v hj) (by rw[hyl,h4];omega) (List.all_eq_true.1 (aJj ys))
 rw[hyl]at hcp
 refine⟨Nx ys.length,w.setRow b (cur.toList.take k++BX ys++cur.toList.drop (k+ys.length)).toArray,_,?_,?_,rfl,rfl⟩
 ·simp only[execOp,resolve,invoke,builtin,Sem.run_bind,Sem.run_pure,Result.andThen_ok,List.map_toArray,List.map_cons,List.map_nil,hx,hy,hcp]
  rfl
 ·refine St.back i hi ((hw.front i hi).turn rfl rfl rfl fun a' ha' hr'=> ?_)
  obtain⟨b',cur',e1,hb',g2,g3,g4,g5,g6⟩:=jC hr' hm
  injection e1 with e1
  injection e1 with e1
  subst e1
  have hbw':w.heap[b]? =some (.cells cur' T (0,0)):=ha' _ _ hb'
  rw[hbw]at hbw'
  injection hbw' with e2
  injection e2 with e2
  subst e2
  have hcl:=mR hk
  refine⟨fun k'=>if k'=b then some (.cells (cur.toList.take k++BX ys++cur.toList.drop (k+ys.length)).toArray T (0,0))else none,?_,?_,?_⟩
  ·refine⟨by simp,.inr ⟨b,c,(cur.toList.take k++BX ys++cur.toList.drop (k+ys.length)).toArray,?_,by simp,by rw[hcl];exact h2,h3,?_,?_⟩⟩
   ·rw[hcl]
   ·simp only[List.size_toArray,List.length_append,List.length_take,List.length_drop,Array.length_toList,hyl];omega
   ·have e3:BX (eM xs k ys)=(BX xs).take k++BX ys++(BX xs).drop (k+ys.length):=by
     unfold eM;simp only[List.map_append,List.map_take,List.map_drop]
    have e4:cur.toList.take xs.length=BX xs:=by rw[←h5,Nat.mul_one]
    have e5:(cur.toList.take k++BX ys).length=k+ys.length:=by
     rw[List.length_append,hyl,List.length_take,Array.length_toList,h4];omega
    rw[e3,hcl,←e4,Nat.mul_one,List.take_append,e5,List.take_of_length_le (by rw[e5];exact hk),List.take_take,Nat.min_eq_left (by omega),List.drop_take]
  ·intro k' y hy
   by_cases e:k'=b
   ·subst e;simp only[↓reduceIte,Option.some.injEq]at hy;subst hy;exact setRow_heap w k' cur _ T _ hbw
   ·simp[e]at hy
  ·intro k' hlt hak
   have hne:k'≠b:=by rintro rfl;rw[hb']at hak;cases hak
   exact⟨by simp[hne],setRow_other w b k' _ hne⟩
theorem aBa{x y:Operand}{t e T k c cc:Nat}{p ao:Option Addr}{xs ys:Bs}(i:Nat)(hsl:nB P t e 1=true)(hx:ev f x= .slice (gL p c k 1) (xs.length-k) (c-k))
 (hi:L[i]? =some (row (.slice p xs.length c) T 1 xs.length (BX xs)))(hk:k+ys.length≤xs.length)(hc:xs.length≤c)(h0:0<ys.length)(hy:ev f y= .slice ao ys.length cc)(hkn:aX β L (fun h=>bO bE h ao ys)):
  MV P β L f ⟨d,.call ⟨.builtin .copy,#[x,y],#[t,t]⟩,ty,ps,af,g⟩ (fun v L'=>v=Nx ys.length∧L'=L.set i (row (.slice p (eM xs k ys).length c) T 1 (eM xs k ys).length (BX (eM xs k ys)))):=
 yQ i hsl hx (fun b hb=>by
  subst hb
  unfold gL
  rw[if_neg (by omega),Nat.mul_one]
  simp only[Option.map_some]
  unfold Addr.add
  split<;>simp_all) hi hk h0 hy hkn
theorem aHs{x y:Operand}{t e T c cc:Nat}{p ao:Option Addr}{xs ys:Bs}(i:Nat)(hsl:nB P t e 1=true)(hx:ev f x= .slice p xs.length c)
 (hi:L[i]? =some (row (.slice p xs.length c) T 1 xs.length (BX xs)))(hk:ys.length≤xs.length)(h0:0<ys.length)(hy:ev f y= .slice ao ys.length cc)(hkn:aX β L (fun h=>bO bE h ao ys)):
  MV P β L f ⟨d,.call ⟨.builtin .copy,#[x,y],#[t,t]⟩,ty,ps,af,g⟩ (fun v L'=>v=Nx ys.length∧L'=L.set i (row (.slice p (eM xs 0 ys).length c) T 1 (eM xs 0 ys).length (BX (eM xs 0 ys)))):=
 yQ i hsl hx (fun b hb=>hb) hi (by omega) h0 hy hkn
theorem aHt{x y:Operand}{t e c:Nat}(hsl:nB P t e 1=true)(hel:zS P e 1 1=true)(hz:(P.info? e).bind (·.zero)=some (.int .u8 0))(hx:ev f x= .int .i64 (c:Int))(hy:ev f y= .int .i64 (c:Int))(hc:c≤140737488355328):
  MV P β L f ⟨d,.makeSlice t x y,ty,ps,af,g⟩ (fun u L'=>∃b,u= .slice (some ⟨b,0,none⟩) (List.replicate c (0:UInt8)).length c∧L'=row (.slice (some ⟨b,0,none⟩) (List.replicate c (0:UInt8)).length c) e 1 (List.replicate c (0:UInt8)).length (BX (List.replicate c 0))::L):=fun w hw=>by
 rcases Nat.eq_zero_or_pos c with rfl|h
 ·obtain⟨v,w',L',h1,h2,b,rfl,rfl⟩:=aEv (P:=P) (ty:=ty) (ps:=ps) (af:=af) (g:=g) (d:=d) hsl hx hy w hw
  exact⟨_,w',_,h1,h2.conseq (r':=row (.slice (some ⟨b,0,none⟩) 0 0) e 1 0 (BX [])) (fun a h=>jA (m:=0) (by decide) rfl a h),b,rfl,rfl⟩
 ·exact oM hsl hel hz hx hy h hc w hw
theorem aFd{h:bR}{b:Addr}{xs:Bs}{m c:Nat}(he:bO bE h (some b) xs)(hm:m≤xs.length)(hc:xs.length≤c)(hcm:c≤9223372036854775807):Sl bE h (.slice (some b) m c) (xs.take m):=by
 have e:(xs.take m).length=m:=by rw[List.length_take];omega
 exact⟨_,c,by rw[e],by rw[e];omega,hcm,bO.take m he⟩
theorem aDp(n:Nat):IntKind.u8.wrap (n:Int)=((UInt8.ofNat n).toNat:Int):=by
 rw[u8w];simp
def qT(q:Nat):UInt8:=UInt8.ofNat (2^min q 8)
theorem aFv(q:Nat):IntKind.u8.wrap (((1:UInt8).toNat:Int)*2^(min ((q:Nat):Int).toNat IntKind.u8.bits))=((qT q).toNat:Int):=by
 have e:((1:UInt8).toNat:Int)*2^(min ((q:Nat):Int).toNat IntKind.u8.bits)=((2^min q 8:Nat):Int):=by
  have h:IntKind.u8.bits=8:=rfl
  rw[h,Int.toNat_natCast]
  show(1:Int)*_=_
  rw[Int.one_mul,Int.natCast_pow];rfl
 rw[e];exact aDp _
end
end Go.Sl
namespace Go.Jn
open Go.Sl
def cL(e:Int):Bs:=be 8 (U e)++be 8 (bF e)
theorem bL(e:Int):(cL e).length=16:=by simp[cL,aL]
def dT:Bs:=List.replicate 32 0
theorem aKu:dT=List.replicate 32 0:=rfl
theorem lP:dT.length=32:=List.length_replicate
theorem aLt{xs:Bs}{k:Nat}{ys:Bs}(h:k+ys.length≤xs.length):wr xs k ys=eM xs k ys:=oY h
theorem aJz(e:Nat):lsH e=eM dT (e%2*16) (cL (e:Int)):=by
 have h:=aLt (xs:=dT) (k:=e%2*16) (ys:=cL (e:Int)) (by rw[bL,lP];omega)
 rw[←h];rfl
theorem aEt(e n:Nat)(A:Bs)(hA:A=xR e n):sV e n=⟨eM dT (e%2*16) (cL (e:Int)),A,A,-1⟩:=by
 subst hA;rw[←aJz];rfl
theorem aHq{e n:Nat}(h1:1≤e)(he:e<4611686018427387904)(hn:n≤4611686018427387904){A B:Bs}(hA:A=xR e n)(hB:B=A):
  ∃k:KS,k=⟨eM dT (e%2*16) (cL (e:Int)),A,B,-1⟩∧k.okP∧k.power= -1∧∃i,eW k=some i∧Lst (aV k i.epoch i.size) i 75:=by
 subst hB
 have h:=aEt e n _ hA
 exact⟨sV e n,h,aKw e n,rfl,aHp h1 he hn⟩
theorem aHd{k:Nat}{x:Int}(h:([1,4611686018427387902,4611686018427387903]:List Int)[k]? =some x):∃e:Nat,x=(e:Int)∧1≤e∧e<4611686018427387904:=by
 have:=List.mem_of_getElem? h
 simp only[List.mem_cons,List.not_mem_nil,or_false]at this
 exact⟨x.toNat,by omega,by omega,by omega⟩
theorem aHx{k:Nat}{x:Int}(h:([5,4611686018427387902,4611686018427387903,4611686018427387904]:List Int)[k]? =some x):∃n:Nat,x=(n:Int)∧n≤4611686018427387904:=by
 have:=List.mem_of_getElem? h
 simp only[List.mem_cons,List.not_mem_nil,or_false]at this
 exact⟨x.toNat,by omega,by omega⟩
open Go.Sl
def cP:Bs:=List.replicate 65537 0
theorem aKt:cP=List.replicate 65537 0:=rfl
theorem nM:cP.length=65537:=List.length_replicate
theorem yC{m:Nat}(h:m≤65537):(cP.take m).length=m:=by rw[List.length_take,nM];omega
def flS(q:Nat):Nat:=if q≤3 then 65560*q else if q=4 then 196680 else 262144
def flN(q:Nat):Nat:=if q≤3 then q else if q=4 then 3 else 4
theorem aEh{q:Nat}(h:q<6):q=0∨q=1∨q=2∨q=3∨q=4∨q=5:=by omega
theorem aHg{q m:Nat}(hq:q<6)(h3:q=3→m=65441)(h4:q=4→m=65440)(h5:q≠3→q≠4→m=65536)(h:¬(q=3∨q=5)):flS q+24+m=flS (q+1)∧flN q+1=flN (q+1):=by
 rcases aEh hq with rfl|rfl|rfl|rfl|rfl|rfl
 ·rw[h5 (by omega) (by omega)];exact⟨by decide,by decide⟩
 ·rw[h5 (by omega) (by omega)];exact⟨by decide,by decide⟩
 ·rw[h5 (by omega) (by omega)];exact⟨by decide,by decide⟩
 ·omega
 ·rw[h4 rfl];exact⟨by decide,by decide⟩
 ·omega
theorem aHf{q m:Nat}(hq:q<6)(h3:q=3→m=65441)(h4:q=4→m=65440)(h5:q≠3→q≠4→m=65536)(h:q=3∨q=5):flS (q+1)=flS q∧flN (q+1)=flN q∧262144<flS q+24+m:=by
 rcases h with rfl|rfl
 ·rw[h3 rfl];exact⟨by decide,by decide,by decide⟩
 ·rw[h5 (by omega) (by omega)];exact⟨by decide,by decide,by decide⟩
theorem aEg{q:Nat}(h:q≤6):flS q≤262144∧flN q≤6:=by
 rcases(show q<6∨q=6 by omega)with h|rfl
 ·rcases aEh h with rfl|rfl|rfl|rfl|rfl|rfl<;>exact⟨by decide,by decide⟩
 ·exact⟨by decide,by decide⟩
theorem aDi(i:KI)(bs:Bs):(hG i bs).size=i.size+24+bs.length:=by
 show i.size+(aD i.epoch i.next bs).length=_
 rw[aH];omega
end Go.Jn
namespace Go.Sl
section
variable {P:Program}{ro:Option Nat}{n:Nat}{ds:List Deferred}{β:Base}{Q:Exit→Act→World→Prop}{f:Fm}{L:List cE}{ops:Array Oper}{rest:List Oper}
theorem oI(f:Fm)(d:Nat)(v:Value):fS f d v d=v:=by unfold fS;simp
theorem lW(f:Fm){d e:Nat}(v:Value)(h:Nat.beq e d=false):fS f d v e=f e:=by unfold fS;rw[h]
theorem aEo{m p j d1 d2 d3 d4:Nat}{x q:Operand}{o1 o2 o3 o4:Oper}{t1 t2:TypeId}{s1 s2:String}{r1 r2:Array Edge}(b c:Bool)(hx:ev f x= .bool b)
 (h:b=true→(∀x1 x2 x3 x4,cQ P ro n ds β ops Q rest (fS (fS (fS (fS (fS (fS f m (.bool true)) d1 x1) d2 x2) d3 x3) d4 x4) p (.bool (c))) L)→cQ P ro n ds β ops Q (o1::o2::o3::o4::⟨some p,.pick (.tmp m) q (.const (.bool false)),t2,s2,r2,none⟩::rest) (fS f m (.bool true)) L)
 (k:∀x1 x2 x3 x4,cQ P ro n ds β ops Q rest (fS (fS (fS (fS (fS (fS f m (.bool b)) d1 x1) d2 x2) d3 x3) d4 x4) p (.bool (b&&c))) L)(hm:Nat.blt m n=true:=by rfl)(hp:Nat.blt p n=true:=by rfl)(e1:o1.dst=some d1:=by rfl)(g1:o1.guard=some (j,true):=by rfl)(n1:Nat.blt d1 n=true:=by rfl)(a1:Nat.beq m d1=false:=by rfl)(e2:o2.dst=some d2:=by rfl)(g2:o2.guard=some (j,true):=by rfl)(n2:Nat.blt d2 n=true:=by rfl)(a2:Nat.beq m d2=false:=by rfl)(e3:o3.dst=some d3:=by rfl)(g3:o3.guard=some (j,true):=by rfl)(n3:Nat.blt d3 n=true:=by rfl)(a3:Nat.beq m d3=false:=by rfl)(e4:o4.dst=some d4:=by rfl)(g4:o4.guard=some (j,true):=by rfl)(n4:Nat.blt d4 n=true:=by rfl)(a4:Nat.beq m d4=false:=by rfl)(hj:(ops[j]?).bind (·.dst)=some m:=by rfl):
  cQ P ro n ds β ops Q (⟨some m,.move x,t1,s1,r1,none⟩::o1::o2::o3::o4::⟨some p,.pick (.tmp m) q (.const (.bool false)),t2,s2,r2,none⟩::rest) f L:=by
 refine cW rfl rfl hm (v:= .bool b) (hx▸cV) ?_
 cases b
 ·
  refine eB g1 hj (b:=false) (by rw[oI]) rfl e1 n1 ?_
  refine eB g2 hj (b:=false) (by rw[lW _ _ a1,oI]) rfl e2 n2 ?_
  refine eB g3 hj (b:=false) (by rw[lW _ _ a2,lW _ _ a1,oI]) rfl e3 n3 ?_
  refine eB g4 hj (b:=false) (by rw[lW _ _ a3,lW _ _ a2,lW _ _ a1,oI]) rfl e4 n4 ?_
  exact cW rfl rfl hp (v:= .bool false) (jZ (by change fS _ _ _ m=_;rw[lW _ _ a4,lW _ _ a3,lW _ _ a2,lW _ _ a1,oI])) (k undef undef undef undef)
 ·
  exact h rfl (by simpa using k)
end
end Go.Sl
namespace Go.Jn
open Go.Sl
theorem aJk(x y:UInt8):IntKind.u8.wrap ((BitVec.ofInt IntKind.u8.bits (x.toNat:Int)^^^BitVec.ofInt IntKind.u8.bits (y.toNat:Int)).toNat:Int)=((x^^^y).toNat:Int):=by
 have e:∀z:UInt8,BitVec.ofInt IntKind.u8.bits (z.toNat:Int)=z.toBitVec:=fun z=>by
  apply BitVec.eq_of_toNat_eq;simp[IntKind.bits]
 rw[e,e,u8w]
 have h:=(x^^^y).toNat_lt
 show(((x^^^y).toNat:Nat):Int)%256=_
 omega
open Go Go.Sl
theorem tA{s:Bs}(h:s.length=8):be 8 (aP s)=s:=oW (by rw[aL];omega) (by rw[aL,h]) (jU _)
end Go.Jn
namespace Go.Sl
abbrev rB(p:Option Addr)(xs:Bs)(c:Nat):cE:=row (.slice p xs.length c) 5 1 xs.length (BX xs)
abbrev sB{α:Type}(p:Option Addr)(xs:List α)(c:Nat):Value:= .slice p xs.length c
abbrev pp(b o:Nat):Value:= .pointer (some ⟨b,o,none⟩)
theorem kU{β:Base}{L:List cE}{h:bR}{p:Option Addr}{m c T:Nat}{bs:Bs}(kn:∀F,aX β L F→F h)(i:Nat)(hi:L[i]? =some (row (.slice p m c) T 1 m (BX bs))):Sl bE h (.slice p m c) bs:=kn (fun h=>Sl bE h (.slice p m c) bs) (aX.of_res i hi (Sl.mono bE _ _) fun _ h=>fB h)
theorem kB{β:Base}{L:List cE}{a:Addr}{cs:List Value}(h:Cs β.heap a cs):aX β L (fun h=>Cs h a cs):=aX.of_base (Cs.mono _ _) h
section
variable {P:Program}{ro:Option Nat}{n:Nat}{ds:List Deferred}{β:Base}{Q:Exit→Act→World→Prop}{f g:Fm}{L L' M:List cE}{ops:Array Oper}{rest:List Oper}
variable {d:Nat}{op:Op}{ty:TypeId}{ps:String}{af:Array Edge}{v:Value}{gd:Option (Nat×Bool)}
theorem lv(h:EV P β L f ⟨some d,op,ty,ps,af,none⟩ v)(k:cQ P ro n ds β ops Q rest (fS f d v) L)(hn:Nat.blt d n=true:=by rfl):cQ P ro n ds β ops Q (⟨some d,op,ty,ps,af,none⟩::rest) f L:=cW rfl rfl hn h k
theorem lu(h:MU P β L f ⟨none,op,ty,ps,af,none⟩ L')(k:cQ P ro n ds β ops Q rest f L'):cQ P ro n ds β ops Q (⟨none,op,ty,ps,af,none⟩::rest) f L:=kD rfl rfl h k
theorem qC{e:Exit}(ix:List Nat)(m:Nat)(hm:L.length=m)(h:(List.range m).isPerm ix=true)(k:iN n ds β Q e f (ix.filterMap (L[·]?))):iN n ds β Q e f L:=aAa (bN ix m hm h rfl) k
theorem eG{c:Code}(ix:List Nat)(m:Nat)(hm:L.length=m)(h:(List.range m).isPerm ix=true)(k:dE P ro n ds β c Q f (ix.filterMap (L[·]?))):dE P ro n ds β c Q f L:=tP (bN ix m hm h rfl) k
theorem aW{y:Code}(h:dE P ro n ds β y Q f L):cQ P ro n ds β ops (Exit.then (y.wpIn (Fe ro) 3 P Q) Q) [] f L:=aG (aQ h)
theorem cC{id:Nat}{l:List Oper}{y:Code}(h:cQ P ro n ds β l.toArray (Exit.then (y.wpIn (Fe ro) 3 P Q) Q) l f L):dE P ro n ds β (.seq (.region id l.toArray false) y) Q f L:=aO (aC h)
theorem eJ{id:Nat}{l:List Oper}{y:Code}(h:cQ P ro n ds β l.toArray (Exit.then (y.wpIn (Fe ro) 3 P Q) Q) l f L):cQ P ro n ds β ops (Exit.then ((Code.seq (.region id l.toArray false) y).wpIn (Fe ro) 3 P Q) Q) [] f L:=aW (cC h)
theorem lnr{id:Nat}{l:List Oper}(h:cQ P ro n ds β l.toArray Q l f L):cQ P ro n ds β ops (Exit.then ((Code.region id l.toArray false).wpIn (Fe ro) 3 P Q) Q) [] f L:=aW (aC h)
theorem qF{e:Exit→Act→World→Prop}{id:Nat}{l:List Oper}{y:Code}(h:cQ P ro n ds β l.toArray (Exit.then (y.wpIn (Fe ro) 3 P e) e) l f L):iN n ds β (Exit.then ((Code.seq (.region id l.toArray false) y).wpIn (Fe ro) 3 P e) e) .normal f L:=aQ (cC h)
theorem zT{x y:Code}(h:dE P ro n ds β x (Exit.then (y.wpIn (Fe ro) 3 P Q) Q) f L):iN n ds β (Exit.then ((Code.seq x y).wpIn (Fe ro) 3 P Q) Q) .normal f L:=aQ (aO h)
theorem ftr(h:iN n ds β Q .ret f L):iN n ds β (Exit.then (Code.ret.wpIn (Fe ro) 3 P Q) Q) .normal f L:=aQ (bB h)
theorem eT{y:Code}(h:dE P ro n ds β y Q f L):dE P ro n ds β .skip (Exit.then (y.wpIn (Fe ro) 3 P Q) Q) f L:=cM (aQ h)
theorem dX{x y z:Code}(h:dE P ro n ds β x (Exit.then (y.wpIn (Fe ro) 3 P (Exit.then (z.wpIn (Fe ro) 3 P Q) Q)) (Exit.then (z.wpIn (Fe ro) 3 P Q) Q)) f L):dE P ro n ds β (.seq (.seq x y) z) Q f L:=aO (aO h)
theorem cY{d:Option Tmp}{c:Operand}{xs:List Operand}{ts:Array TypeId}{g:FuncId}{vs:List Value}(hg:cfB P g=true)(hx:ev f c= .func (.func g) #[] #[])(ha:xs.map (ev f)=vs):CL P f ⟨d,.call ⟨.value c,xs.toArray,ts⟩,ty,ps,af,gd⟩ g vs.toArray:=
 cS (fst:=[]) (cap:=[]) hg hx ha (by simp)
theorem jH{g:FuncId}{args:Array Value}(he:CL P f ⟨some d,op,ty,ps,af,none⟩ g args)(hn:Nat.blt d n=true)
 (hc:∀w β1,gR β.heap β1.heap→(∀F,aX β L F→F β1.heap)→St β1 [] w→(∀L' w',St β1 L' w'→St β (L'++L) w')→Calls P g args w fun e w'=>∃v,e= .returned v∧∃L',St β L' w'∧cQ P ro n ds β ops Q rest (fS f d v) L'):
  cQ P ro n ds β ops Q (⟨some d,op,ty,ps,af,none⟩::rest) f L:=bP rfl rfl hn he fun w hw=>by
 obtain⟨β1,sb,kn,hw1,back⟩:=St.frame_all hw
 exact hc w β1 sb kn hw1 back
theorem obv{k:Fm→Prop}{out:Fm→List cE}(e:g=f)(hk:k (fS f d v))(h:EV P β L' g ⟨some d,op,ty,ps,af,none⟩ v)(hp:L'.Perm (out (fS f d v)++M))(hL:L=L')(hn:Nat.blt d n=true:=by rfl):
  cQ P ro n ds β ops (Qn (pC n ds β (some d) k f out M)) [⟨some d,op,ty,ps,af,none⟩] f L:=bC hL e (cW rfl rfl hn h (aG (aI e hk hp)))
theorem nA{k:Fm→Prop}{out:Fm→List cE}(e:g=f)(hk:k (fS f d v))(h:EV P β M g ⟨some d,op,ty,ps,af,none⟩ v)(hp:M.Perm (out (fS f d v)++M))(hL:L=M:=by rfl)(hn:Nat.blt d n=true:=by rfl):
  cQ P ro n ds β ops (Qn (pC n ds β (some d) k f out M)) [⟨some d,op,ty,ps,af,none⟩] f L:=obv e hk h hp hL hn
theorem sX{j x:Nat}{b:Bool}{k:Fm→Prop}{out:Fm→List cE}(e:g=f)(h:EV P β L' g ⟨some d,op,ty,ps,af,some (j,b)⟩ v)(ho:(ops[j]?).bind (·.dst)=some x)(hf:g x= .bool b)(hn:Nat.blt d n=true)(hk:k (fS f d v))(hp:L'.Perm (out (fS f d v)++M))(hL:L=L'):
  cQ P ro n ds β ops (Qn (pC n ds β (some d) k f out M)) [⟨some d,op,ty,ps,af,some (j,b)⟩] f L:=bC hL e (fN rfl ho hf rfl hn h (aG (aI e hk hp)))
end
structure Key(κ:Type) where
 dec:DecidableEq κ
 enc:κ→Value
 d:TypeDesc
 same:∀a b,Instr.sameNow d (enc a) (enc b)=some (decide (a=b))
 bits:∀a,Instr.sameBits 10000 (enc a) (enc a)=true
 chk:∀(P:Program) (t:Nat),P.underlying t=some d→∀e a w,(Instr.checkKey e 10000 t (enc a)).run P w= .ok () w
section
variable {κ:Type}(K:Key κ)
def aLw(ks:List (κ×Value))(es:Array MapEntry):Prop:=es.toList.map (fun e=>(e.key,e.val))=ks.map fun p=>(K.enc p.1,p.2)
def aKy(b:Nat)(ks:List (κ×Value)):cE:=fun h=>∃es clock,h b=some (.map es clock)∧aLw K ks es
theorem aKy.mono(b:Nat)(ks:List (κ×Value)):oZ (aKy K b ks):=fun _ _ hs ⟨es,c,h,k⟩=>⟨es,c,hs _ _ h,k⟩
variable {P:Program}{ro:Option Nat}{n:Nat}{ds:List Deferred}{β:Base}{Q:Exit→Act→World→Prop}{f:Fm}{L:List cE}{ops:Array Oper}{rest:List Oper}
variable {d:Option Tmp}{ty:TypeId}{ps:String}{af:Array Edge}{g:Option (Nat×Bool)}
end
class TyC (P:Program) (t:TypeId) (agg:outParam Bool) (n:outParam Nat):Prop where ok:tyB P t agg n=true:=by kernel_rfl
class FldC (P:Program) (s k:Nat) (off n:outParam Nat) (agg:outParam Bool):Prop where ok:aHh P s k off n agg=true:=by kernel_rfl
class UndC (P:Program) (t:TypeId) (e:outParam TypeId):Prop where ok:P.underlying t=some (.slice e):=by kernel_rfl
class ZerC (P:Program) (t:Nat) (z:outParam Value):Prop where ok:(P.info? t).bind (·.zero)=some z:=by kernel_rfl
class CfC (P:Program) (g:FuncId):Prop where ok:cfB P g=true:=by kernel_rfl
class ArrC (P:Program) (t:Nat) (len e n:outParam Nat):Prop where ok:arB P t len e n=true:=by kernel_rfl
section
variable {P:Program}{β:Base}{f:Fm}{L:List cE}{d:Option Tmp}{ty:TypeId}{ps:String}{af:Array Edge}{g:Option (Nat×Bool)}{x y:Operand}
theorem bG{k:IntKind}{a:Int}(hx:ev f x= .int k a:=by first|rfl|assumption):EV P β L f ⟨d,.move x,ty,ps,af,g⟩ (.int k a):=hx▸cV
theorem bV{k:IntKind}{a:Int}(hx:ev f x= .int k a:=by first|rfl|assumption):EV P β L f ⟨d,.assign x,ty,ps,af,g⟩ (.int k a):=hx▸eR
theorem dQ{c:Bool}(hx:ev f x= .bool c:=by first|rfl|assumption):EV P β L f ⟨d,.move x,ty,ps,af,g⟩ (.bool c):=hx▸cV
theorem eE{c:Bool}(hx:ev f x= .bool c:=by first|rfl|assumption):EV P β L f ⟨d,.assign x,ty,ps,af,g⟩ (.bool c):=hx▸eR
theorem eP{q:Option Addr}(hx:ev f x= .pointer q:=by first|rfl|assumption):EV P β L f ⟨d,.move x,ty,ps,af,g⟩ (.pointer q):=hx▸cV
theorem nV{q:Option Addr}(hx:ev f x= .pointer q:=by first|rfl|assumption):EV P β L f ⟨d,.assign x,ty,ps,af,g⟩ (.pointer q):=hx▸eR
theorem cX{q:Option Addr}{i j:Nat}(hx:ev f x= .slice q i j:=by first|rfl|assumption):EV P β L f ⟨d,.move x,ty,ps,af,g⟩ (.slice q i j):=hx▸cV
theorem fR{q:Option Addr}{i j:Nat}(hx:ev f x= .slice q i j:=by first|rfl|assumption):EV P β L f ⟨d,.assign x,ty,ps,af,g⟩ (.slice q i j):=hx▸eR
theorem iK{vs:Array Value}(hx:ev f x= .tuple vs:=by first|rfl|assumption):EV P β L f ⟨d,.move x,ty,ps,af,g⟩ (.tuple vs):=hx▸cV
theorem omf{fn:Fn}{vs us:Array Value}(hx:ev f x= .func fn vs us:=by first|rfl|assumption):EV P β L f ⟨d,.move x,ty,ps,af,g⟩ (.func fn vs us):=hx▸cV
theorem oaf{fn:Fn}{vs us:Array Value}(hx:ev f x= .func fn vs us:=by first|rfl|assumption):EV P β L f ⟨d,.assign x,ty,ps,af,g⟩ (.func fn vs us):=hx▸eR
theorem dY{c:Bool}{c0:Operand}(hc:ev f c0= .bool true:=by first|rfl|assumption)(hx:ev f x= .bool c:=by first|rfl|assumption):EV P β L f ⟨d,.pick c0 x y,ty,ps,af,g⟩ (.bool c):=hx▸pY hc
theorem cR{c:Bool}{c0:Operand}(hc:ev f c0= .bool false:=by first|rfl|assumption)(hx:ev f y= .bool c:=by first|rfl|assumption):EV P β L f ⟨d,.pick c0 x y,ty,ps,af,g⟩ (.bool c):=hx▸jZ hc
theorem bM{s k off m:Nat}{ag:Bool}{b o:Nat}[h:FldC P s k off m ag](hx:ev f x= .pointer (some ⟨b,o,none⟩):=by first|rfl|assumption):EV P β L f ⟨d,.fieldAddr s x k,ty,ps,af,g⟩ (.pointer (some ⟨b,o+off,none⟩)):=aCe hx h.ok
theorem ofa{s k off m:Nat}{ag:Bool}{a:Addr}[h:FldC P s k off m ag](hx:ev f x= .pointer (some a):=by first|rfl|assumption):EV P β L f ⟨d,.fieldAddr s x k,ty,ps,af,g⟩ (.pointer (some (a.add off))):=sE hx h.ok
theorem fC{a:Option Addr}{m c:Nat}{t e:TypeId}[h:UndC P t e](hx:ev f x= .slice a m c:=by first|rfl|assumption):EV P β L f ⟨d,.call ⟨.builtin .len,#[x],#[t]⟩,ty,ps,af,g⟩ (.int .i64 (m:Int)):=aIr hx h.ok
theorem eY{a:Addr}(hx:ev f x= .pointer (some a):=by first|rfl|assumption):EV P β L f ⟨d,.nilCheck x,ty,ps,af,g⟩ (.pointer (some a)):=aKr hx
theorem eU{t b o:Nat}{cs:Array Value}{T:TypeId}{fr:Nat×Nat}{k:IntKind}{a:Int}[h:TyC P t false 1](i0:Nat)(hx:ev f x= .pointer (some ⟨b,o,none⟩):=by first|rfl|assumption)(hi:L[i0]? =some (pt b (.cells cs T fr)):=by rfl)(hv:(cs.toList.drop o).take 1=[.int k a]:=by rfl):EV P β L f ⟨d,.load t x,ty,ps,af,g⟩ (.int k a):=bZ h.ok hx (dM i0 hi hv)
theorem olb{t b o:Nat}{cs:Array Value}{T:TypeId}{fr:Nat×Nat}{c:Bool}[h:TyC P t false 1](i0:Nat)(hx:ev f x= .pointer (some ⟨b,o,none⟩):=by first|rfl|assumption)(hi:L[i0]? =some (pt b (.cells cs T fr)):=by rfl)(hv:(cs.toList.drop o).take 1=[.bool c]:=by rfl):EV P β L f ⟨d,.load t x,ty,ps,af,g⟩ (.bool c):=bZ h.ok hx (dM i0 hi hv)
theorem gD{t b o:Nat}{cs:Array Value}{T:TypeId}{fr:Nat×Nat}{q:Option Addr}[h:TyC P t false 1](i0:Nat)(hx:ev f x= .pointer (some ⟨b,o,none⟩):=by first|rfl|assumption)(hi:L[i0]? =some (pt b (.cells cs T fr)):=by rfl)(hv:(cs.toList.drop o).take 1=[.pointer q]:=by rfl):EV P β L f ⟨d,.load t x,ty,ps,af,g⟩ (.pointer q):=bZ h.ok hx (dM i0 hi hv)
theorem fA{t b o:Nat}{cs:Array Value}{T:TypeId}{fr:Nat×Nat}{q:Option Addr}{i j:Nat}[h:TyC P t false 1](i0:Nat)(hx:ev f x= .pointer (some ⟨b,o,none⟩):=by first|rfl|assumption)(hi:L[i0]? =some (pt b (.cells cs T fr)):=by rfl)(hv:(cs.toList.drop o).take 1=[.slice q i j]:=by rfl):EV P β L f ⟨d,.load t x,ty,ps,af,g⟩ (.slice q i j):=bZ h.ok hx (dM i0 hi hv)
theorem dO{t b o:Nat}{cs:Array Value}{T:TypeId}{fr:Nat×Nat}{m:Nat}{us:List Value}[h:TyC P t true m](i0:Nat)(hx:ev f x= .pointer (some ⟨b,o,none⟩):=by first|rfl|assumption)(hi:L[i0]? =some (pt b (.cells cs T fr)):=by rfl)(hv:(cs.toList.drop o).take m=us:=by rfl)(hl:us.length=m:=by rfl):EV P β L f ⟨d,.load t x,ty,ps,af,g⟩ (.agg us.toArray):=aJq h.ok hx (dM i0 hi (by rw[hl];exact hv)) hl
theorem jI{t t':TypeId}{k:IntKind}{a b:Int}(hx:ev f x= .int k a:=by first|rfl|assumption)(hy:ev f y= .int k b:=by first|rfl|assumption):EV P β L f ⟨d,.binOp .lss t x y t',ty,ps,af,g⟩ (.bool (decide (a<b))):=aAv hx hy
theorem ole{t t':TypeId}{k:IntKind}{a b:Int}(hx:ev f x= .int k a:=by first|rfl|assumption)(hy:ev f y= .int k b:=by first|rfl|assumption):EV P β L f ⟨d,.binOp .leq t x y t',ty,ps,af,g⟩ (.bool (decide (a≤b))):=aIs hx hy
theorem qZ{t t':TypeId}{k:IntKind}{a b:Int}(hx:ev f x= .int k a:=by first|rfl|assumption)(hy:ev f y= .int k b:=by first|rfl|assumption):EV P β L f ⟨d,.binOp .gtr t x y t',ty,ps,af,g⟩ (.bool (decide (b<a))):=aIq hx hy
theorem oge{t t':TypeId}{k:IntKind}{a b:Int}(hx:ev f x= .int k a:=by first|rfl|assumption)(hy:ev f y= .int k b:=by first|rfl|assumption):EV P β L f ⟨d,.binOp .geq t x y t',ty,ps,af,g⟩ (.bool (decide (b≤a))):=aDz hx hy
theorem dR{t t':TypeId}{k:IntKind}{a b:Int}(hx:ev f x= .int k a:=by first|rfl|assumption)(hy:ev f y= .int k b:=by first|rfl|assumption):EV P β L f ⟨d,.binOp .eql t x y t',ty,ps,af,g⟩ (.bool (decide (a=b))):=sD hx hy
theorem gO{t t':TypeId}{k:IntKind}{a b:Int}(hx:ev f x= .int k a:=by first|rfl|assumption)(hy:ev f y= .int k b:=by first|rfl|assumption):EV P β L f ⟨d,.binOp .neq t x y t',ty,ps,af,g⟩ (.bool (decide (a≠b))):=aKq hx hy
theorem opl{t t':TypeId}{a b:Int}(hx:ev f x= .int .i64 a:=by first|rfl|assumption)(hy:ev f y= .int .i64 b:=by first|rfl|assumption)(h: -9223372036854775808≤a+b∧a+b≤9223372036854775807:=by omega):EV P β L f ⟨d,.binOp .add t x y t',ty,ps,af,g⟩ (.int .i64 (a+b)):=bJ hx hy (aHi h)
theorem omn{t t':TypeId}{a b:Int}(hx:ev f x= .int .i64 a:=by first|rfl|assumption)(hy:ev f y= .int .i64 b:=by first|rfl|assumption)(h: -9223372036854775808≤a-b∧a-b≤9223372036854775807:=by omega):EV P β L f ⟨d,.binOp .sub t x y t',ty,ps,af,g⟩ (.int .i64 (a-b)):=aIw hx hy (aHi h)
theorem xS{t t':TypeId}{a b:Nat}(hx:ev f x= .int .i64 (a:Int):=by rfl)(hy:ev f y= .int .i64 (b:Int):=by rfl)(h:a+b≤9223372036854775807:=by omega):EV P β L f ⟨d,.binOp .add t x y t',ty,ps,af,g⟩ (.int .i64 ((a+b:Nat):Int)):=bJ hx hy (bU (by omega) h)
theorem lI{t:Nat}{c:Bool}(hx:ev f x= .bool c:=by first|rfl|assumption):EV P β L f ⟨d,.unOp .not t x,ty,ps,af,g⟩ (.bool (!c)):=aIu hx
theorem ond{t:Nat}{p:Prop}[Decidable p](hx:ev f x= .bool (decide p):=by first|rfl|assumption):EV P β L f ⟨d,.unOp .not t x,ty,ps,af,g⟩ (.bool (decide ¬p)):=aHc hx
theorem kK{us':Array Value}{i':Nat}{k:IntKind}{a:Int}(hx:ev f x= .tuple us':=by first|rfl|assumption)(hv:us'[i']? =some (.int k a):=by rfl):EV P β L f ⟨d,.extract x i',ty,ps,af,g⟩ (.int k a):=mB hx hv
theorem xT{us':Array Value}{i':Nat}{c:Bool}(hx:ev f x= .tuple us':=by first|rfl|assumption)(hv:us'[i']? =some (.bool c):=by rfl):EV P β L f ⟨d,.extract x i',ty,ps,af,g⟩ (.bool c):=mB hx hv
theorem zU{us':Array Value}{i':Nat}{q:Option Addr}(hx:ev f x= .tuple us':=by first|rfl|assumption)(hv:us'[i']? =some (.pointer q):=by rfl):EV P β L f ⟨d,.extract x i',ty,ps,af,g⟩ (.pointer q):=mB hx hv
theorem oxs{us':Array Value}{i':Nat}{q:Option Addr}{i j:Nat}(hx:ev f x= .tuple us':=by first|rfl|assumption)(hv:us'[i']? =some (.slice q i j):=by rfl):EV P β L f ⟨d,.extract x i',ty,ps,af,g⟩ (.slice q i j):=mB hx hv
theorem mV{us':Array Value}{i':Nat}{vs:Array Value}(hx:ev f x= .tuple us':=by first|rfl|assumption)(hv:us'[i']? =some (.agg vs):=by rfl):EV P β L f ⟨d,.extract x i',ty,ps,af,g⟩ (.agg vs):=mB hx hv
end
section
variable {P:Program}{ro:Option Nat}{n:Nat}{ds:List Deferred}{β:Base}{Q:Exit→Act→World→Prop}{f:Fm}{L:List cE}{ops:Array Oper}{rest:List Oper}
variable {d:Nat}{op:Op}{ty:TypeId}{ps:String}{af:Array Edge}{v:Value}
theorem lE(h:EV P β L f ⟨some d,op,ty,ps,af,none⟩ v)(k:cQ P ro n ds β ops Q rest (fS f d v) L)(hn:Nat.blt d n=true:=by rfl):cQ P ro n ds β ops Q (⟨some d,op,ty,ps,af,none⟩::rest) f L:=cW rfl rfl hn h k
theorem qE(h:EV P β L f ⟨some d,op,ty,ps,af,none⟩ v)(k:jV P n ds β ops Q rest (fS f d v) L)(hn:Nat.blt d n=true:=by rfl):jV P n ds β ops Q (⟨some d,op,ty,ps,af,none⟩::rest) f L:=eV rfl rfl hn h k
theorem gE{j e:Nat}{b:Bool}(h:EV P β L f ⟨some d,op,ty,ps,af,some (j,b)⟩ v)(k:cQ P ro n ds β ops Q rest (fS f d v) L)(ho:(ops[j]?).bind (·.dst)=some e:=by rfl)(hf:f e= .bool b:=by rfl)(hn:Nat.blt d n=true:=by rfl):cQ P ro n ds β ops Q (⟨some d,op,ty,ps,af,some (j,b)⟩::rest) f L:=fN rfl ho hf rfl hn h k
theorem rE{j e:Nat}{b:Bool}(h:EV P β L f ⟨some d,op,ty,ps,af,some (j,b)⟩ v)(k:jV P n ds β ops Q rest (fS f d v) L)(ho:(ops[j]?).bind (·.dst)=some e:=by rfl)(hf:f e= .bool b:=by rfl)(hn:Nat.blt d n=true:=by rfl):jV P n ds β ops Q (⟨some d,op,ty,ps,af,some (j,b)⟩::rest) f L:=jB rfl ho hf rfl hn h k
theorem gU{d:Option Tmp}{c:Operand}{xs:List Operand}{ts:Array TypeId}{g:FuncId}{vs:List Value}[h:CfC P g](hx:ev f c= .func (.func g) #[] #[]:=by rfl)(ha:xs.map (ev f)=vs:=by rfl):CL P f ⟨d,.call ⟨.value c,xs.toArray,ts⟩,ty,ps,af,none⟩ g vs.toArray:=cY h.ok hx ha
theorem gW{g:FuncId}{args:Array Value}{u:Value}(he:CL P f ⟨some d,op,ty,ps,af,none⟩ g args)(hc:∀w β1,gR β.heap β1.heap→(∀F,aX β L F→F β1.heap)→St β1 [] w→Calls P g args w fun r w'=>r= .returned u∧St β1 [] w')(k:cQ P ro n ds β ops Q rest (fS f d u) L)(hn:Nat.blt d n=true:=by rfl):
  cQ P ro n ds β ops Q (⟨some d,op,ty,ps,af,none⟩::rest) f L:=jH he hn fun w β1 sb kn hw1 back=>(hc w β1 sb kn hw1).mono fun e w' ⟨h1,h2⟩=>⟨u,h1,L,back [] w' h2,k⟩
theorem kC{α:Type}(l:List α)(k:Nat)(h:k<l.length):∃x,l[k]? =some x:=⟨_,List.getElem?_eq_getElem h⟩
theorem fZ{t:Nat}{z:Value}[h:ZerC P t z](k:∀b:Nat,cQ P ro n ds β ops Q rest (fS f d (.pointer (some ⟨b,0,none⟩))) (pt b (.cells z.cells t)::L))(hn:Nat.blt d n=true:=by rfl):cQ P ro n ds β ops Q (⟨some d,.alloc t,ty,ps,af,none⟩::rest) f L:=
 cF rfl rfl hn (aHr h.ok) fun v L' ⟨b,h1,h2⟩=>by subst h1;subst h2;exact k b
theorem iU{j e:Nat}{b b':Bool}(k:cQ P ro n ds β ops Q rest (fS f d undef) L)(ho:(ops[j]?).bind (·.dst)=some e:=by rfl)(hf:f e= .bool b:=by rfl)(hb:(b==b')=false:=by rfl)(hn:Nat.blt d n=true:=by rfl):cQ P ro n ds β ops Q (⟨some d,op,ty,ps,af,some (j,b')⟩::rest) f L:=eB rfl ho hf hb rfl hn k
theorem qsE{j e:Nat}{b b':Bool}(k:jV P n ds β ops Q rest (fS f d undef) L)(ho:(ops[j]?).bind (·.dst)=some e:=by rfl)(hf:f e= .bool b:=by rfl)(hb:(b==b')=false:=by rfl)(hn:Nat.blt d n=true:=by rfl):jV P n ds β ops Q (⟨some d,op,ty,ps,af,some (j,b')⟩::rest) f L:=aKd rfl ho hf hb rfl hn k
theorem bK{M:List cE}{k:Fm→Prop}{out:Fm→List cE}(h:EV P β L f ⟨some d,op,ty,ps,af,none⟩ v)(hk:k (fS f d v):=by rfl)(hp:L.Perm (out (fS f d v)++M):=by first|exact List.Perm.refl _|exact aB 0 rfl)(hn:Nat.blt d n=true:=by rfl):
  cQ P ro n ds β ops (Qn (pC n ds β (some d) k f out M)) [⟨some d,op,ty,ps,af,none⟩] f L:=obv rfl hk h hp rfl hn
theorem nG{M:List cE}{j e:Nat}{b:Bool}{k:Fm→Prop}{out:Fm→List cE}(h:EV P β L f ⟨some d,op,ty,ps,af,some (j,b)⟩ v)(ho:(ops[j]?).bind (·.dst)=some e:=by rfl)(hf:f e= .bool b:=by first|rfl|assumption)(hk:k (fS f d v):=by rfl)(hp:L.Perm (out (fS f d v)++M):=by first|exact List.Perm.refl _|exact aB 0 rfl)(hn:Nat.blt d n=true:=by rfl):
  cQ P ro n ds β ops (Qn (pC n ds β (some d) k f out M)) [⟨some d,op,ty,ps,af,some (j,b)⟩] f L:=sX rfl h ho hf hn hk hp rfl
theorem bxp{t:Nat}{x:Operand}{q:Option Addr}(k':∀b0:Nat,cQ P ro n ds β ops Q rest (fS f d (.pointer (some ⟨b0,0,none⟩))) (pt b0 (.cells (Value.cells (.pointer q)) t)::L))(hx:ev f x= .pointer q:=by rfl)(hn:Nat.blt d n=true:=by rfl):cQ P ro n ds β ops Q (⟨some d,.box t x,ty,ps,af,none⟩::rest) f L:=
 cF rfl rfl hn (vO hx) fun v L' ⟨b0,h1,h2⟩=>by subst h1;subst h2;exact k' b0
theorem bxs{t:Nat}{x:Operand}{q:Option Addr}{i j:Nat}(k':∀b0:Nat,cQ P ro n ds β ops Q rest (fS f d (.pointer (some ⟨b0,0,none⟩))) (pt b0 (.cells (Value.cells (.slice q i j)) t)::L))(hx:ev f x= .slice q i j:=by rfl)(hn:Nat.blt d n=true:=by rfl):cQ P ro n ds β ops Q (⟨some d,.box t x,ty,ps,af,none⟩::rest) f L:=
 cF rfl rfl hn (vO hx) fun v L' ⟨b0,h1,h2⟩=>by subst h1;subst h2;exact k' b0
theorem pD{t:Nat}{x:Operand}{vs:Array Value}(k':∀b0:Nat,cQ P ro n ds β ops Q rest (fS f d (.pointer (some ⟨b0,0,none⟩))) (pt b0 (.cells (Value.cells (.agg vs)) t)::L))(hx:ev f x= .agg vs:=by rfl)(hn:Nat.blt d n=true:=by rfl):cQ P ro n ds β ops Q (⟨some d,.box t x,ty,ps,af,none⟩::rest) f L:=
 cF rfl rfl hn (vO hx) fun v L' ⟨b0,h1,h2⟩=>by subst h1;subst h2;exact k' b0
end
section
variable {P:Program}{ro:Option Nat}{n:Nat}{ds:List Deferred}{β:Base}{Q:Exit→Act→World→Prop}
end
section
variable {P:Program}{β:Base}{f:Fm}{L:List cE}{d:Option Tmp}{ty:TypeId}{ps:String}{af:Array Edge}{g:Option (Nat×Bool)}{x y:Operand}
theorem rN{t e n k len cap:Nat}{a:Option Addr}(ht:nB P t e n=true)(ha:a=some (ba a))(hx:ev f x= .slice a len cap:=by first|rfl|assumption)(hy:ev f y= .int .i64 (k:Int):=by first|rfl|assumption)(hk:k<len:=by omega):EV P β L f ⟨d,.indexAddr t x y,ty,ps,af,g⟩ (.pointer (some ((ba a).add (k*n)))):=nR hx hy ht hk ha
theorem mS{t T n b o:Nat}{ag:Bool}{cs:Array Value}(i:Nat)(cs':Array Value)[h:TyC P t ag n]{v:Value}(hx:ev f x= .pointer (some ⟨b,o,none⟩):=by rfl)(hi:L[i]? =some (pt b (.cells cs T)):=by rfl)
 (hy:ev f y=v:=by rfl)(hn:v.cells.size=n:=by rfl)(hfit:Nat.ble (o+n) cs.size=true:=by rfl)(h1:v.cells.toList.all (·.oneCell')=true:=by rfl)(hc:over cs o v.cells.toList=cs':=by rfl):
 MU P β L f ⟨d,.store t x y,ty,ps,af,g⟩ (L.set i (pt b (.cells cs' T))):=bS i h.ok hx hi hy hn hfit h1 hc
end
abbrev sv(d:Nat)(v:Value)(a n i:List Nat):Sp:=⟨a,n,i,[d],fun f=>f d=v⟩
abbrev tk(r:cE)(b:List Nat):Tok:=⟨none,none,b,[],fun _=>r⟩
section
variable {P:Program}{ro:Option Nat}{n:Nat}{ds:List Deferred}{β:Base}{Q:Exit→Act→World→Prop}
end
theorem dG{P:Program}{ro:Option Nat}{n:Nat}{ds:List Deferred}{β:Base}{Q:Exit→Act→World→Prop}{f:Fm}{L:List cE}{c:Code}(d:Nat){v:Value}(h:f d=v)(k:dE P ro n ds β c Q (fS f d v) L):dE P ro n ds β c Q f L:=eZ h k
abbrev kH(P:Program)(g:FuncId)(a:Array Value)(β:Base)(w:World)(x:Value):Prop:=Calls P g a w fun r w'=>r= .returned x∧St β [] w'
theorem aJm{i:Nat}{s:List Nat}{f:Fm}:cut (i::s) f i=f i:=by simp[cut,hZ]
theorem aJn{i a:Nat}{s:List Nat}{f:Fm}:cut (a::i::s) f i=f i:=by simp[cut,hZ]
theorem aJo{i a b:Nat}{s:List Nat}{f:Fm}:cut (a::b::i::s) f i=f i:=by simp[cut,hZ]
theorem aJp{i a b c:Nat}{s:List Nat}{f:Fm}:cut (a::b::c::i::s) f i=f i:=by simp[cut,hZ]
theorem lt0:mD []=[]:=rfl
theorem lt1{p:Option Nat}{b s:List Nat}{r:Fm→cE}{l:List Tok}:mD (⟨p,none,b,s,r⟩::l)=⟨p,none,b,s,r⟩::mD l:=rfl
theorem lt2{p:Option Nat}{c:Nat}{b s:List Nat}{r:Fm→cE}{l:List Tok}:mD (⟨p,some c,b,s,r⟩::l)=mD l:=rfl
theorem rs0{f:Fm}:rs [] f=[]:=rfl
theorem rs1{p c:Option Nat}{b s:List Nat}{r:Fm→cE}{l:List Tok}{f:Fm}:rs (⟨p,c,b,s,r⟩::l) f=r (cut s f)::rs l f:=rfl
theorem mm0{i:Nat}:hZ i []=false:=rfl
theorem mm1{i:Nat}{l:List Nat}:hZ i (i::l)=true:=by simp[hZ]
theorem mm2{i a:Nat}{l:List Nat}(h:i≠a):hZ i (a::l)=hZ i l:=by simp[hZ,h]
theorem us0{i:Nat}:nC [] i=[]:=rfl
theorem us1{i:Nat}{p c:Option Nat}{b s:List Nat}{r:Fm→cE}{l:List Tok}(h:hZ i b=true):nC (⟨p,c,b,s,r⟩::l) i=⟨p,c,b,s,r⟩::nC l i:=by unfold nC;rw[List.filter_cons,if_pos h]
theorem us2{i:Nat}{p c:Option Nat}{b s:List Nat}{r:Fm→cE}{l:List Tok}(h:hZ i b=false):nC (⟨p,c,b,s,r⟩::l) i=nC l i:=by unfold nC;rw[List.filter_cons,if_neg (by simp[h])]
abbrev u0:Option Nat×List Nat:=(none,[])
abbrev u1(b:List Nat):Option Nat×List Nat:=(none,b)
def tkz:List cE→List (Option Nat×List Nat)→List Tok
 |[],_=>[]
 |r::l,[]=>⟨none,none,[],[],fun _=>r⟩::tkz l []
 |r::l,(c,b)::u=>⟨none,c,b,[],fun _=>r⟩::tkz l u
theorem tz0{u:List (Option Nat×List Nat)}:tkz [] u=[]:=by unfold tkz;rfl
theorem tz1{r:cE}{l:List cE}:tkz (r::l) []=⟨none,none,[],[],fun _=>r⟩::tkz l []:=rfl
theorem tz2{r:cE}{l:List cE}{c:Option Nat}{b:List Nat}{u:List (Option Nat×List Nat)}:tkz (r::l) ((c,b)::u)=⟨none,c,b,[],fun _=>r⟩::tkz l u:=rfl
theorem aGl(f:Fm):∀(L:List cE) (u:List (Option Nat×List Nat)),rs (lT (tkz L u)) f=L
 |[],u=>by rw[tz0];rfl
 |r::l,[]=>congrArg (r:: ·) (aGl f l [])
 |r::l,(c,b)::u=>congrArg (r:: ·) (aGl f l u)
theorem aKh{new:List Tok}(h:new.all (fun t=>t.prod.isSome)=true)(L:List cE)(u:List (Option Nat×List Nat))(f:Fm):L=rs (lT (tkz L u++new)) f++[]:=by
 have h2:lT new=[]:=by
  unfold lT
  rw[List.filter_eq_nil_iff]
  intro t ht
  have:=List.all_eq_true.1 h t ht
  cases hp:t.prod with
  |none=>rw[hp]at this;cases this
  |some _=>simp
 rw[List.append_nil]
 unfold lT at h2⊢
 rw[List.filter_append,h2,List.append_nil]
 exact(aGl f L u).symm
section
variable {P:Program}{ro:Option Nat}{n:Nat}{ds:List Deferred}{β:Base}{Q:Exit→Act→World→Prop}{f g:Fm}{L L':List cE}{ops:Array Oper}{rest:List Oper}
theorem rL{e:Exit}(k:iN n ds β Q e f L')(hL:L=L':=by first|(simp only[lt0,lt1,lt2,rs0,rs1,aJm,aJn,aJo,aJp,List.cons_append,List.nil_append,List.append_nil]<;>rfl)|rfl):iN n ds β Q e f L:=qD hL k
theorem lre(k:cQ P ro n ds β ops Q rest f L')(hL:L=L':=by first|(simp only[lt0,lt1,lt2,rs0,rs1,aJm,aJn,aJo,aJp,List.cons_append,List.nil_append,List.append_nil]<;>rfl)|rfl):cQ P ro n ds β ops Q rest f L:=pR hL k
theorem fpn{e:Exit}(ix:List Nat)(m:Nat)(k:iN n ds β Q e f L')(hL:ix.filterMap (L[·]?)=L':=by simp only[List.set_cons_zero,List.set_cons_succ,List.filterMap_cons,List.filterMap_nil,List.getElem?_cons_zero,List.getElem?_cons_succ]<;>rfl)(hm:L.length=m:=by rfl)(h:(List.range m).isPerm ix=true:=by kernel_rfl):iN n ds β Q e f L:=aAa (bN ix m hm h hL) k
theorem fF(e:g=f)(k:cQ P ro n ds β ops Q rest g L')(hL:L=L':=by first|(simp only[us0,us1,us2,mm0,mm1,mm2,ne_eq,Nat.reduceAdd,Nat.reduceEqDiff,not_false_eq_true,rs0,rs1,aJm,aJn,aJo,aJp,List.cons_append,List.nil_append]<;>rfl)|rfl):cQ P ro n ds β ops Q rest f L:=bC hL e k
theorem rF{id:Nat}{ops:List Oper}{toks:List Tok}(sps:List Sp)(us:List (Option Nat×List Nat))(new:List Tok)(ini:List (Nat×Value))(fin:List Nat)(hi:rZ f ini)(ho:Obs P ro n ds β ops sps toks ini ops 0)
 (hQ:∀f',KEv sps f' sps→nH ini fin f'→iN n ds β Q .normal f' (rs (mD toks) f'++[]))(hL:L=L':=by first|(simp only[List.set_cons_zero,List.set_cons_succ]<;>rfl)|rfl)
 (hT:tkz L' us++new=toks:=by simp only[tz0,tz1,tz2,List.cons_append,List.nil_append,List.append_nil]<;>rfl)(hm:P.follows .mixedOrders=true:=by kernel_rfl)
 (h1:nP ops sps ini=true:=by kernel_rfl)(h2:toks.all (kZ ops sps)=true:=by kernel_rfl)(hf:fin.all (sJ ops ini)=true:=by kernel_rfl)(hn:new.all (fun t=>t.prod.isSome)=true:=by kernel_rfl):
  dE P ro n ds β (.region id ops.toArray true) Q f L:=by
 subst hL;subst hT
 exact mZ sps _ ini fin [] hm h1 h2 hf (aKh hn _ _ _) hi ho hQ
end
section
variable {P:Program}{n:Nat}{ds:List Deferred}{β:Base}{Q:Exit→Act→World→Prop}{f:Fm}{L:List cE}{ops:Array Oper}{rest:List Oper}
variable {d:Option Tmp}{ty:TypeId}{ps:String}{af:Array Edge}{g:Option (Nat×Bool)}
theorem aJs{g:FuncId}{fn:Func}{c:Code}{args:Array Value}{w:World}{R:Ending→World→Prop}(hf:P.funcs[g]? =some fn)(hb:fn.body=some c)(hn:fn.ntmps=n)(hs:Nat.ble args.size n=true)
 (h:dE P none n [] β c (bodyPostD P fn R) (pJ args) L)(hw:St β L w):Calls P g args w R:=by
 refine calls_of_wp_defers hf hb (wpIn_wide.1 (h _ w ⟨rfl,?_,fun i=> ?_⟩ hw))
 ·rw[hn]
  have:args.size≤n:=by simpa using hs
  simp;omega
 ·simp only[pJ,Array.getD_eq_getD_getElem?]
  by_cases hi:i<args.size
  ·rw[Array.getElem?_append_left hi]
  ·rw[Array.getElem?_append_right (by omega),Array.getElem?_eq_none (by omega:args.size≤i)]
   by_cases hj:i-args.size<fn.ntmps-args.size
   ·simp[hj]
   ·simp[hj]
theorem aHm{o:Oper}{dd:Deferred}(hg:o.guard=none)(hd:o.dst=none)(he:∀w,(execOp (ev f) o).run P w= .ok (.defer dd) w)(k:cQ P none n (dd::ds) β ops Q rest f L):cQ P none n ds β ops Q (o::rest) f L:=by
 refine nT hg fun a w ha hw=>⟨fun _ _=>trivial,?_⟩
 rw[ha.eval,show(Fe none).round=none from rfl,Oper.semAt_none,he w,Oper.uponIn_defer,hd]
 exact k _ w ⟨by show dd::a.defers=_;rw[ha.defers],ha.size,ha.get⟩ hw
theorem zQ{id:Nat}{o0 o1:Oper}{a:Act}{cs:List Frame}{w:World}{QS:Exit→Act→List Frame→World→Prop}{d0 d1:Nat}{v:Value}{cs':List Frame}(ha:At n ds f a)(h0:o0.guard=none)(h1:o1.guard=none)
 (r0:(execOp (ev f) o0).run P w= .ok .recover w)(hd0:o0.dst=some d0)(b0:Nat.blt d0 n=true)(hv:(execOp (ev (fS f d0 v)) o1).run P w= .ok (.value v) w)(hd1:o1.dst=some d1)(b1:Nat.blt d1 n=true)
 (hrec:recoverD cs=some (v,cs')∨recoverD cs=none∧v= .nilIface∧cs'=cs)(k:∀a',At n ds (fS (fS f d0 v) d1 v) a'→QS .normal a' cs' w):(Code.region id #[o0,o1] false).wpS P QS a cs w:=by
 have ha1:=ha.put b0 v
 have step1:∀cs,wpOpsS P #[o0,o1] QS [1] (a.put (some d0) v) cs w=QS .normal ((a.put (some d0) v).put (some d1) v) cs w:=fun cs=>by
  simp only[wpOpsS]
  have hw1:Region.wanted o1 (yielded #[o0,o1] (a.put (some d0) v).tmps)=true:=by simp[Region.wanted,h1]
  simp only[List.getElem?_toArray,List.getElem?_cons_succ,List.getElem?_cons_zero,hw1,if_true]
  rw[ha1.eval,hv]
  simp only[Oper.upon,hd1]
 refine wpS_region ?_
 show wpOpsS P #[o0,o1] QS [0,1] a cs w
 rw[wpOpsS]
 have hw0:Region.wanted o0 (yielded #[o0,o1] a.tmps)=true:=by simp[Region.wanted,h0]
 simp only[List.getElem?_toArray,List.getElem?_cons_zero,hw0,if_true]
 rw[ha.eval,r0]
 rcases hrec with h|⟨h,rfl,rfl⟩
 ·simp only[h,hd0]
  rw[step1]
  exact k _ (ha1.put b1 v)
 ·simp only[h,hd0]
  rw[step1]
  exact k _ (ha1.put b1 _)
theorem aBv{c:Code}{a:Act}{cs:List Frame}{w:World}{QS:Exit→Act→List Frame→World→Prop}(h:dE P none n ds β c (fun e a w=>QS e a cs w) f L)(ha:At n ds f a)(hw:St β L w):c.wpS P QS a cs w:=wpS_of_wp (wpIn_wide.1 (h a w ha hw))
theorem aKs{fn:Func}{c₀:Frame}{cs:List Frame}{R:Ending→FrameMode→World→Prop}{u':FrameMode}(hr:fn.results= #[])(h:∀w,St β L w→R (.returned (.tuple #[])) u' w):
  iN n [] β (fun e a w=>bodyPostS P fn c₀ cs R e a ({c₀ with mode:=u'}::cs) w) .normal f L:=fun a w ha hw=>
 ⟨ha.defers,u',rfl,_,results_none hr _ _ _,h w hw⟩
theorem aCg{t u:TypeId}{x:Operand}{v:Value}(hx:ev f x= .iface u v)(hu:aEk P u=true):EV P β L f ⟨d,.typeAssert x t u true,ty,ps,af,g⟩ (.tuple #[v,.bool true]):=fun w _=>by
 unfold aEk at hu
 cases hh:P.underlying u with
 |none=>rw[hh]at hu;cases hu
 |some dd=>
  rw[hh]at hu
  cases dd<;>simp_all [execOp,Instr.typeAssert,run_underlying hh]
def ifB(P:Program)(t:TypeId):Bool:=match P.underlying t with|some (.interface _)=>true|_=>false
theorem aAz{t:TypeId}(h:ifB P t=true):∃ms,P.underlying t=some (.interface ms):=by
 unfold ifB at h
 cases hh:P.underlying t with
 |none=>rw[hh]at h;cases h
 |some dd=>rw[hh]at h;cases dd<;>simp_all
theorem aEa{t t':TypeId}{x:Operand}{u:TypeId}{v:Value}(ht:ifB P t=true)(hx:ev f x= .iface u v):EV P β L f ⟨d,.binOp .neq t x (.const .nilIface) t',ty,ps,af,g⟩ (.bool true):=fun w _=>by
 obtain⟨ms,hu⟩:=aAz ht
 have h1:(binOp .neq t (.iface u v) .nilIface).run P w= .ok (.bool true) w:=by
  have h2:(Op.equal t (.iface u v) .nilIface).run P w= .ok false w:=by
   have h3:∀d,(Op.equalIn (d+1) t (.iface u v) .nilIface).run P w= .ok false w:=fun d=>by simp[Op.equalIn,run_underlying hu]
   exact h3 9999
  simp only[binOp]
  simp[h2]
 have h0:eqGuard .neq t x (.const .nilIface) (.iface u v) .nilIface=pure ():=rfl
 have hy:ev f (.const .nilIface)= .nilIface:=rfl
 simp only[execOp,hx,hy,h0]
 simp[h1]
theorem aCf{t t':TypeId}{x:Operand}(ht:ifB P t=true)(hx:ev f x= .nilIface):EV P β L f ⟨d,.binOp .neq t x (.const .nilIface) t',ty,ps,af,g⟩ (.bool false):=fun w _=>by
 obtain⟨ms,hu⟩:=aAz ht
 have h1:(binOp .neq t .nilIface .nilIface).run P w= .ok (.bool false) w:=by
  have h2:(Op.equal t .nilIface .nilIface).run P w= .ok true w:=by
   have h3:∀d,(Op.equalIn (d+1) t .nilIface .nilIface).run P w= .ok true w:=fun d=>by simp[Op.equalIn,run_underlying hu]
   exact h3 9999
  simp only[binOp]
  simp[h2]
 have h0:eqGuard .neq t x (.const .nilIface) .nilIface .nilIface=pure ():=eqGuard_nil_constR _ _ _ _
 have hy:ev f (.const .nilIface)= .nilIface:=rfl
 simp only[execOp,hx,hy,h0]
 simp[h1]
end
end Go.Sl
namespace Go.Jn
open Go Go.Sl
end Go.Jn
namespace Go.Sl
open Go
section
variable {P:Program}{β:Base}{L:List cE}{f:Fm}{d:Option Tmp}{ty:TypeId}{ps:String}{af:Array Edge}{g:Option (Nat×Bool)}
end
open Go
section
variable {P:Program}{β:Base}{L:List cE}{f:Fm}
variable {d:Option Tmp}{ty:TypeId}{ps:String}{af:Array Edge}{g:Option (Nat×Bool)}
theorem mU{x y:Operand}{t e c:Nat}{zs:List UInt8}(hzs:zs=List.replicate c 0)(hsl:nB P t e 1=true)(hel:zS P e 1 1=true)(hz:(P.info? e).bind (·.zero)=some (.int .u8 0))(hx:ev f x= .int .i64 (c:Int))(hy:ev f y= .int .i64 (c:Int))(h0:0<c)(hc:c≤140737488355328):
  MV P β L f ⟨d,.makeSlice t x y,ty,ps,af,g⟩ (fun u L'=>∃b,u= .slice (some ⟨b,0,none⟩) zs.length c∧L'=row (.slice (some ⟨b,0,none⟩) zs.length c) e 1 zs.length (BX zs)::L):=by
 subst hzs
 exact oM hsl hel hz hx hy h0 hc
end
open Go
section
variable {P:Program}{ro:Option Nat}{n:Nat}{ds:List Deferred}{β:Base}{Q:Exit→Act→World→Prop}{f:Fm}{L:List cE}{ops:Array Oper}{rest:List Oper}
variable {d:Option Tmp}{ty:TypeId}{ps:String}{af:Array Edge}{g:Option (Nat×Bool)}
theorem aKp{x:Operand}{a:Option Addr}{n c:Nat}{t e:TypeId}(hx:ev f x= .slice a n c)(ht:P.underlying t=some (.slice e)):EV P β L f ⟨d,.call ⟨.builtin .cap,#[x],#[t]⟩,ty,ps,af,g⟩ (.int .i64 (c:Int)):=fun w _=>by
 simp[execOp,resolve,invoke,builtin,hx,Builtin.cap_,goInt,run_underlying ht]
theorem aFw{us:List Value}{v:Value}{h:bR}(hs:tL us h)(hv:v∈us):∃a m c,v= .slice a m c∧m≤c∧c≤maxLen∧(0<c→a=some (ba a)):=by
 rcases hs v hv with rfl|⟨g,m,c,cur,rfl,_,h1,h2,_⟩
 ·exact⟨none,0,0,rfl,Nat.le_refl _,by unfold maxLen;omega,fun h=>by omega⟩
 ·exact⟨_,m,c,rfl,h1,h2,fun _=>rfl⟩
theorem xI{p:Option Addr}{q m c:Nat}{vs:List Value}{h:bR}(hr:row (.slice p m c) 5 1 m vs h)(hq:q≤m):tL [.slice p q c] h:=fun u hu=>by
 simp only[List.mem_singleton]at hu
 subst hu
 obtain⟨_,⟨e,h0⟩|⟨g,cap,cur,e,hg,h1,h2,h3,_⟩⟩:=hr
 ·injection e with e1 e2 e3
  subst e1;subst e3
  rw[show q=0 by omega];exact .inl rfl
 ·injection e with e1 e2 e3
  subst e1;subst e3
  exact .inr ⟨g,q,c,cur,rfl,hg,by omega,h2,by omega⟩
theorem aIg(cur:Array Value)(j:Nat)(v:Value)(hj:j<cur.size):(over cur j [v]).size=cur.size:=by simp[over];omega
theorem aAc{x y:Operand}{t j m c:Nat}{a:Option Addr}{us:List Value}{b:UInt8}(i:Nat)(ht:tyB P t false 1=true)(hx:ev f x= .pointer (some ((ba a).add (j*1))))(hy:ev f y=Bx b)
 (hi:L[i]? =some (tL us))(hv:(.slice a m c:Value)∈us)(hj:j<c):MU P β L f ⟨d,.store t x y,ty,ps,af,g⟩ L:=fun w hw=>by
 rw[Nat.mul_one]at hx
 have hex:tL us (ph w):=hw.knows (aX.of_res i hi (tL.mono us) fun _ h=>h)
 rcases hex _ hv with e|⟨b',m',c',cur,e,hbw,h2,h3,h4⟩
 ·injection e with _ _ e3;omega
 ·injection e with e1 e2 e3
  subst e1;subst e2;subst e3
  have hbw:w.heap[b']? =some (.cells cur 5 (0,0)):=hbw
  have hs:=(tyF ht).size w
  obtain⟨v,hv0⟩:∃v:Value,v=Bx b:=⟨_,rfl⟩
  rw[←hv0]at hy
  have hn:v.cells.size=1:=by rw[hv0];rfl
  have h1:v.cells.toList.all (·.oneCell')=true:=by rw[hv0];rfl
  have hvl:v.cells.toList=[Bx b]:=by rw[hv0];rfl
  have hst:=run_storeCells_at P b' j 5 v.cells.toList 0 cur w hbw (by simp[hn];omega) (List.all_eq_true.1 h1)
  simp only[Nat.add_zero]at hst
  have hadd:(ba (some (⟨b',0,none⟩:Addr))).add j=⟨b',j,none⟩:=by unfold ba Addr.add;split<;>simp_all
  rw[hadd]at hx
  refine⟨w.setRow b' (over cur j v.cells.toList),?_,?_⟩
  ·simp only[execOp,hx,hy,Instr.storeAt,Instr.sureAddr,Sem.run_bind,Sem.run_pure,Result.andThen_ok,storeVar,hs,hn,ne_eq,not_true_eq_false,if_false,hst,over]
  rw[hvl]
  ·have hLs:L.set i (tL us)=L:=by
    obtain⟨hlt,he⟩:=List.getElem?_eq_some_iff.1 hi
    rw[←he,List.set_getElem_self]
   rw[←hLs]
   refine St.back i hi ((hw.front i hi).turn rfl rfl rfl fun p hp hr=> ?_)
   have hpb:p b'=some (.cells cur 5 (0,0)):=by
    rcases hr _ hv with e|⟨g',m'',c'',cur',e,hg',_,_,_⟩
    ·injection e with e0 _ _;cases e0
    ·injection e with e0 _ _;injection e0 with e0;injection e0 with e0 _ _
     subst e0
     have:=hp _ _ hg'
     have this:w.heap[b']? =_:=this
     rw[hbw]at this
     rw[this];exact hg'
   refine⟨fun k=>if k=b' then some (.cells (over cur j [Bx b]) 5 (0,0))else p k,fun u hu=> ?_,?_,?_⟩
   ·rcases hr u hu with rfl|⟨g',m'',c'',cur',rfl,hg',k1,k2,k3⟩
    ·exact .inl rfl
    ·by_cases e:g'=b'
     ·subst e
      rw[hpb]at hg'
      injection hg' with hg';injection hg' with hg'
      subst hg'
      exact .inr ⟨g',m'',c'',_,rfl,by simp,k1,k2,(aIg cur j (Bx b) (by omega)).trans k3⟩
     ·exact .inr ⟨g',m'',c'',cur',rfl,by simp[e,hg'],k1,k2,k3⟩
   ·intro k' z hz
    by_cases e:k'=b'
    ·subst e;simp at hz;subst hz;exact setRow_heap w k' cur _ 5 _ hbw
    ·simp only[if_neg e]at hz
     have h8:=hp _ _ hz
     show(w.setRow b' _).heap[k']? =_
     rw[setRow_other w b' k' _ e];exact h8
   ·intro k' hlt hak
    have hne:k'≠b':=by rintro rfl;rw[hpb]at hak;cases hak
    exact⟨by simp[hne,hak],setRow_other w b' k' _ hne⟩
theorem aLq{us:List Value}{k:Nat}{u:Value}(h:us[k]? =some u):(us.drop (k*1)).take [u].length=[u]:=by
 obtain⟨hlt,he⟩:=List.getElem?_eq_some_iff.1 h
 rw[Nat.mul_one,List.drop_eq_getElem_cons hlt]
 simp[he]
end
section
variable {H:Type}{enc:TypeId×Value→H}{P:Program}{w:World}{base:Nat}{spare:Nat→Bool}{held:Bool}
end
end Go.Sl
namespace Go.Proofs
open Go Go.Sl Go.Jn
open Go.ChangeShapes Go.ChangeAt Go.RowKit
theorem c5:Try.prog.cellsOf 5=1:=by kernel_rfl
theorem c34:Try.prog.cellsOf 34=1:=by kernel_rfl
end Go.Proofs
