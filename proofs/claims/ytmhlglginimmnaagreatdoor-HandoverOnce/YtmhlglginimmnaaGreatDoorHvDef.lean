/-
  Own work; plain Lean (SlJn, DgBase, SlByte, SlRf, SlFlat, HvDef).
-/
import Derived.Test.YtmhlglginimmnaaGreatDoorSlFam
import Derived.Recover
import Derived.Laws.Pointers
import Derived.Laws.Cover3
set_option linter.all false
namespace Go.Sl
section
variable {P:Program}{ro:Option Nat}{n:Nat}{ds:List Deferred}{β:Base}{Q:Exit→Act→World→Prop}{f:Fm}{L:List Res}{ops:Array Oper}{rest:List Oper}
variable {d:Option Tmp}{ty:TypeId}{ps:String}{af:Array Edge}{g:Option (Nat×Bool)}
theorem s_callP{o:Oper}{d:Nat}{g:FuncId}{args:Array Value}(hd:o.dst=some d)(hn:Nat.blt d n=true)
 (he:∀w,(execOp (ev f) o).run P w= .ok (.enter g args) w)
 (hc:∀w,St β L w→Calls P g args w fun e w'=>(∃ch,e= .panicked ch∧∃L',St β L' w'∧Fin n ds β Q (.panic ch) f L')∨(∃v,e= .returned v∧∃L',St β L' w'∧RunL P ro n ds β ops Q rest (upd f d v) L')):
  Step1 P ro n ds β o Q (wpListIn (Fe ro) 3 P ops Q rest) f L:=by
 intro a w ha hw
 refine⟨fun _ _=>trivial,?_⟩
 rw[ha.eval,semAt_of (he w) (by simp),he w,Oper.uponIn_enter,hd]
 refine⟨fun h=>by simp[Fe]at h,CallsIn.mono (callsIn_fe.2 (hc w hw)) ?_⟩
 rintro e w' (⟨ch,rfl,L',hw',k⟩|⟨v,rfl,L',hw',k⟩)
 ·exact k _ w' ha hw'
 ·exact k _ w' (ha.put hn v) hw'
theorem l_callP{o:Oper}{d:Nat}{g:FuncId}{args:Array Value}(hgd:o.guard=none)(hd:o.dst=some d)(hn:Nat.blt d n=true)(he:CL P f o g args)
 (hc:∀w,St β L w→Calls P g args w fun e w'=>(∃ch,e= .panicked ch∧∃L',St β L' w'∧Fin n ds β Q (.panic ch) f L')∨(∃v,e= .returned v∧∃L',St β L' w'∧RunL P ro n ds β ops Q rest (upd f d v) L')):RunL P ro n ds β ops Q (o::rest) f L:=
 l_step hgd (s_callP hd hn he hc)
theorem l_panic{x:Operand}{t:TypeId}{v:Value}(hx:ev f x= .iface t v)(k:Fin n ds β Q (.panic [{v:= .iface t v,recovered:=false}]) f L):RunL P ro n ds β ops Q (⟨d,.panic x,ty,ps,af,none⟩::rest) f L:=by
 refine l_step rfl fun a w ha hw=>⟨fun _ _=>trivial,?_⟩
 have hr:(execOp (ev f) ⟨d,.panic x,ty,ps,af,none⟩).run P w= .halt (.panic (.iface t v)) w:=by simp[execOp,hx,Instr.panic]
 have hs:(Oper.semAt ro (ev f) ⟨d,.panic x,ty,ps,af,none⟩)=execOp (ev f) ⟨d,.panic x,ty,ps,af,none⟩:=Oper.semAt_eq ro _ _ fun c hc=>by cases hc
 rw[ha.eval,show(Fe ro).round=ro from rfl,hs,hr,Oper.uponIn_panic]
 exact k a w ha hw
theorem f_then_panic{K:Act→World→Prop}{ch:List PanicEntry}(h:Fin n ds β Q (.panic ch) f L):Fin n ds β (Exit.then K Q) (.panic ch) f L:=h
theorem f_block_panic{id:Nat}{ch:List PanicEntry}(h:Fin n ds β Q (.panic ch) f L):Fin n ds β (Exit.inBlock id Q) (.panic ch) f L:=h
theorem panR{fn:Func}{R:Ending→World→Prop}{ch:List PanicEntry}(h:∀w,St β L w→R (.panicked ch) w):Fin n [] β (bodyPost P fn R) (.panic ch) f L:=
 fun _ w ha hw=>⟨ha.defers,h w hw⟩
def Pr(φ:Prop):Res:=fun _=>φ
theorem St.pr{φ:Prop}{w:World}(hφ:φ)(h:St β L w):St β (Pr φ::L) w:=h.emp hφ
theorem St.unbun{M:List Res}{w:World}(h:St β (Sat L::M) w):St β (L++M) w:=by
 obtain⟨ho,ht,hp,a,hd,hs,hs',hL⟩:=h
 exact⟨ho,ht,hp,a,hd,hs,hs',Sat.append.2 hL⟩
theorem St.ex{α:Type}{r:α→Res}{M:List Res}{w:World}(h:St β ((fun a=>∃x,r x a)::M) w):∃x,St β (r x::M) w:=by
 obtain⟨ho,ht,hp,a,hd,hs,hs',p,q,h1,h2,h3,⟨x,hx⟩,h5⟩:=h
 exact⟨x,ho,ht,hp,a,hd,hs,hs',p,q,h1,h2,h3,hx,h5⟩
theorem c_conseq{c:Code}{r r':Res}(i:Nat)(hi:L[i]? =some r)(hr:∀a,r a→r' a)(k:RunC P ro n ds β c Q f (L.set i r')):RunC P ro n ds β c Q f L:=fun a w ha hw=>k a w ha (hw.conseq_at i hi hr)
theorem f_conseq{e:Exit}{r r':Res}(i:Nat)(hi:L[i]? =some r)(hr:∀a,r a→r' a)(k:Fin n ds β Q e f (L.set i r')):Fin n ds β Q e f L:=fun a w ha hw=>k a w ha (hw.conseq_at i hi hr)
theorem e_eql_pnil{t t':TypeId}{x y:Operand}{p:Option Addr}(hx:ev f x= .pointer p)(hy:ev f y= .pointer none)(h:P.underlying t=some (.pointer (P.pointee t))):EV P β L f ⟨d,.binOp .eql t x y t',ty,ps,af,g⟩ (.bool p.isNone):=fun w _=>by
 simp[execOp,hx,hy,eqGuard,run_eql_pointer_nil w t p h]
theorem e_neq_pnil{t t':TypeId}{x y:Operand}{p:Option Addr}(hx:ev f x= .pointer p)(hy:ev f y= .pointer none)(h:P.underlying t=some (.pointer (P.pointee t))):EV P β L f ⟨d,.binOp .neq t x y t',ty,ps,af,g⟩ (.bool (!p.isNone)):=fun w _=>by
 simp[execOp,hx,hy,eqGuard,run_neq_pointer_nil w t p h]
theorem e_eql_snil{t t' e:TypeId}{x y:Operand}{a:Option Addr}{l c:Nat}(hx:ev f x= .slice a l c)(hy:ev f y= .slice none 0 0)(h:P.underlying t=some (.slice e)):EV P β L f ⟨d,.binOp .eql t x y t',ty,ps,af,g⟩ (.bool a.isNone):=fun w _=>by
 have hb:(binOp .eql t (.slice a l c) (.slice none 0 0)).run P w= .ok (.bool a.isNone) w:=by
  simp only[binOp]
  simp[run_equal_slice_nil w t e a l c h]
 simp[execOp,hx,hy,eqGuard,hb]
theorem e_not64{t:TypeId}{x:Operand}{a:UInt64}(hx:ev f x=Ux a):EV P β L f ⟨d,.unOp .xor t x,ty,ps,af,g⟩ (Ux (~~~a)):=fun w _=>by
 have h1:(Op.intBits BinOp.xor IntKind.u64 (if IntKind.u64.signed=true then-1 else IntKind.u64.max) (a.toNat:Int)).run P w= .ok (Ux (~~~a)) w:=by
  have e:(IntKind.u64.max:Int)=((18446744073709551615:UInt64).toNat:Int):=by decide
  have e2:(18446744073709551615:UInt64)^^^a= ~~~a:=by
   apply UInt64.toBitVec_inj.1
   simp
   exact BitVec.allOnes_xor
  have h:=ux_xor 18446744073709551615 a
  rw[e2]at h
  rw[if_neg (by decide),e]
  simp only[Op.intBits]
  exact congrArg (fun z=>Result.ok (Value.int IntKind.u64 z) w) h
 simp[execOp,hx,Op.unary,h1]
def lastAnc(sps:List Sp)(N:Nat):Bool:=(List.range N).all fun j=>mem j (ancOf sps N)
theorem lastAnc_mem{sps:List Sp}{N j:Nat}(h:lastAnc sps N=true)(hj:j<N):j∈ancOf sps N:=mem_iff.1 (List.all_eq_true.1 h j (List.mem_range.2 hj))
def tokLt(t:Tok)(N:Nat):Bool:=oall t.prod (Nat.blt · N)&&oall t.cons (Nat.blt · N)
end
section
variable {P:Program}{ro:Option Nat}{n:Nat}{ds:List Deferred}{β:Base}{Q:Exit→Act→World→Prop}
theorem inv_last{opsA:List Oper}{oN:Oper}{ops:List Oper}{sps:List Sp}{toks:List Tok}{ini:List (Nat×Value)}{fin:List Nat}{M:List Res}
 (hA:ops=opsA++[oN])(hal:lastAnc sps opsA.length=true)(hno:toks.all (fun t=>tokLt t opsA.length)=true)(h1:chkOps ops sps ini=true)(h2:toks.all (chkTok ops sps)=true)(ho:Obs P ro n ds β ops sps toks ini opsA 0)(hf:fin.all (finOk ops ini)=true)
 (hQ:∀f',KEv sps f' (sps.take opsA.length)→IAll ini fin f'→RunL P ro n ds β ops.toArray Q [oN] f' (rs (lastT toks) f'++M)):
  ∀(fuel:Nat) (listed:Array Bool) (f:Fm) (a:Act) (w:World),listed.size=ops.length→((List.range ops.length).filter (fun j=> !listed.getD j false)).length≤fuel→
   Inv ops sps toks ini n ds β M (fun j=>listed.getD j false) f a w→listed.getD opsA.length false=false→wpAnyIn (Fe ro) 3 P .any ops.toArray Q fuel listed a w:=by
 have hc:=h1
 simp only[chkOps,Bool.and_eq_true]at hc
 obtain⟨⟨hlen,hops⟩,hsps⟩:=hc
 have hlen:=Nat.eq_of_beq_eq_true hlen
 have hop:∀{i:Nat} {o:Oper},ops[i]? =some o→(∀e∈o.after,Region.binds .any e=true→e.on<i)∧∀j∈ancOf sps i,behind sps o j=true:=by
  intro i o hi
  have:=allI_get hops hi
  simp only[Nat.zero_add,Bool.and_eq_true,List.all_eq_true]at this
  exact⟨fun e he hb=>by have:=this.1 e (by simpa using he);rw[hb]at this;simpa using this,this.2⟩
 have hsp:∀{i:Nat} {s:Sp},sps[i]? =some s→(∀j∈s.need,j∈s.anc)∧(∀x∈s.ini,∀p,ini[x]? =some p→iniOk ops sps i p.1=true)∧(∀t∈s.sl,∀(j:Nat) o,ops[j]? =some o→o.dst=some t→j=i∨j∈s.anc):=by
  intro i s hi
  have:=allI_get hsps hi
  simp only[Nat.zero_add,Bool.and_eq_true,List.all_eq_true]at this
  refine⟨fun j hj=>mem_iff.1 (this.1.1 j hj),fun x hx p hp=> ?_,fun t hts j o hj hd=> ?_⟩
  ·have:=this.1.2 x hx;rw[hp]at this;exact this
  ·have:=allI_get (this.2 t hts) hj
   simp only[Nat.zero_add,isD_iff.2 hd,Bool.not_true,Bool.false_or,Bool.or_eq_true]at this
   rcases this with h|h
   ·exact .inl (Nat.eq_of_beq_eq_true h)
   ·exact .inr (mem_iff.1 h)
 have hN:ops.length=opsA.length+1:=by rw[hA];simp
 have hoN:ops[opsA.length]? =some oN:=by rw[hA];simp
 have done:∀(listed:Array Bool) (f:Fm) (a:Act) (w:World),(∀j,j<opsA.length→listed.getD j false=true)→listed.getD opsA.length false=false→Inv ops sps toks ini n ds β M (fun j=>listed.getD j false) f a w→
   wpListIn (Fe ro) 3 P ops.toArray Q [oN] a w:=by
  intro listed f a w hall hlN I
  have hK:KEv sps f (sps.take opsA.length):=KEv.of fun s hs=>by
   obtain⟨j,hj⟩:=List.getElem?_of_mem hs
   have hjl:j<opsA.length:=by
    have:=(List.getElem?_eq_some_iff.1 hj).1
    simp at this;omega
   rw[List.getElem?_take_of_lt hjl]at hj
   exact I.k j s hj (hall j hjl)
  have hI:IAll ini fin f:=IAll.of fun x hx p hp=>by
   refine I.ini p (List.mem_of_getElem? hp) fun j o hj _ hd=> ?_
   have:=List.all_eq_true.1 hf x hx
   unfold finOk at this;rw[hp]at this
   have:=List.all_eq_true.1 this o (List.mem_of_getElem? hj)
   rw[isD_iff.2 hd]at this;cases this
  have hT:toks.filter (actT fun j=>listed.getD j false)=lastT toks:=by
   refine List.filter_congr fun t hm=> ?_
   have hlt:=List.all_eq_true.1 hno t hm
   simp only[tokLt,Bool.and_eq_true]at hlt
   have hP:oall t.prod (fun j=>listed.getD j false)=true:=by
    cases hp:t.prod with
    |none=>rfl
    |some p=>have:=hlt.1;rw[hp]at this;exact hall p (by simpa[oall]using this)
   unfold actT
   rw[hP]
   cases hcn:t.cons with
   |none=>rfl
   |some c=>have:=hlt.2;rw[hcn]at this;simp[oany,hall c (by simpa[oall]using this)]
  have hst:=I.st
  rw[hT]at hst
  exact hQ f hK hI a w I.hat hst
 have allSet:∀(fuel:Nat) (listed:Array Bool) (a:Act) (w:World),listed.size=ops.length→(∀j,j<ops.length→listed.getD j false=true)→Q .normal a w→wpAnyIn (Fe ro) 3 P .any ops.toArray Q fuel listed a w:=by
  intro fuel listed a w hsz hall hq
  have hr:Region.ready .any ops.toArray listed=[]:=by
   refine List.eq_nil_iff_forall_not_mem.2 fun j hj=> ?_
   obtain⟨hl,o,ho',_⟩:=mem_ready.1 hj
   have hj':j<ops.length:=by
    have:=(Array.getElem?_eq_some_iff.1 ho').1
    simpa using this
   have:=hall j hj'
   simp only[Array.getD_eq_getD_getElem?,Array.getElem?_eq_getElem (by omega:j<listed.size),Option.getD_some]at hl this
   rw[hl]at this;cases this
  cases fuel with
  |zero=>exact⟨hr,hq⟩
  |succ k=>exact⟨fun _=>hq,fun i hi=>by rw[hr]at hi;cases hi⟩
 intro fuel
 induction fuel with
 |zero=>
  intro listed f a w hsz hle I hlN
  have:opsA.length∈(List.range ops.length).filter (fun j=> !listed.getD j false):=List.mem_filter.2 ⟨List.mem_range.2 (by omega),by rw[hlN];rfl⟩
  have:=List.length_pos_of_mem this
  omega
 |succ fuel ih=>
  intro listed f a w hsz hle I hlN
  refine⟨fun hr=> ?_,fun i hi=> ?_⟩
  ·exfalso
   have least:∀j,j<ops.length→listed.getD j false=true:=by
    intro j
    induction j using Nat.strongRecOn with
    |_ j ihj=>
     intro hj
     cases hl:listed.getD j false with
     |true=>rfl
     |false=>
      have hl':listed.getD j true=false:=by
       simp only[Array.getD_eq_getD_getElem?,Array.getElem?_eq_getElem (by omega:j<listed.size),Option.getD_some]at hl⊢
       exact hl
      have ho:=List.getElem?_eq_getElem hj
      have:j∈Region.ready .any ops.toArray listed:=mem_ready.2 ⟨hl',_,(List.getElem?_toArray ..).trans ho,fun e he hb=>ihj e.on ((hop ho).1 e he hb) (by have:=(hop ho).1 e he hb;omega)⟩
      rw[hr]at this;simp at this
   have:=least opsA.length (by omega)
   rw[hlN]at this;cases this
  obtain⟨hl,o,ho',hdep⟩:=mem_ready.1 hi
  have ho'':ops[i]? =some o:=by simpa using ho'
  have hi':i<ops.length:=(List.getElem?_eq_some_iff.1 ho'').1
  have hDi:listed.getD i false=false:=by
   simp only[Array.getD_eq_getD_getElem?,Array.getElem?_eq_getElem (by omega:i<listed.size),Option.getD_some]at hl⊢
   exact hl
  have hanc:∀m∈ancOf sps i,listed.getD m false=true:=by
   intro m hm
   have hb:=(hop ho'').2 m hm
   unfold behind at hb
   obtain⟨e,he,hb⟩:=List.any_eq_true.1 hb
   simp only[Bool.and_eq_true,Bool.or_eq_true]at hb
   have hd:=hdep e (by simpa using he) hb.1
   rcases hb.2 with h|h
   ·have:=Nat.eq_of_beq_eq_true h;subst this;exact hd
   ·exact I.closed e.on hd m (mem_iff.1 h)
  by_cases hiN:i=opsA.length
  ·subst hiN
   rw[hoN]at ho''
   injection ho'' with ho''
   subst ho''
   have hall:∀j,j<opsA.length→listed.getD j false=true:=fun j hj=>hanc j (lastAnc_mem hal hj)
   have hob:=done listed f a w hall hlN I
   have stepN:∀a' w',wpListIn (Fe ro) 3 P ops.toArray Q [] a' w'→wpAnyIn (Fe ro) 3 P .any ops.toArray Q fuel (listed.setIfInBounds opsA.length true) a' w':=by
    intro a' w' hq
    refine allSet fuel _ a' w' (by simp[hsz]) (fun j hj=> ?_) (by simpa only[wpListIn]using hq)
    by_cases e:j=opsA.length
    ·subst e;simp[Array.getD_eq_getD_getElem?,hsz,hi']
    ·rw[getD_set_ne _ (Ne.symm e)];exact hall j (by omega)
   unfold wpOpIn
   rw[ho']
   simp only
   unfold wpListIn at hob
   split at hob
   ·rename_i hwn
    rw[if_pos hwn]
    exact Oper.wpIn_mono stepN hob
   ·rename_i hwn
    rw[if_neg hwn]
    exact⟨hob.1,stepN _ _ hob.2⟩
  have hiA:i<opsA.length:=by omega
  have hoA:opsA[i]? =some o:=by rw[hA,List.getElem?_append_left hiA]at ho'';exact ho''
  obtain⟨s,hs⟩:∃s,sps[i]? =some s:=⟨_,List.getElem?_eq_getElem (by omega)⟩
  have hsa:ancOf sps i=s.anc:=by unfold ancOf;rw[hs]
  have hob:=ho.get hoA
  rw[Nat.zero_add]at hob
  unfold Ob at hob
  rw[hs]at hob
  have hob:=hob f (rs (toks.filter (fun t=>actT (fun j=>listed.getD j false) t&& !mem i t.by_)) f++M)
   (KAll.of fun j hj s' hs'=>I.k j s' hs' (hanc j (by rw[hsa];exact(hsp hs).1 j hj)))
   (IAll.of fun x hx p hp=>I.ini p (List.mem_of_getElem? hp) fun j oj hj hD hd=>by
    have:=allI_get ((hsp hs).2.1 x hx p hp) hj
    simp only[Nat.zero_add,isD_iff.2 hd,Bool.not_true,Bool.false_or,Bool.or_eq_true]at this
    rcases this with h|h
    ·have:=Nat.eq_of_beq_eq_true h;subst this;rw[hDi]at hD;cases hD
    ·have:=I.closed j hD i (mem_iff.1 h);exact absurd (hDi.symm.trans this) (by simp))
  have hsplit:=act_split (ops:=ops) (D:=fun j=>listed.getD j false) I.closed hDi hanc h2
  have hst:St β (rs (usesT toks i) f++(rs (toks.filter (fun t=>actT (fun j=>listed.getD j false) t&& !mem i t.by_)) f++M)) w:=by
   have:=I.st.perm (List.Perm.append_right M (List.Perm.map (fun t:Tok=>t.r (cut t.sl f)) hsplit.1))
   simpa[rs,List.append_assoc]using this
  have hD':(fun j=>(listed.setIfInBounds i true).getD j false)=setD (fun j=>listed.getD j false) i:=by
   funext j
   unfold setD
   by_cases e:j=i
   ·subst e
    simp[Array.getD_eq_getD_getElem?,hsz,hi']
   ·have:Nat.beq j i=false:=by
     cases h:Nat.beq j i with
     |false=>rfl
     |true=>exact absurd (Nat.eq_of_beq_eq_true h) e
    rw[this,getD_set_ne _ (Ne.symm e)];rfl
  have step:∀a' w',Owes n ds β o.dst (fun f=>s.k (cut s.sl f)) f (rs (outsT toks i)) (rs (toks.filter (fun t=>actT (fun j=>listed.getD j false) t&& !mem i t.by_)) f++M) a' w'→
    wpAnyIn (Fe ro) 3 P .any ops.toArray Q fuel (listed.setIfInBounds i true) a' w':=by
   rintro a' w' ⟨f',hff,hat',hk',hst'⟩
   refine ih _ f' a' w' (by simp[hsz]) ?_ ?_ (by rw[getD_set_ne _ (by omega)];exact hlN)
   ·have:=filter_lt (p:=fun j=> !listed.getD j false) (q:=fun j=> !(listed.setIfInBounds i true).getD j false) (i:=i) (l:=List.range ops.length) ?_ (by simp only[hDi];rfl) ?_ (List.mem_range.2 hi')
    ·omega
    ·intro x hx
     by_cases e:x=i
     ·subst e;rw[hDi];rfl
     ·rw[getD_set_ne _ (Ne.symm e)]at hx;exact hx
    ·have:=congrFun hD' i
     simp only[setD,Nat.beq_refl,Bool.true_or]at this
     simp only[this];rfl
   ·rw[hD']
    refine⟨?_,?_,?_,hat',?_⟩
    ·intro j hj m hm
     simp only[setD,Bool.or_eq_true]at hj⊢
     rcases hj with hj|hj
     ·have:=Nat.eq_of_beq_eq_true hj;subst this;exact .inr (hanc m hm)
     ·exact .inr (I.closed j hj m hm)
    ·intro j s' hs' hj
     simp only[setD,Bool.or_eq_true]at hj
     by_cases e:j=i
     ·subst e;rw[hs]at hs';injection hs' with hs';subst hs';exact hk'
     ·have hj:listed.getD j false=true:=by
       rcases hj with hj|hj
       ·exact absurd (Nat.eq_of_beq_eq_true hj) e
       ·exact hj
      rw[cut_eq (f:=f') (g:=f) (fun x hx=>hff x fun hd=> ?_)];exact I.k j s' hs' hj
      rcases(hsp hs').2.2 x hx i o ho'' hd with h|h
      ·exact e h.symm
      ·have:=I.closed j hj i (by unfold ancOf;rw[hs'];exact h);exact absurd (hDi.symm.trans this) (by simp)
    ·intro p hp hno
     rw[hff p.1 fun hd=>hno i o ho'' (by simp[setD]) hd]
     exact I.ini p hp fun j oj hj hD=>hno j oj hj (by simp only[setD,hD,Bool.or_true])
    ·have h3:rs (toks.filter (fun t=>actT (fun j=>listed.getD j false) t&& !mem i t.by_)) f'=rs (toks.filter (fun t=>actT (fun j=>listed.getD j false) t&& !mem i t.by_)) f:=by
      unfold rs
      refine List.map_congr_left fun t ht'=> ?_
      obtain⟨hm,hact⟩:=List.mem_filter.1 ht'
      rw[cut_eq (f:=f') (g:=f) fun x hx=>hff x fun hd=> ?_]
      have hc:=List.all_eq_true.1 h2 t hm
      simp only[chkTok,Bool.and_eq_true,List.all_eq_true]at hc
      have:=allI_get (hc.2 x hx) ho''
      simp only[Nat.zero_add,isD_iff.2 hd,Bool.not_true,Bool.false_or]at this
      simp only[Bool.and_eq_true,actT]at hact
      cases hp:t.prod with
      |none=>rw[hp]at this;cases this
      |some q=>
       rw[hp]at this hact
       simp only[oany,Bool.or_eq_true]at this
       have hq:listed.getD q false=true:=hact.1.1
       rcases this with h|h
       ·have:=Nat.eq_of_beq_eq_true h;subst this;rw[hDi]at hq;cases hq
       ·have:=I.closed q hq i (mem_iff.1 h);exact absurd (hDi.symm.trans this) (by simp)
     have:=hst'.perm (L':=rs (toks.filter (actT (setD (fun j=>listed.getD j false) i))) f'++M) ?_
     ·exact this
     ·have hp:=List.Perm.append_right M (List.Perm.map (fun t:Tok=>t.r (cut t.sl f')) hsplit.2)
      refine List.Perm.trans ?_ hp.symm
      rw[←h3]
      simp[rs,List.append_assoc]
  have hob:=hob a w I.hat hst
  unfold wpOpIn
  rw[ho']
  unfold wpListIn at hob
  simp only
  split at hob
  ·rename_i hwn
   rw[if_pos hwn]
   exact Oper.wpIn_mono step (wpIn_qn (K:=Owes n ds β o.dst (fun f=>s.k (cut s.sl f)) f (rs (outsT toks i)) (rs (toks.filter (fun t=>actT (fun j=>listed.getD j false) t&& !mem i t.by_)) f++M)) (by
    have hfun:(wpListIn (Fe ro) 3 P ops.toArray (Qn (Owes n ds β o.dst (fun f=>s.k (cut s.sl f)) f (rs (outsT toks i)) (rs (toks.filter (fun t=>actT (fun j=>listed.getD j false) t&& !mem i t.by_)) f++M))) [])=Owes n ds β o.dst (fun f=>s.k (cut s.sl f)) f (rs (outsT toks i)) (rs (toks.filter (fun t=>actT (fun j=>listed.getD j false) t&& !mem i t.by_)) f++M):=by
     funext a w;simp only[wpListIn,Qn]
    rw[hfun]at hob
    exact hob))
  ·rename_i hwn
   rw[if_neg hwn]
   refine⟨hob.1,step _ _ ?_⟩
   have:=hob.2
   simp only[wpListIn,Qn]at this
   exact this
theorem c_any_last{id:Nat}{opsA:List Oper}{oN:Oper}{f:Fm}{L:List Res}(sps:List Sp)(toks:List Tok)(ini:List (Nat×Value))(fin:List Nat)(M:List Res)(hm:P.follows .mixedOrders=true)
 (hal:lastAnc sps opsA.length=true)(hno:toks.all (fun t=>tokLt t opsA.length)=true)
 (h1:chkOps (opsA++[oN]) sps ini=true)(h2:toks.all (chkTok (opsA++[oN]) sps)=true)(hf:fin.all (finOk (opsA++[oN]) ini)=true)(hL:L=rs (firstT toks) f++M)(hi:IniAt f ini)
 (ho:Obs P ro n ds β (opsA++[oN]) sps toks ini opsA 0)
 (hQ:∀f',KEv sps f' (sps.take opsA.length)→IAll ini fin f'→RunL P ro n ds β (opsA++[oN]).toArray Q [oN] f' (rs (lastT toks) f'++M)):RunC P ro n ds β (.region id (opsA++[oN]).toArray true) Q f L:=by
 intro a w ha hw
 have hD0:∀j,(Array.replicate (opsA++[oN]).length false).getD j false=false:=by
  intro j
  by_cases hj:j<(opsA++[oN]).length
  ·rw[Array.getD_eq_getD_getElem?,Array.getElem?_eq_getElem (by simpa using hj)];simp
  ·rw[Array.getD_eq_getD_getElem?,Array.getElem?_eq_none (by simpa using hj)];rfl
 refine wpIn_region_any hm (inv_last rfl hal hno h1 h2 ho hf hQ _ _ f a _ (by simp) ?_ ?_ (hD0 _))
 ·have:=List.length_filter_le (fun j=> !(Array.replicate (opsA++[oN]).toArray.size false).getD j false) (List.range (opsA++[oN]).length)
  simpa using this
 ·refine⟨fun j hj=> ?_,fun j s _ hj=> ?_,fun p hp _=>hi.get p hp,ha,?_⟩
  ·have:=hD0 j;exact absurd (hj.symm.trans this) (by simp)
  ·have:=hD0 j;exact absurd (hj.symm.trans this) (by simp)
  ·have hT:toks.filter (actT fun j=>(Array.replicate (opsA++[oN]).toArray.size false).getD j false)=firstT toks:=by
    refine List.filter_congr fun t _=> ?_
    unfold actT
    have hD1:∀j,(Array.replicate (opsA++[oN]).toArray.size false).getD j false=false:=hD0
    cases t.prod<;>cases t.cons<;>simp only[oall,oany,hD1]<;>rfl
   rw[hT,←hL]
   exact hw.drew
theorem c_any_end{id:Nat}{ops:List Oper}{oN:Oper}{f:Fm}{L:List Res}(N:Nat)(hl:ops.length=N+1)(hoN:ops[N]? =some oN)(sps:List Sp)(toks:List Tok)(ini:List (Nat×Value))(fin:List Nat)(M:List Res)(hm:P.follows .mixedOrders=true)
 (hal:lastAnc sps N=true)(hno:toks.all (fun t=>tokLt t N)=true)
 (h1:chkOps ops sps ini=true)(h2:toks.all (chkTok ops sps)=true)(hf:fin.all (finOk ops ini)=true)(hL:L=rs (firstT toks) f++M)(hi:IniAt f ini)
 (ho:Obs P ro n ds β ops sps toks ini (ops.take N) 0)
 (hQ:∀f',KEv sps f' (sps.take N)→IAll ini fin f'→RunL P ro n ds β ops.toArray Q [oN] f' (rs (lastT toks) f'++M)):RunC P ro n ds β (.region id ops.toArray true) Q f L:=by
 have he:ops=ops.take N++[oN]:=by
  have h:=List.take_add_one (l:=ops) (i:=N)
  rw[hoN,←hl,List.take_length]at h
  simpa using h
 have hlen:(ops.take N).length=N:=by simp;omega
 generalize ops.take N=opsA at*
 subst he
 subst hlen
 exact c_any_last sps toks ini fin M hm hal hno h1 h2 hf hL hi ho hQ
theorem l_rebase{d:Nat}{v:Value}{f:Fm}{L:List Res}{ops:Array Oper}{rest:List Oper}(h:f d=v)(k:RunL P ro n ds β ops Q rest (upd f d v) L):RunL P ro n ds β ops Q rest f L:=by rw[←upd_eq h];exact k
end
end Go.Sl
namespace Go.Sl
structure KComp where
 kind:UInt8
 v0:Int
 v1:Int
 v2:Int
 v3:Int
 deriving DecidableEq
structure KEnt where
 id:Int
 comps:List KComp
 deriving DecidableEq
structure KWorld where
 tick:Int
 ents:List KEnt
 deriving DecidableEq
def U8R:Rp UInt8:=Rp.flat 1 (fun x=>[Bx x]) (fun _=>rfl)
theorem bool_f{p:Prop}[Decidable p](h:¬p):Ending.returned (.bool false)= .returned (.bool (decide p)):=by rw[decide_eq_false h]
theorem take_succ{α:Type}{xs:List α}{k:Nat}{a:α}(h:xs[k]? =some a):xs.take (k+1)=xs.take k++[a]:=by
 rw[List.take_add_one,h];rfl
theorem take_prefix{α:Type}{xs:List α}{k:Nat}{a:α}(h:xs[k]? =some a):xs.take k++[a]<+:xs:=by
 rw[←take_succ h];exact List.take_prefix _ _
end Go.Sl
namespace Go.Sl
open Go.RowKit
abbrev Bs:=List UInt8
abbrev BX(bs:Bs):List Value:=bs.map fun c=>Bx c
def BsR:Rp Bs:=Rp.slice U8R
abbrev str(bs:Bs):ByteArray:=⟨bs.toArray⟩
theorem row_len{p:Option Addr}{m c T:Nat}{vs:List Value}{h:PHeap}(hr:row (.slice p m c) T 1 m vs h):vs.length=m∧m≤c∧c≤maxLen:=by
 obtain⟨hl,⟨e,h0⟩|⟨b,cap,cur,e,hb,h1,h2,_⟩⟩:=hr
 ·injection e with _ _ e3
  subst e3;subst h0;refine⟨by simpa using hl,by omega,by unfold maxLen;omega⟩
 ·injection e with _ _ e3
  subst e3;exact⟨by simpa using hl,h1,h2⟩
theorem row_flat{α:Type}{enc:α→Value}{p:Option Addr}{m c T:Nat}{xs:List α}{h:PHeap}(hr:row (.slice p m c) T 1 m (xs.map enc) h):m=xs.length∧Elems (Rp.flat 1 (fun x=>[enc x]) (fun _=>rfl)) h p xs:=by
 have hl:=(row_len hr).1
 rw[List.length_map]at hl
 refine⟨hl.symm,fun j x hj=> ?_⟩
 have hlt:=(List.getElem?_eq_some_iff.1 hj).1
 obtain⟨b,cur,rfl,hb,_⟩:=row_open hr (by omega)
 refine⟨rfl,[enc x],?_,rfl⟩
 show Cs h ((ba (some ⟨b,0,none⟩)).add (j*1)) _
 rw[Nat.mul_one]
 refine row_cs hr ?_ (Nat.succ_pos _)
 rw[List.drop_eq_getElem_cons (by simpa using hlt)]
 have:=(List.getElem?_eq_some_iff.1 hj).2
 simp[this]
theorem row_u8e{p:Option Addr}{m c T:Nat}{bs:Bs}{h:PHeap}(hr:row (.slice p m c) T 1 m (BX bs) h):Elems U8R h p bs:=(row_flat (enc:=fun x:UInt8=>Bx x) hr).2
theorem row_u8{p:Option Addr}{m c T:Nat}{bs:Bs}{h:PHeap}(hr:row (.slice p m c) T 1 m (BX bs) h):Sl U8R h (.slice p m c) bs:=by
 have h1:=(row_flat (enc:=fun x:UInt8=>Bx x) hr).1
 have h2:=row_len hr
 exact⟨p,c,by rw[h1],by omega,by have:=h2.2.2;unfold maxLen at this;omega,row_u8e hr⟩
theorem elems_cells{α:Type}{enc:α→Value}{h:PHeap}{a:Option Addr}{xs:List α}(he:Elems (Rp.flat 1 (fun x=>[enc x]) (fun _=>rfl)) h a xs):Cs h (ba a) (xs.map enc):=by
 intro j v hj
 rw[List.getElem?_map]at hj
 cases hx:xs[j]? with
 |none=>rw[hx]at hj;cases hj
 |some x=>
  rw[hx]at hj
  injection hj with hj
  obtain⟨_,cs,hc,hr⟩:=he j x hx
  have hr:cs=[enc x]:=hr
  subst hr
  have hc:Cs h ((ba a).add (j*1)) [enc x]:=hc
  rw[Nat.mul_one]at hc
  have:=hc 0 (enc x) rfl
  rw[Addr.add_zero']at this
  rw[←hj];exact this
theorem elems_cs{h:PHeap}{a:Option Addr}{xs:Bs}(he:Elems U8R h a xs):Cs h (ba a) (BX xs):=elems_cells (enc:=fun x:UInt8=>Bx x) he
theorem elems_some{α:Type}{R:Rp α}{h:PHeap}{a:Option Addr}{xs:List α}(he:Elems R h a xs)(hx:0<xs.length):a=some (ba a):=(he 0 _ (List.getElem?_eq_getElem hx)).1
theorem overL_bx{bs:Bs}{j:Nat}{b:UInt8}(hj:j<bs.length):overL (BX bs) (j*1) [Bx b]=BX (bs.set j b):=by
 unfold overL BX
 rw[Nat.mul_one,List.map_set]
 rw[List.set_eq_take_append_cons_drop,if_pos (by simpa using hj)]
 simp
theorem row_takeB{p:Option Addr}{m c T h:Nat}{bs:Bs}{a:PHeap}(hr:row (.slice p m c) T 1 m (BX bs) a)(hh:h≤m):row (.slice p h c) T 1 (bs.take h).length (BX (bs.take h)) a:=by
 have hlen:=(row_flat (enc:=fun x:UInt8=>Bx x) hr).1
 have e:(bs.take h).length=h:=by simp;omega
 rw[e]
 obtain⟨hl,⟨e1,h0⟩|⟨b,cap,cur,e1,hb,h1,h2,h3,h4⟩⟩:=hr
 ·have:h=0:=by omega
  subst this
  injection e1 with e1 e2 e3
  subst e1;subst e3
  exact⟨by simp,.inl ⟨rfl,rfl⟩⟩
 ·injection e1 with e1 e2 e3
  subst e1;subst e3
  refine⟨by simp;omega,.inr ⟨b,c,cur,rfl,hb,by omega,h2,h3,?_⟩⟩
  have e5:cur.toList.take (h*1)=(cur.toList.take (m*1)).take (h*1):=by rw[List.take_take,Nat.min_eq_left (by omega)]
  rw[e5,h4];simp[List.map_take]
def inn(us:List Value)(xs:List Bs):Res:=fun h=>us.length=xs.length∧∀(i:Nat) x u,xs[i]? =some x→us[i]? =some u→Sl U8R h u x
theorem inn.mono(us:List Value)(xs:List Bs):Mono (inn us xs):=fun _ _ hs ⟨h1,h2⟩=>⟨h1,fun i x u hx hu=>Sl.mono U8R u x _ _ hs (h2 i x u hx hu)⟩
theorem inn_nil(h:PHeap):inn [] [] h:=⟨rfl,fun i x u hx _=>by simp at hx⟩
theorem inn_snoc{us:List Value}{xs:List Bs}{u:Value}{x:Bs}{h:PHeap}(hi:inn us xs h)(hu:Sl U8R h u x):inn (us++[u]) (xs++[x]) h:=by
 refine⟨by simp[hi.1],fun i y v hy hv=> ?_⟩
 by_cases hlt:i<xs.length
 ·rw[List.getElem?_append_left hlt]at hy
  rw[List.getElem?_append_left (by rw[hi.1];exact hlt)]at hv
  exact hi.2 i y v hy hv
 ·have h1:=(List.getElem?_eq_some_iff.1 hy).1
  have:i=xs.length:=by simp at h1;omega
  subst this
  rw[List.getElem?_append_right (Nat.le_refl _)]at hy
  rw[←hi.1,List.getElem?_append_right (Nat.le_refl _)]at hv
  simp at hy hv
  subst hy;subst hv;exact hu
def shp(us:List Value):Res:=fun h=>∀u∈us,u= .slice none 0 0∨∃g m c cur,u= .slice (some ⟨g,0,none⟩) m c∧h g=some (.cells cur 5 (0,0))∧m≤c∧c≤maxLen∧cur.size=c
theorem shp.mono(us:List Value):Mono (shp us):=fun _ _ hs h u hu=>(h u hu).imp id fun⟨g,m,c,cur,e,hg,r⟩=>⟨g,m,c,cur,e,hs _ _ hg,r⟩
theorem row_shp{v:Value}{m:Nat}{vs:List Value}{h:PHeap}(hr:row v 5 1 m vs h):shp [v] h:=fun u hu=>by
 simp only[List.mem_singleton]at hu
 subst hu
 obtain⟨_,⟨e,_⟩|⟨g,cap,cur,e,hg,h1,h2,h3,_⟩⟩:=hr
 ·exact .inl e
 ·exact .inr ⟨g,m,cap,cur,e,hg,h1,h2,by omega⟩
def ins(us:List Value)(xs:List Bs):Res:=fun h=>inn us xs h∧shp us h
theorem ins.mono(us:List Value)(xs:List Bs):Mono (ins us xs):=fun _ _ hs ⟨h1,h2⟩=>⟨inn.mono _ _ _ _ hs h1,shp.mono _ _ _ hs h2⟩
theorem ins_nil(h:PHeap):ins [] [] h:=⟨inn_nil h,fun _ hu=>by cases hu⟩
theorem ins_snoc{us:List Value}{xs:List Bs}{u:Value}{x:Bs}{h:PHeap}(hi:ins us xs h)(hu:Sl U8R h u x)(hs:shp [u] h):ins (us++[u]) (xs++[x]) h:=
 ⟨inn_snoc hi.1 hu,fun v hv=>by
  rcases List.mem_append.1 hv with h1|h1
  ·exact hi.2 v h1
  ·exact hs v h1⟩
def recsR(T:Nat)(p:Option Addr)(c:Nat)(xs:List Bs):Res:=fun h=>∃us,Sat [row (.slice p xs.length c) T 1 xs.length us,ins us xs] h
theorem recs_sl{T:Nat}{p:Option Addr}{c:Nat}{xs:List Bs}{h:PHeap}(hr:recsR T p c xs h):Sl BsR h (.slice p xs.length c) xs:=by
 obtain⟨us,a,b,_,ha,hb,hr,a',b',_,ha',_,hi,_⟩:=hr
 have hl:=row_len hr
 have hi:inn us xs h:=inn.mono _ _ _ _ (ha'.trans hb) hi.1
 refine⟨p,c,rfl,hl.2.1,by have:=hl.2.2;unfold maxLen at this;omega,fun j x hj=> ?_⟩
 have hlt:=(List.getElem?_eq_some_iff.1 hj).1
 obtain⟨q,cur,rfl,hq,_⟩:=row_open hr (by omega)
 obtain⟨u,hu⟩:∃u,us[j]? =some u:=⟨_,List.getElem?_eq_getElem (by rw[hi.1];exact hlt)⟩
 refine⟨rfl,[u],Cs.mono _ _ _ _ ha (?_:Cs a _ _),u,rfl,hi.2 j x u hj hu⟩
 show Cs a ((ba (some ⟨q,0,none⟩)).add (j*1)) _
 rw[Nat.mul_one]
 refine row_cs hr ?_ (Nat.succ_pos _)
 rw[List.drop_eq_getElem_cons (by omega)]
 have:=(List.getElem?_eq_some_iff.1 hu).2
 simp[this]
theorem recs_nil(T:Nat)(h:PHeap):recsR T none 0 [] h:=
 ⟨[],fun _=>none,h,fun _=> .inl rfl,fun _ _ h=>(by cases h),Sub.refl _,row_nil _ _ _,fun _=>none,h,fun _=> .inl rfl,fun _ _ h=>(by cases h),Sub.refl _,ins_nil _,trivial⟩
theorem Sl.parts{α:Type}{R:Rp α}{h:PHeap}{p:Option Addr}{n c:Nat}{xs:List α}(hs:Sl R h (.slice p n c) xs):n=xs.length∧xs.length≤c∧c≤9223372036854775807∧Elems R h p xs:=by
 obtain⟨a,c',e,h1,h2,h3⟩:=hs.get
 injection e with e1 e2 e3
 subst e1;subst e2;subst e3
 exact⟨rfl,h1,h2,h3⟩
end Go.Sl
namespace Go.Sl
section
variable {P:Program}{ro:Option Nat}{n:Nat}{ds:List Deferred}{β:Base}{Q:Exit→Act→World→Prop}{f:Fm}{L:List Res}{ops:Array Oper}{rest:List Oper}
variable {d:Option Tmp}{ty:TypeId}{ps:String}{af:Array Edge}{g:Option (Nat×Bool)}
theorem Sat.head{r:Res}{rs:List Res}{h:PHeap}(hL:Sat (r::rs) h):∃a,Sub a h∧r a:=let⟨a,_,_,ha,_,hr,_⟩:=hL;⟨a,ha,hr⟩
end
end Go.Sl
namespace Go.Sl
end Go.Sl
namespace Go.Sl
theorem perm_range{α:Type _}(L:List α):L.Perm ((List.range L.length).filterMap (L[·]?)):=by
 have:(List.range L.length).filterMap (L[·]?)=L:=by
  induction L with
  |nil=>rfl
  |cons a l ih=>
   rw[List.length_cons,List.range_succ_eq_map,List.filterMap_cons,List.filterMap_map]
   simp only[List.getElem?_cons_zero]
   congr 1
 rw[this]
theorem perm_ix{α:Type _}{L L':List α}(ix:List Nat)(n:Nat)(hn:L.length=n)(h:(List.range n).isPerm ix=true)(e:ix.filterMap (L[·]?)=L'):L.Perm L':=by
 subst e;subst hn
 exact(perm_range L).trans ((List.isPerm_iff.1 h).filterMap _)
end Go.Sl
namespace Go.Sl
structure Fl(α:Type) where
 n:Nat
 enc:α→List Value
 len:∀x,(enc x).length=n
 one:∀x,(enc x).all (·.oneCell')=true
 pos:0<n
abbrev Fl.R{α:Type}(F:Fl α):Rp α:=Rp.flat F.n F.enc F.len
abbrev rowF{α:Type}(F:Fl α)(T:Nat)(p:Option Addr)(c:Nat)(xs:List α):Res:=row (.slice p xs.length c) T F.n xs.length (xs.flatMap F.enc)
section
variable {α:Type}{F:Fl α}
theorem fl_len(xs:List α):(xs.flatMap F.enc).length=xs.length*F.n:=by
 induction xs with
 |nil=>simp
 |cons x xs ih=>rw[List.flatMap_cons,List.length_append,ih,List.length_cons,F.len,Nat.add_mul];omega
theorem fl_one(xs:List α):(xs.flatMap F.enc).all (·.oneCell')=true:=by
 rw[List.all_eq_true]
 intro v hv
 obtain⟨x,_,hx⟩:=List.mem_flatMap.1 hv
 exact List.all_eq_true.1 (F.one x) v hx
theorem fl_drop(xs:List α)(k:Nat):(xs.flatMap F.enc).drop (k*F.n)=(xs.drop k).flatMap F.enc:=by
 induction k generalizing xs with
 |zero=>simp
 |succ k ih=>
  cases xs with
  |nil=>simp
  |cons x xs=>
   rw[List.flatMap_cons,Nat.add_mul,Nat.one_mul,Nat.add_comm,←List.drop_drop,List.drop_left' (F.len x),ih];rfl
theorem fl_take(xs:List α)(k:Nat):(xs.flatMap F.enc).take (k*F.n)=(xs.take k).flatMap F.enc:=by
 induction k generalizing xs with
 |zero=>simp
 |succ k ih=>
  cases xs with
  |nil=>simp
  |cons x xs=>
   rw[List.flatMap_cons,List.take_succ_cons,List.flatMap_cons,List.take_append,F.len,←ih,List.take_of_length_le (by rw[F.len];rw[Nat.add_mul];omega)]
   congr 2
   rw[Nat.add_mul];omega
theorem fl_at{xs:List α}{k:Nat}{x:α}(hx:xs[k]? =some x):((xs.flatMap F.enc).drop (k*F.n)).take (F.enc x).length=F.enc x:=by
 obtain⟨h,e⟩:=List.getElem?_eq_some_iff.1 hx
 rw[fl_drop,List.drop_eq_getElem_cons h,e,List.flatMap_cons,List.take_left]
theorem fl_set{xs:List α}{k:Nat}(h:k<xs.length)(x:α):overL (xs.flatMap F.enc) (k*F.n) (F.enc x)=(xs.set k x).flatMap F.enc:=by
 have e:xs.set k x=xs.take k++x::xs.drop (k+1):=List.set_eq_take_append_cons_drop .. |>.trans (if_pos h)
 rw[e,List.flatMap_append,List.flatMap_cons]
 unfold overL
 rw[fl_take,F.len,show k*F.n+F.n=(k+1)*F.n by rw[Nat.add_mul];omega,fl_drop,List.append_assoc]
theorem over_mid{A E B us:List Value}{o:Nat}(h:o+us.length≤E.length):overL (A++(E++B)) (A.length+o) us=A++(overL E o us++B):=by
 unfold overL
 rw[List.take_length_add_append,Nat.add_assoc,List.drop_length_add_append,List.take_append_of_le_length (by omega),List.drop_append_of_le_length h]
 simp only[List.append_assoc]
theorem fl_part{xs:List α}{k o:Nat}{x x':α}{us:List Value}(hx:xs[k]? =some x)(ho:o+us.length≤F.n)(hu:overL (F.enc x) o us=F.enc x'):overL (xs.flatMap F.enc) (k*F.n+o) us=(xs.set k x').flatMap F.enc:=by
 obtain⟨h,e⟩:=List.getElem?_eq_some_iff.1 hx
 have hs:xs.flatMap F.enc=(xs.take k).flatMap F.enc++(F.enc x++(xs.drop (k+1)).flatMap F.enc):=by
  rw[←List.flatMap_cons,←List.flatMap_append,←e,List.getElem_cons_drop,List.take_append_drop]
 have hp:((xs.take k).flatMap F.enc).length=k*F.n:=by rw[fl_len,List.length_take,Nat.min_eq_left (by omega)]
 have e2:xs.set k x'=xs.take k++x'::xs.drop (k+1):=List.set_eq_take_append_cons_drop .. |>.trans (if_pos h)
 rw[hs,←hp,over_mid (by rw[F.len];exact ho),hu,e2,List.flatMap_append,List.flatMap_cons]
theorem elems_fl{h:PHeap}{a:Option Addr}{xs:List α}(he:Elems F.R h a xs):Cs h (ba a) (xs.flatMap F.enc):=by
 intro j v hj
 have hjl:=(List.getElem?_eq_some_iff.1 hj).1
 rw[fl_len]at hjl
 have hn:=F.pos
 have hq:j/F.n<xs.length:=Nat.div_lt_of_lt_mul (by rw[Nat.mul_comm];exact hjl)
 obtain⟨ha,cs,hc,hr⟩:=he (j/F.n) _ (List.getElem?_eq_getElem hq)
 have hr:cs=F.enc xs[j/F.n]:=hr
 subst hr
 have hjm:j/F.n*F.n+j%F.n=j:=by rw[Nat.mul_comm];exact Nat.div_add_mod j F.n
 have key:(F.enc xs[j/F.n])[j%F.n]? =some v:=by
  rw[←fl_at (F:=F) (List.getElem?_eq_getElem hq),List.getElem?_take_of_lt (by rw[F.len];exact Nat.mod_lt _ hn),List.getElem?_drop,hjm];exact hj
 have h2:=hc (j%F.n) v key
 rw[Addr.add_add',show j/F.n*F.R.n+j%F.n=j from hjm]at h2
 exact h2
theorem rowF_sl{T:Nat}{p:Option Addr}{c:Nat}{xs:List α}{a:PHeap}(h:rowF F T p c xs a):Sl F.R a (.slice p xs.length c) xs:=by
 rcases Nat.eq_zero_or_pos xs.length with h0|h0
 ·have hx:xs=[]:=List.eq_nil_of_length_eq_zero h0
  subst hx
  obtain⟨_,⟨e,_⟩|⟨b,cap,cur,e,hb,h1,h2,h3,h4⟩⟩:=h
  ·injection e with e1 e2 e3
   exact⟨p,c,rfl,by omega,by omega,fun j x hj=>by simp at hj⟩
  ·injection e with e1 e2 e3
   subst e3
   exact⟨p,c,rfl,h1,by unfold maxLen at h2;exact h2,fun j x hj=>by simp at hj⟩
 ·have h':=h
  obtain⟨b,cur,rfl,hb,h1,h2,h3,h4,h5⟩:=row_open h h0
  refine⟨_,c,rfl,h1,by unfold maxLen at h2;exact h2,fun j x hj=>⟨rfl,F.enc x,?_,rfl⟩⟩
  exact row_cs h' (fl_at hj) (by rw[F.len];exact F.pos)
end
section
variable {P:Program}{ro:Option Nat}{n:Nat}{ds:List Deferred}{β:Base}{Q:Exit→Act→World→Prop}{f:Fm}{L:List Res}{ops:Array Oper}{rest:List Oper}
variable {d:Option Tmp}{ty:TypeId}{ps:String}{af:Array Edge}{g:Option (Nat×Bool)}
variable {α:Type}{F:Fl α}
theorem k_fl{T c:Nat}{p:Option Addr}{xs:List α}(i:Nat)(hi:L[i]? =some (rowF F T p c xs)):Knows β L (fun h=>Sl F.R h (.slice p xs.length c) xs):=Knows.of_res i hi (Sl.mono _ _ _) fun _ h=>rowF_sl h
theorem k_flAt{T c k:Nat}{p:Option Addr}{xs:List α}{x:α}(i:Nat)(hi:L[i]? =some (rowF F T p c xs))(hx:xs[k]? =some x):Knows β L (fun h=>Cs h ((ba p).add (k*F.n)) (F.enc x)):=
 k_row i hi (fl_at hx) (by rw[F.len];exact F.pos)
theorem k_flPart{T c k o:Nat}{p:Option Addr}{xs:List α}{x:α}{us:List Value}(i:Nat)(hi:L[i]? =some (rowF F T p c xs))(hx:xs[k]? =some x)(hu:((F.enc x).drop o).take us.length=us):Knows β L (fun h=>Cs h ((ba p).add (k*F.n+o)) us):=
 Knows.imp (k_flAt i hi hx) fun h hc=>by have:=Cs.sub o hc hu;rwa [Addr.add_add']at this
theorem m_storeFl{x y:Operand}{t k c T:Nat}{agg:Bool}{p:Option Addr}{xs:List α}{z:α}{v:Value}(i:Nat)(ht:tyB P t agg F.n=true)(hx:ev f x= .pointer (some ((ba p).add (k*F.n))))(hy:ev f y=v)(hv:v.cells.toList=F.enc z)
 (hi:L[i]? =some (rowF F T p c xs))(hk:k<xs.length):MU P β L f ⟨d,.store t x y,ty,ps,af,g⟩ (L.set i (rowF F T p c (xs.set k z))):=by
 have hn:v.cells.size=F.n:=by rw[←Array.length_toList,hv,F.len]
 have h:=m_storeRow (P:=P) (β:=β) (d:=d) (ty:=ty) (ps:=ps) (af:=af) (g:=g) (o:=k*F.n) i ht hx hy hi hn (by rw[hv];exact F.one z) (by have:=Nat.mul_le_mul_right F.n (show k+1≤xs.length from hk);rw[Nat.add_mul]at this;omega) (by omega)
 rw[hv,fl_set hk]at h
 have e:rowF F T p c (xs.set k z)=row (.slice p xs.length c) T F.n xs.length ((xs.set k z).flatMap F.enc):=by show row (.slice p (xs.set k z).length c) T F.n (xs.set k z).length _=_;rw[List.length_set]
 rw[e];exact h
theorem m_storeFlPart{x y:Operand}{t k c T o q:Nat}{agg:Bool}{p:Option Addr}{xs:List α}{z0 z:α}{v:Value}(i:Nat)(ht:tyB P t agg q=true)(hx:ev f x= .pointer (some ((ba p).add (k*F.n+o))))(hy:ev f y=v)(hn:v.cells.size=q)(h1:v.cells.toList.all (·.oneCell')=true)
 (hi:L[i]? =some (rowF F T p c xs))(hk:xs[k]? =some z0)(ho:o+q≤F.n)(hu:overL (F.enc z0) o v.cells.toList=F.enc z):MU P β L f ⟨d,.store t x y,ty,ps,af,g⟩ (L.set i (rowF F T p c (xs.set k z))):=by
 have hkl:=(List.getElem?_eq_some_iff.1 hk).1
 have h:=m_storeRow (P:=P) (β:=β) (d:=d) (ty:=ty) (ps:=ps) (af:=af) (g:=g) (o:=k*F.n+o) i ht hx hy hi hn h1 (by have:=Nat.mul_le_mul_right F.n (show k+1≤xs.length from hkl);rw[Nat.add_mul]at this;omega) (by omega)
 rw[fl_part hk (by simp;omega) hu]at h
 have e:rowF F T p c (xs.set k z)=row (.slice p xs.length c) T F.n xs.length ((xs.set k z).flatMap F.enc):=by show row (.slice p (xs.set k z).length c) T F.n (xs.set k z).length _=_;rw[List.length_set]
 rw[e];exact h
theorem m_appendFl{x y:Operand}{t e bytes k c c0:Nat}{p:Option Addr}{xs ys:List α}{ao:Option Addr}(i:Nat)(hsl:slB P t e F.n=true)(hel:elB P e F.n bytes=true)(hx:ev f x= .slice p xs.length c0)(hi:L[i]? =some (rowF F e p c0 xs))
 (hy:ev f y= .slice ao k c)(hl:ys.length=k)(hk:Knows β L (fun h=>Elems F.R h ao ys))(hby:(xs.length+k)*bytes≤140737488355328)(h63:xs.length+k≤140737488355328):
  MV P β L f ⟨d,.call ⟨.builtin .append,#[x,y],#[t,t]⟩,ty,ps,af,g⟩ (fun v' L'=>∃p c,v'= .slice p (xs++ys).length c∧L'=L.set i (rowF F e p c (xs++ys))):=fun w hw=>by
 have hkk:=hw.knows hk
 have hcs:Knows β L (fun h=>Cs h (ba ao) (ys.flatMap F.enc)):=fun h hb hr=>elems_fl (hk h hb hr)
 have hsome:0<k→ao=some (ba ao):=fun h0=>by
  cases ys with
  |nil=>simp at hl;omega
  |cons a l=>exact(hkk 0 a rfl).1
 obtain⟨v',w',L',g1,g2,p',c',rfl,rfl⟩:=m_append_w (P:=P) (ty:=ty) (ps:=ps) (af:=af) (g:=g) (d:=d) i hsl hel hx hi hy (by rw[fl_len,hl]) hcs (fl_one ys) hsome (by unfold maxLen;omega) hby w hw
 have e1:(xs++ys).length=xs.length+k:=by simp[hl]
 refine⟨_,w',_,g1,g2,p',c',by rw[e1],?_⟩
 show _=L.set i (row (.slice p' (xs++ys).length c') e F.n (xs++ys).length ((xs++ys).flatMap F.enc))
 rw[e1,List.flatMap_append]
theorem e_indexFlN{x y:Operand}{t e:Nat}{j m cap T:Nat}{p:Option Addr}{xs:List α}(i:Nat)(hx:ev f x= .slice p m cap)(hm:m=xs.length)(hy:ev f y= .int .i64 (j:Int))(ht:slB P t e F.n=true)(hj:j<m)
 (hi:L[i]? =some (rowF F T p cap xs)):EV P β L f ⟨d,.indexAddr t x y,ty,ps,af,g⟩ (.pointer (some ((ba p).add (j*F.n)))):=e_indexRow i hx hy ht hj (by omega) hi
theorem k_flN{T c m:Nat}{p:Option Addr}{xs:List α}(i:Nat)(hi:L[i]? =some (rowF F T p c xs))(hm:m=xs.length):Knows β L (fun h=>Sl F.R h (.slice p m c) xs):=by subst hm;exact k_fl i hi
theorem k_ptFl{b T:Nat}{fr:Nat×Nat}{z:α}{cs:Array Value}(i:Nat)(hi:L[i]? =some (pt b (.cells cs T fr)))(hz:cs.toList=F.enc z):Knows β L (fun h=>Elems F.R h (some ⟨b,0,none⟩) [z]):=
 Knows.of_res i hi (Elems.mono _ _ _) fun a h j x hx=>by
  cases j with
  |zero=>
   have e:z=x:=by simpa using hx
   subst e
   refine⟨rfl,F.enc z,?_,rfl⟩
   rw[Nat.zero_mul]
   have e0:(ba (some ⟨b,0,none⟩)).add 0=⟨b,0,none⟩:=rfl
   rw[e0]
   exact Cs.of_pt h (by rw[List.drop_zero,hz,List.take_length])
  |succ j=>simp at hx
theorem k_ptFls{b T m:Nat}{fr:Nat×Nat}{xs:List α}{cs:Array Value}(i:Nat)(hi:L[i]? =some (pt b (.cells cs T fr)))(hz:cs.toList=xs.flatMap F.enc)(hm:m=xs.length)(hl:xs.length≤1048576):Knows β L (fun h=>Sl F.R h (.slice (some ⟨b,0,none⟩) m m) xs):=by
 subst hm
 refine Knows.of_res i hi (Sl.mono _ _ _) fun a h=>⟨_,_,rfl,Nat.le_refl _,by omega,fun j x hx=>⟨rfl,F.enc x,?_,rfl⟩⟩
 have e:(ba (some ⟨b,0,none⟩)).add (j*F.R.n)=⟨b,j*F.n,none⟩:=by
  show(⟨b,0,none⟩:Addr).add (j*F.n)=_
  unfold Addr.add;split<;>simp_all
 rw[e]
 exact Cs.of_pt h (by rw[hz];exact fl_at hx)
end
end Go.Sl
namespace Go.Sl
section
variable {P:Program}{ro:Option Nat}{n:Nat}{ds:List Deferred}{β:Base}{Q:Exit→Act→World→Prop}{f:Fm}{L:List Res}
theorem pt_rowF{α:Type}{F:Fl α}{b T:Nat}{cs:Array Value}{xs:List α}(hx:cs.toList=xs.flatMap F.enc)(hl:xs.length≤1048576)(a:PHeap)(h:pt b (.cells cs T) a):rowF F T (some ⟨b,0,none⟩) xs.length xs a:=by
 have hs:cs.size=xs.length*F.n:=by rw[←Array.length_toList,hx,fl_len]
 have:=pt_row (m:=xs.length) (n:=F.n) (by unfold maxLen;omega) hs a h
 rwa [hx]at this
end
end Go.Sl
namespace Go.Sl
section
variable {P:Program}{ro:Option Nat}{n:Nat}{ds:List Deferred}{β:Base}{Q:Exit→Act→World→Prop}{f:Fm}{L:List Res}
variable {d:Option Tmp}{ty:TypeId}{ps:String}{af:Array Edge}{g:Option (Nat×Bool)}{α:Type}{F:Fl α}
theorem m_appendFlN{x y:Operand}{t e bytes k c c0 m:Nat}{p:Option Addr}{xs ys:List α}{ao:Option Addr}(i:Nat)(hsl:slB P t e F.n=true)(hel:elB P e F.n bytes=true)(hx:ev f x= .slice p m c0)(hm:m=xs.length)(hi:L[i]? =some (rowF F e p c0 xs))
 (hy:ev f y= .slice ao k c)(hl:ys.length=k)(hk:Knows β L (fun h=>Elems F.R h ao ys))(hby:(xs.length+k)*bytes≤140737488355328)(h63:xs.length+k≤140737488355328):
  MV P β L f ⟨d,.call ⟨.builtin .append,#[x,y],#[t,t]⟩,ty,ps,af,g⟩ (fun v' L'=>∃p c,v'= .slice p (xs++ys).length c∧L'=L.set i (rowF F e p c (xs++ys))):=by
 subst hm;exact m_appendFl i hsl hel hx hi hy hl hk hby h63
end
end Go.Sl
namespace Go.Hv
open Go.Sl
abbrev cpE(c:KComp):List Value:=[Bx c.kind,Ix c.v0,Ix c.v1,Ix c.v2,Ix c.v3]
abbrev CpF:Fl KComp:=⟨5,cpE,fun _=>rfl,fun _=>rfl,by decide⟩
theorem cp_eq{x y:KComp}:cpE x=cpE y↔x=y:=by
 constructor
 ·intro h
  obtain⟨k,a,b,c,d⟩:=x;obtain⟨k',a',b',c',d'⟩:=y
  simp only[cpE,List.cons.injEq,and_true,Value.int.injEq,true_and]at h
  obtain⟨h0,rfl,rfl,rfl,rfl⟩:=h
  have:k=k':=by apply UInt8.toNat_inj.1;omega
  rw[this]
 ·rintro rfl;rfl
structure KEh where
 id:Int
 p:Option Addr
 n:Nat
 c:Nat
abbrev ehE(x:KEh):List Value:=[Ix x.id,.slice x.p x.n x.c]
abbrev EhF:Fl KEh:=⟨2,ehE,fun _=>rfl,fun _=>rfl,by decide⟩
structure KMg where
 src:Int
 to:Int
 number:Int
 ack:Bool
 id:Int
 p:Option Addr
 n:Nat
 c:Nat
abbrev mgE(x:KMg):List Value:=[Ix x.src,Ix x.to,Ix x.number,.bool x.ack,Ix x.id,.slice x.p x.n x.c]
abbrev MgF:Fl KMg:=⟨6,mgE,fun _=>rfl,fun _=>rfl,by decide⟩
structure KMs where
 src:Int
 to:Int
 number:Int
 ack:Bool
 e:KEnt
deriving DecidableEq
def zeroEh:KEh:=⟨0,none,0,0⟩
abbrev zeroC:KComp:=⟨0,0,0,0,0⟩
def vn(m:Nat):List UInt8:=if m<128 then [UInt8.ofNat m]else UInt8.ofNat (m%128+128)::vn (m/128)
decreasing_by omega
theorem vn_small{m:Nat}(h:m<128):vn m=[UInt8.ofNat m]:=by rw[vn,if_pos h]
theorem vn_big{m:Nat}(h:¬m<128):vn m=UInt8.ofNat (m%128+128)::vn (m/128):=by rw[vn,if_neg h]
theorem vn_len:∀{k m:Nat},m<128^(k+1)→(vn m).length≤k+1
 |0,m,h=>by rw[vn_small (by simpa using h)];simp
 |k+1,m,h=>by
  by_cases c:m<128
  ·rw[vn_small c];simp
  ·rw[vn_big c,List.length_cons]
   have:=vn_len (k:=k) (m:=m/128) (by rw[Nat.div_lt_iff_lt_mul (by decide),←Nat.pow_succ];exact h)
   omega
theorem vn_pos(m:Nat):1≤(vn m).length:=by
 by_cases c:m<128
 ·rw[vn_small c];simp
 ·rw[vn_big c];simp
def zz(n:Int):Nat:=if 0≤n then(2*n).toNat else(-2*n-1).toNat
def uz(m:Nat):Int:=if m%2=0 then((m/2:Nat):Int)else-((m/2:Nat):Int)-1
theorem uz_zz(n:Int):uz (zz n)=n:=by
 unfold uz zz
 by_cases h:0≤n
 ·rw[if_pos h];split<;>omega
 ·rw[if_neg h];split<;>omega
theorem zz_lt{n:Int}(h: -9223372036854775808≤n∧n≤9223372036854775807):zz n<18446744073709551616:=by unfold zz;split<;>omega
abbrev vint(n:Int):List UInt8:=vn (zz n)
theorem vint_len1{n:Int}(h: -64≤n∧n≤63):(vint n).length≤1:=vn_len (k:=0) (by unfold zz;split<;>omega)
theorem vint_len3{n:Int}(h: -1048576≤n∧n≤1048575):(vint n).length≤3:=vn_len (k:=2) (by unfold zz;split<;>omega)
theorem vint_len5{n:Int}(h: -17179869184≤n∧n≤17179869183):(vint n).length≤5:=vn_len (k:=4) (by unfold zz;split<;>omega)
theorem vint_len10{n:Int}(h: -9223372036854775808≤n∧n≤9223372036854775807):(vint n).length≤10:=vn_len (k:=9) (by have:=zz_lt h;omega)
theorem shl1(u:UInt64):(u<<<1).toNat=u.toNat*2%18446744073709551616:=by
 rw[UInt64.toNat_shiftLeft]
 show u.toNat<<<1%18446744073709551616=_
 rw[Nat.shiftLeft_eq]
theorem xor_ones(x:UInt64):(x^^^18446744073709551615).toNat=18446744073709551615-x.toNat:=by
 have:x^^^18446744073709551615= ~~~ x:=by
  apply UInt64.toBitVec_inj.1
  show x.toBitVec^^^18446744073709551615#64= ~~~x.toBitVec
  rw[show(18446744073709551615#64)=BitVec.allOnes 64 from by decide];exact BitVec.xor_allOnes
 rw[this]
 simp[UInt64.toNat_not,UInt64.size]
theorem zz_u{n:Int}(h: -9223372036854775808≤n∧n≤9223372036854775807):((U n<<<1)^^^U (if n<0 then-1 else 0)).toNat=zz n:=by
 unfold zz
 by_cases c:0≤n
 ·rw[if_neg (by omega),if_pos c]
  have h0:U 0=0:=rfl
  have h1:(U n).toNat=n.toNat:=by unfold U;simp;omega
  rw[h0,UInt64.xor_zero,shl1,h1]
  omega
 ·rw[if_pos (by omega),if_neg c]
  have h1:(U n).toNat=(18446744073709551616+n).toNat:=by unfold U;simp;omega
  have h0:U (-1)=18446744073709551615:=by decide+kernel
  rw[h0,xor_ones,shl1,h1]
  omega
theorem or128(x:UInt8):x|||128=UInt8.ofNat (x.toNat%128+128):=by
 have:∀i:Fin 256,UInt8.ofNat i.val|||128=UInt8.ofNat (i.val%128+128):=by decide+kernel
 have h:=this ⟨x.toNat,x.toNat_lt⟩
 simpa using h
theorem and127(x:UInt8):(x&&&127).toNat=x.toNat%128:=by
 have:∀i:Fin 256,(UInt8.ofNat i.val&&&127).toNat=i.val%128:=by decide+kernel
 have h:=this ⟨x.toNat,x.toNat_lt⟩
 simpa using h
theorem byte_or(u:UInt64):u.toUInt8|||128=UInt8.ofNat (u.toNat%128+128):=by
 rw[or128]
 have:u.toUInt8.toNat%128=u.toNat%128:=by rw[UInt64.toNat_toUInt8];omega
 rw[this]
theorem byte_lo{u:UInt64}(h:u.toNat<128):u.toUInt8=UInt8.ofNat u.toNat:=by
 apply UInt8.toNat_inj.1
 rw[UInt64.toNat_toUInt8];simp
theorem b8(n:Nat):(UInt8.ofNat n).toNat=n%256:=by simp
theorem vput_next{u:UInt64}(h:¬u.toNat<128)(xs:List UInt8):(xs++[u.toUInt8|||128])++vn (u>>>7).toNat=xs++vn u.toNat:=by
 rw[vn_big h,byte_or,List.append_assoc]
 have:(u>>>7).toNat=u.toNat/128:=by
  rw[UInt64.toNat_shiftRight]
  show u.toNat>>>(7%64)=_
  rw[Nat.shiftRight_eq_div_pow]
 rw[this];rfl
theorem vput_last{u:UInt64}(h:u.toNat<128)(xs:List UInt8):xs++[u.toUInt8]=xs++vn u.toNat:=by rw[vn_small h,byte_lo h]
structure VRd(m k:Nat)(u:UInt64)(ys:List UInt8)(rest:List UInt8):Prop where
 lt:m<18446744073709551616
 u:u.toNat=m%128^k
 ys:ys=vn (m/128^k)++rest
 k:k=0∨128^k≤m
theorem VRd.start{m:Nat}(h:m<18446744073709551616)(rest:List UInt8):VRd m 0 0 (vn m++rest) rest:=⟨h,by simp[Nat.mod_one],by simp,.inl rfl⟩
theorem VRd.k9{m k:Nat}{u:UInt64}{ys rest:List UInt8}(h:VRd m k u ys rest):k≤9:=by
 rcases h.k with h1|h1
 ·omega
 ·have:=h.lt
  apply Nat.le_of_lt_succ
  refine Decidable.byContradiction fun hk=> ?_
  have h2:128^10≤128^k:=Nat.pow_le_pow_right (by decide) (by omega)
  have h3:128^10=1180591620717411303424:=by decide
  omega
theorem vrd_or{m k:Nat}{u:UInt64}{b:Nat}(hu:u.toNat<128^k)(hb:b<128)(hk:k≤9)(hm:u.toNat+b*128^k<18446744073709551616){c:UInt64}(hc:c.toNat=b):(u|||(c<<<UInt64.ofNat (7*k))).toNat=u.toNat+b*128^k:=by
 have _:=m
 have h7:(128:Nat)^k=2^(7*k):=by rw[Nat.pow_mul]
 rw[UInt64.toNat_or,UInt64.toNat_shiftLeft,hc]
 have h1:(UInt64.ofNat (7*k)).toNat%64=7*k:=by simp;omega
 rw[h1]
 have h2:b<<<(7*k)=b*128^k:=by rw[Nat.shiftLeft_eq,h7]
 rw[h2]
 rw[Nat.mod_eq_of_lt (by omega),←h2,Nat.or_comm,←Nat.shiftLeft_add_eq_or_of_lt (by rw[←h7];exact hu),Nat.add_comm]
theorem VRd.more{m k:Nat}{u:UInt64}{ys rest:List UInt8}(h:VRd m k u ys rest){c:UInt8}{zs:List UInt8}(hy:ys=c::zs)(hc:¬c.toNat<128):VRd m (k+1) (u|||((c&&&127).toUInt64<<<UInt64.ofNat (7*k))) zs rest:=by
 have hk:=h.k9
 have h0:0<128^k:=Nat.pow_pos (by decide)
 by_cases hb:m/128^k<128
 ·have e:=h.ys
  rw[hy,vn_small hb]at e
  injection e with e1 e2
  rw[e1,b8]at hc
  generalize m/128^k=a at hb hc
  omega
 ·have e:=h.ys
  rw[hy,vn_big hb]at e
  injection e with e1 e2
  have hcn:(c&&&127).toUInt64.toNat=m/128^k%128:=by
   rw[UInt8.toNat_toUInt64,and127,e1,b8]
   generalize m/128^k=a at hb
   omega
  have hul:u.toNat<128^k:=by rw[h.u];exact Nat.mod_lt _ h0
  have e3:m%128^(k+1)=m%128^k+m/128^k%128*128^k:=by
   rw[Nat.pow_succ,Nat.mod_mul,Nat.mul_comm (128^k)]
  have h3:m%128^(k+1)≤m:=Nat.mod_le _ _
  refine⟨h.lt,?_,?_,.inr ?_⟩
  ·rw[vrd_or (m:=m) hul (Nat.mod_lt _ (by decide)) hk (by have:=h.lt;rw[h.u];omega) hcn,h.u,e3]
  ·rw[e2,Nat.div_div_eq_div_mul,←Nat.pow_succ];rfl
  ·rw[Nat.pow_succ]
   have:128≤m/128^k:=by omega
   calc 128^k*128≤128^k*(m/128^k):=Nat.mul_le_mul_left _ this
    _≤m:=Nat.mul_div_le _ _
theorem VRd.last{m k:Nat}{u:UInt64}{ys rest:List UInt8}(h:VRd m k u ys rest){c:UInt8}{zs:List UInt8}(hy:ys=c::zs)(hc:c.toNat<128):(u|||((c&&&127).toUInt64<<<UInt64.ofNat (7*k))).toNat=m∧zs=rest:=by
 have hk:=h.k9
 have h0:0<128^k:=Nat.pow_pos (by decide)
 by_cases hb:m/128^k<128
 ·have e:=h.ys
  rw[hy,vn_small hb]at e
  injection e with e1 e2
  have hcn:(c&&&127).toUInt64.toNat=m/128^k:=by
   rw[UInt8.toNat_toUInt64,and127,e1,b8]
   generalize m/128^k=a at hb
   omega
  have hul:u.toNat<128^k:=by rw[h.u];exact Nat.mod_lt _ h0
  have e3:m%128^k+m/128^k*128^k=m:=Nat.mod_add_div' m _
  exact⟨by rw[vrd_or (m:=m) hul hb hk (by have:=h.lt;rw[h.u];omega) hcn,h.u,e3],e2⟩
 ·have e:=h.ys
  rw[hy,vn_big hb]at e
  injection e with e1 e2
  rw[e1,b8]at hc
  generalize m/128^k=a at hb hc
  omega
theorem VRd.cons{m k:Nat}{u:UInt64}{ys rest:List UInt8}(h:VRd m k u ys rest):∃c zs,ys=c::zs:=by
 rw[h.ys]
 by_cases hb:m/128^k<128
 ·rw[vn_small hb];exact⟨_,_,rfl⟩
 ·rw[vn_big hb];exact⟨_,_,rfl⟩
abbrev BytF:Fl UInt8:=⟨1,fun x=>[Bx x],fun _=>rfl,fun _=>rfl,by decide⟩
abbrev IntF:Fl Int:=⟨1,fun x=>[Ix x],fun _=>rfl,fun _=>rfl,by decide⟩
abbrev sgn(n:Int):Int:=if n<0 then-1 else 0
theorem shr63{a:Int}(h: -9223372036854775808≤a∧a≤9223372036854775807):a.fdiv (2^(min (63:Int).toNat IntKind.i64.bits))=sgn a:=by
 have e:(2:Int)^(min (63:Int).toNat IntKind.i64.bits)=9223372036854775808:=by decide
 rw[e]
 unfold sgn
 rw[Int.fdiv_eq_ediv_of_nonneg _ (by decide)]
 split<;>omega
theorem wrap64(x:Nat)(h:x<18446744073709551616):IntKind.i64.wrap (x:Int)=if x<9223372036854775808 then(x:Int)else(x:Int)-18446744073709551616:=by
 unfold IntKind.wrap
 simp only[IntKind.bits,IntKind.signed]
 simp
 by_cases c:x<9223372036854775808
 ·rw[if_pos c,if_neg (by omega)];omega
 ·rw[if_neg c,if_pos (by omega)];omega
theorem dec_xor(u:UInt64):IntKind.i64.wrap ((BitVec.ofInt IntKind.i64.bits (((u>>>(1:UInt64)).toNat:Nat):Int)^^^BitVec.ofInt IntKind.i64.bits (0-(((u&&&(1:UInt64)).toNat:Nat):Int))).toNat:Int)=uz u.toNat:=by
 have h1:(u>>>(1:UInt64)).toNat=u.toNat/2:=by
  rw[UInt64.toNat_shiftRight]
  show u.toNat>>>(1%64)=_
  rw[Nat.shiftRight_eq_div_pow]
 have h2:(u&&&(1:UInt64)).toNat=u.toNat%2:=by
  rw[UInt64.toNat_and]
  exact Nat.and_one_is_mod _
 have hu:=u.toNat_lt
 rw[h1,h2]
 show IntKind.i64.wrap ((BitVec.ofInt 64 _^^^BitVec.ofInt 64 _).toNat:Int)=_
 unfold uz
 rcases Nat.mod_two_eq_zero_or_one u.toNat with h|h
 ·rw[h,if_pos rfl]
  have e:(BitVec.ofInt 64 (((u.toNat/2:Nat)):Int)^^^BitVec.ofInt 64 (0-((0:Nat):Int))).toNat=u.toNat/2:=by
   rw[show BitVec.ofInt 64 (0-((0:Nat):Int))=0#64 from rfl,BitVec.xor_zero,BitVec.ofInt_natCast,BitVec.toNat_ofNat]
   omega
  rw[e,wrap64 _ (by omega),if_pos (by omega)]
 ·rw[h,if_neg (by decide)]
  have e:(BitVec.ofInt 64 (((u.toNat/2:Nat)):Int)^^^BitVec.ofInt 64 (0-((1:Nat):Int))).toNat=18446744073709551615-u.toNat/2:=by
   rw[show BitVec.ofInt 64 (0-((1:Nat):Int))=BitVec.allOnes 64 by decide,BitVec.xor_allOnes,BitVec.toNat_not,BitVec.ofInt_natCast,BitVec.toNat_ofNat]
   omega
  rw[e,wrap64 _ (by omega),if_neg (by omega)]
  omega
end Go.Hv
