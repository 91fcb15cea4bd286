/-
  The map of the kinds of records. Own work; plain Lean.
-/
import Derived.Test.YtmhlglginimmnaaGreatDoorHv16
set_option linter.all false
namespace Go.Sl
section
variable {P:Program}{β:Base}{f:Fm}{L:List Res}
variable {d:Option Tmp}{ty:TypeId}{ps:String}{af:Array Edge}{g:Option (Nat×Bool)}
theorem e_neq_fnil{t t':Nat}{x y:Operand}{h:FuncId}{fs cs:Array Value}{a:Array TypeId}{b:Array TypeId}{c:Bool}(hx:ev f x= .func (.func h) fs cs)(hy:ev f y= .nilFunc)(ht:P.underlying t=some (.func a b c)):EV P β L f ⟨d,.binOp .neq t x y t',ty,ps,af,g⟩ (.bool true):=fun w _=>by
 have e:(Op.equal t (.func (.func h) fs cs) .nilFunc).run P w= .ok false w:=by
  unfold Op.equal
  show(Op.equalIn (9999+1) t _ _).run P w=_
  unfold Op.equalIn
  simp[run_underlying ht]
 have hb:(binOp .neq t (.func (.func h) fs cs) .nilFunc).run P w= .ok (.bool true) w:=by
  simp only[binOp]
  simp[e]
 simp[execOp,hx,hy,eqGuard,hb]
end
end Go.Sl
namespace Go.Proofs
open Go Go.Sl Go.Hv
noncomputable def FnM:MapK Tryz.prog Int Value where
 t:=133
 kt:=3
 et:=1
 dec:=inferInstance
 enc:=fun x=>Ix x
 encv:=fun a=>a
 zv:= .nilFunc
 ht:=by kernel_rfl
 hz:=by kernel_rfl
 chk:=fun e a w=>by
  unfold Instr.checkKey
  simp only[Sem.run_bind,run_underlying (show Tryz.prog.underlying 3=some (.int .i64) by kernel_rfl),Result.andThen_ok]
  rfl
 find:=find_plain (d:= .int .i64) (by kernel_rfl) fun a b=>congrArg some (show(a==b)=decide (a=b) by by_cases h:a=b<;>simp[h])
 bits:=fun a=>by unfold Instr.sameBits;simp
abbrev pv(q:Nat):Value:= .pointer (some ⟨q,0,none⟩)
def kindsV(q6 q3 q4:Nat):List (Int×Value):=[(1,.func (.func 65) #[] #[pv q6,pv q3]),(2,.func (.func 67) #[] #[pv q3,pv q6]),(3,.func (.func 69) #[] #[pv q6,pv q3,pv q4]),(4,.func (.func 73) #[] #[pv q6,pv q3]),(5,.func (.func 74) #[] #[pv q6,pv q3]),(6,.func (.func 77) #[] #[pv q3,pv q6,pv q4])]
theorem play_call{X:KG}{N:Int}(hX:XOk X N)(hN:N≤4611686018427387000)(o:KOp)(ho:OpIn X o)(q6 q3 q4:Nat):∃(gg:Nat) (cl:List Value),(FnM.look (kindsV q6 q3 q4) (opK o)).getD .nilFunc= .func (.func gg) #[] cl.toArray∧cfB Tryz.prog gg=true∧
  ∀(β:Base) (w:World) (dn:Bool) (H:PHeap) (_:Sub H β.heap) (T G J:Nat) (_:Cs β.heap ⟨q6,0,none⟩ [.pointer (some ⟨T,0,none⟩)]) (_:Cs β.heap ⟨q3,0,none⟩ [.pointer (some ⟨G,2,none⟩)]) (_:Cs β.heap ⟨q4,0,none⟩ [Ix X.zone]) (_:St β [tpR H T (opT o),gvR G J X dn] w),
  Calls Tryz.prog gg cl.toArray w fun r w'=>r= .returned (.tuple #[])∧St β [gvR G J (playX X o) dn] w':=by
 cases o with
 |put e=>exact⟨65,[pv q6,pv q3],rfl,by kernel_rfl,fun β w dn H hH T G J h6 h3 h4 hw=>pput_ok β w X N hX dn H hH T G J q6 q3 q4 h6 h3 h4 e ho.1 ho.2.1 ho.2.2 (by rw[show entB e++[]=opT (.put e)from List.append_nil _];exact hw)⟩
 |drop id=>exact⟨67,[pv q3,pv q6],rfl,by kernel_rfl,fun β w dn H hH T G J h6 h3 h4 hw=>pdrop_ok β w X N hX dn H hH T G J q6 q3 q4 h6 h3 h4 id ho (by rw[show vint id++[]=opT (.drop id)from List.append_nil _];exact hw)⟩
 |give id to=>exact⟨69,[pv q6,pv q3,pv q4],rfl,by kernel_rfl,fun β w dn H hH T G J h6 h3 h4 hw=>pgive_ok β w X N hX dn H hH T G J q6 q3 q4 h6 h3 h4 hN id to ho.1 ho.2.1 ho.2.2.1 ho.2.2.2 (by rw[show vint id++(vint to++[])=opT (.give id to) by rw[List.append_nil];rfl];exact hw)⟩
 |take frm e=>exact⟨73,[pv q6,pv q3],rfl,by kernel_rfl,fun β w dn H hH T G J h6 h3 h4 hw=>ptake_ok β w X N hX dn H hH T G J q6 q3 q4 h6 h3 h4 (Int.le_trans hN (by decide)) frm ho.1 e ho.2.1 ho.2.2.1 ho.2.2.2 (by rw[show vint frm++(entB e++[])=opT (.take frm e) by rw[List.append_nil];rfl];exact hw)⟩
 |ack frm n=>exact⟨74,[pv q6,pv q3],rfl,by kernel_rfl,fun β w dn H hH T G J h6 h3 h4 hw=>pack_ok β w X N hX dn H hH T G J q6 q3 q4 h6 h3 h4 frm n ho.1 ho.2 (by rw[show vint frm++(vint n++[])=opT (.ack frm n) by rw[List.append_nil];rfl];exact hw)⟩
 |all Y=>
  obtain⟨hf,M,hY,hM⟩:=ho
  subst hf
  exact⟨77,[pv q3,pv q6,pv q4],rfl,by kernel_rfl,fun β w dn H hH T G J h6 h3 h4 hw=>pall_ok β w Y M hY hM dn H hH T G J q6 q3 q4 h6 h3 h4 hw⟩
theorem fkinds_put(q6 q3 q4:Nat):FnM.put (FnM.put (FnM.put (FnM.put (FnM.put (FnM.put [] 1 (.func (.func 65) #[] #[pv q6,pv q3])) 2 (.func (.func 67) #[] #[pv q3,pv q6])) 3 (.func (.func 69) #[] #[pv q6,pv q3,pv q4])) 4 (.func (.func 73) #[] #[pv q6,pv q3])) 5 (.func (.func 74) #[] #[pv q6,pv q3])) 6 (.func (.func 77) #[] #[pv q3,pv q6,pv q4])=kindsV q6 q3 q4:=by rfl
theorem opK_small(o:KOp):1≤opK o∧opK o≤6:=by cases o<;>simp[opK]
end Go.Proofs
