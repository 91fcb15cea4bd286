/-
  Maps: a block of one's own, or of the base, that holds a list of keys and values. Own work; plain Lean.
-/
import Derived.Test.YtmgpmgckbcjalaaGreatSlFam
import Derived.MapKept
namespace Go.Sl
theorem run_getM{P:Program}{w:World}{r:Nat}{es:Array MapEntry}{clock:Nat}(hb:w.heap[r]? =some (.map es clock)):(getObj r).run P w= .ok (.map es clock) w:=by
 simp[getObj,Sem.run,hb]
theorem run_setM{P:Program}{w:World}{r:Nat}{es:Array MapEntry}{clock:Nat}(o:Obj)(hb:w.heap[r]? =some (.map es clock)):(setObj r o).run P w= .ok () {w with heap:=w.heap.setIfInBounds r o}:=by
 simp[setObj,Sem.run,hb]
structure Key(κ:Type) where
 dec:DecidableEq κ
 enc:κ→Value
 d:TypeDesc
 same:∀a b,Instr.sameNow d (enc a) (enc b)=some (decide (a=b))
 bits:∀a,Instr.sameBits 10000 (enc a) (enc a)=true
 chk:∀(P:Program) (t:Nat),P.underlying t=some d→∀e a w,(Instr.checkKey e 10000 t (enc a)).run P w= .ok () w
section
variable {κ:Type}(K:Key κ)
def mapC(ks:List (κ×Value))(es:Array MapEntry):Prop:=es.toList.map (fun e=>(e.key,e.val))=ks.map fun p=>(K.enc p.1,p.2)
def mapR(b:Nat)(ks:List (κ×Value)):Res:=fun h=>∃es clock,h b=some (.map es clock)∧mapC K ks es
theorem mapR.mono(b:Nat)(ks:List (κ×Value)):Mono (mapR K b ks):=fun _ _ hs ⟨es,c,h,k⟩=>⟨es,c,hs _ _ h,k⟩
variable {P:Program}{ro:Option Nat}{n:Nat}{ds:List Deferred}{β:Base}{Q:Exit→Act→World→Prop}{f:Fm}{L:List Res}{ops:Array Oper}{rest:List Oper}
variable {d:Option Tmp}{ty:TypeId}{ps:String}{af:Array Edge}{g:Option (Nat×Bool)}
end
end Go.Sl
