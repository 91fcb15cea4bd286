/-
  Panics that pass through; regions that draw their order but for a last operation, which may do anything; pure facts and bundles as resources. Own work; plain Lean.
-/
import Derived.Test.YtmgpmgckbcjalaaGreatSlFam
import Derived.Recover
import Derived.Laws.Pointers
import Derived.Laws.Cover3
namespace Go.Sl
section
variable {P:Program}{ro:Option Nat}{n:Nat}{ds:List Deferred}{β:Base}{Q:Exit→Act→World→Prop}{f:Fm}{L:List Res}{ops:Array Oper}{rest:List Oper}
variable {d:Option Tmp}{ty:TypeId}{ps:String}{af:Array Edge}{g:Option (Nat×Bool)}
theorem St.unbun{M:List Res}{w:World}(h:St β (Sat L::M) w):St β (L++M) w:=by
 obtain⟨ho,ht,hp,a,hd,hs,hs',hL⟩:=h
 exact⟨ho,ht,hp,a,hd,hs,hs',Sat.append.2 hL⟩
theorem c_conseq{c:Code}{r r':Res}(i:Nat)(hi:L[i]? =some r)(hr:∀a,r a→r' a)(k:RunC P ro n ds β c Q f (L.set i r')):RunC P ro n ds β c Q f L:=fun a w ha hw=>k a w ha (hw.conseq_at i hi hr)
theorem e_neq_pnil{t t':TypeId}{x y:Operand}{p:Option Addr}(hx:ev f x= .pointer p)(hy:ev f y= .pointer none)(h:P.underlying t=some (.pointer (P.pointee t))):EV P β L f ⟨d,.binOp .neq t x y t',ty,ps,af,g⟩ (.bool (!p.isNone)):=fun w _=>by
 simp[execOp,hx,hy,eqGuard,run_neq_pointer_nil w t p h]
end
section
variable {P:Program}{ro:Option Nat}{n:Nat}{ds:List Deferred}{β:Base}{Q:Exit→Act→World→Prop}
end
end Go.Sl
