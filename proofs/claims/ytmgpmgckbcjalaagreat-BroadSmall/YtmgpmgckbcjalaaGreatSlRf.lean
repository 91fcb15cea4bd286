/-
  More rules: slicing by numbers of any kind, memory that is only read from here on, the spare cells of a slice. Own work; plain Lean.
-/
import Derived.Test.YtmgpmgckbcjalaaGreatSlByte
namespace Go.Sl
section
variable {P:Program}{ro:Option Nat}{n:Nat}{ds:List Deferred}{β:Base}{Q:Exit→Act→World→Prop}{f:Fm}{L:List Res}{ops:Array Oper}{rest:List Oper}
variable {d:Option Tmp}{ty:TypeId}{ps:String}{af:Array Edge}{g:Option (Nat×Bool)}
theorem Sat.head{r:Res}{rs:List Res}{h:PHeap}(hL:Sat (r::rs) h):∃a,Sub a h∧r a:=let⟨a,_,_,ha,_,hr,_⟩:=hL;⟨a,ha,hr⟩
end
end Go.Sl
namespace Go.Sl
end Go.Sl
namespace Go.Sl
theorem perm_range{α:Type _}(L:List α):L.Perm ((List.range L.length).filterMap (L[·]?)):=by
 have:(List.range L.length).filterMap (L[·]?)=L:=by
  induction L with
  |nil=>rfl
  |cons a l ih=>
   rw[List.length_cons,List.range_succ_eq_map,List.filterMap_cons,List.filterMap_map]
   simp only[List.getElem?_cons_zero]
   congr 1
 rw[this]
theorem perm_ix{α:Type _}{L L':List α}(ix:List Nat)(n:Nat)(hn:L.length=n)(h:(List.range n).isPerm ix=true)(e:ix.filterMap (L[·]?)=L'):L.Perm L':=by
 subst e;subst hn
 exact(perm_range L).trans ((List.isPerm_iff.1 h).filterMap _)
end Go.Sl
