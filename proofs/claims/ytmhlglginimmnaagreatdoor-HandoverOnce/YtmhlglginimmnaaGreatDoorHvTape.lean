/-
  A tape that is read. Own work; plain Lean.
-/
import Derived.Test.YtmhlglginimmnaaGreatDoorHv1
set_option linter.all false
namespace Go.Hv
open Go Go.Sl Go.Proofs
def tpR(H:PHeap)(T:Nat)(bs:List UInt8):Res:=fun h=>∃a c,Sl BytF.R H (.slice a bs.length c) bs∧pt T (.cells #[.slice a bs.length c,.bool false] 112) h
theorem St.openTp{β:Base}{H:PHeap}{T:Nat}{bs:List UInt8}{M:List Res}{w:World}(h:St β (tpR H T bs::M) w):∃a c,Sl BytF.R H (.slice a bs.length c) bs∧St β (pt T (.cells #[.slice a bs.length c,.bool false] 112)::M) w:=by
 obtain⟨ho,ht,hp,a,hd,hs,hs',q,r,h1,h2,h3,⟨a',c,hk,hx⟩,h5⟩:=h
 exact⟨a',c,hk,ho,ht,hp,a,hd,hs,hs',q,r,h1,h2,h3,hx,h5⟩
theorem St.closeTp{β:Base}{H:PHeap}{T:Nat}{bs:List UInt8}{a:Option Addr}{c:Nat}{M:List Res}{w:World}(hs:Sl BytF.R H (.slice a bs.length c) bs)(h:St β (pt T (.cells #[.slice a bs.length c,.bool false] 112)::M) w):St β (tpR H T bs::M) w:=
 St.merge (L:=[pt T (.cells #[.slice a bs.length c,.bool false] 112)]) h fun x hx=>by
  obtain⟨y,z,_,s1,_,h1,_⟩:=hx
  exact⟨a,c,hs,s1 _ _ h1⟩
theorem drop_cons{α:Type}{xs:List α}{k:Nat}{x:α}(h:xs[k]? =some x):xs.drop k=x::xs.drop (k+1):=by
 obtain⟨hk,rfl⟩:=List.getElem?_eq_some_iff.1 h
 exact List.drop_eq_getElem_cons hk
theorem VRd.lt_len{m k:Nat}{u:UInt64}{bs rest:List UInt8}(h:VRd m k u (bs.drop k) rest):k<bs.length:=by
 obtain⟨c,zs,e⟩:=h.cons
 refine Decidable.byContradiction fun q=> ?_
 rw[List.drop_eq_nil_of_le (by omega)]at e;cases e
section
variable {P:Program}{ro:Option Nat}{n:Nat}{ds:List Deferred}{β:Base}{Q:Exit→Act→World→Prop}{f:Fm}{L:List Res}
theorem c_closeTp{c:Code}{H:PHeap}{T:Nat}{bs:List UInt8}{a:Option Addr}{k:Nat}{M:List Res}(hL:L=pt T (.cells #[.slice a bs.length k,.bool false] 112)::M)(hs:Sl BytF.R H (.slice a bs.length k) bs)(K:RunC P ro n ds β c Q f (tpR H T bs::M)):RunC P ro n ds β c Q f L:=fun x w ha hw=>by
 subst hL;exact K x w ha (St.closeTp hs hw)
end
end Go.Hv
