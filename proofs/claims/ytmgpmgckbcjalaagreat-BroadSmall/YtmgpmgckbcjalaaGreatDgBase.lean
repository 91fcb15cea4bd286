/-
  The data of layer 4: how components, entities and worlds lie in memory. Own work; plain Lean.
-/
import Derived.Test.YtmgpmgckbcjalaaGreatSlNum
namespace Go.Sl
structure KComp where
 kind:UInt8
 v0:Int
 v1:Int
 v2:Int
 v3:Int
 deriving DecidableEq
structure KEnt where
 id:Int
 comps:List KComp
 deriving DecidableEq
structure KWorld where
 tick:Int
 ents:List KEnt
 deriving DecidableEq
def U8R:Rp UInt8:=Rp.flat 1 (fun x=>[Bx x]) (fun _=>rfl)
theorem take_succ{α:Type}{xs:List α}{k:Nat}{a:α}(h:xs[k]? =some a):xs.take (k+1)=xs.take k++[a]:=by
 rw[List.take_add_one,h];rfl
theorem take_prefix{α:Type}{xs:List α}{k:Nat}{a:α}(h:xs[k]? =some a):xs.take k++[a]<+:xs:=by
 rw[←take_succ h];exact List.take_prefix _ _
end Go.Sl
