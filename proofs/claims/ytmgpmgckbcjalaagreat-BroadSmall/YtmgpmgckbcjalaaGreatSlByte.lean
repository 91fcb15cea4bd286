/-
  Rows of bytes and of texts, one's own or only read. Own work; plain Lean.
-/
import Derived.Test.YtmgpmgckbcjalaaGreatSlJn
import Derived.Test.YtmgpmgckbcjalaaGreatDgBase
namespace Go.Sl
open Go.RowKit
abbrev Bs:=List UInt8
abbrev str(bs:Bs):ByteArray:=⟨bs.toArray⟩
def inn(us:List Value)(xs:List Bs):Res:=fun h=>us.length=xs.length∧∀(i:Nat) x u,xs[i]? =some x→us[i]? =some u→Sl U8R h u x
theorem inn.mono(us:List Value)(xs:List Bs):Mono (inn us xs):=fun _ _ hs ⟨h1,h2⟩=>⟨h1,fun i x u hx hu=>Sl.mono U8R u x _ _ hs (h2 i x u hx hu)⟩
def shp(us:List Value):Res:=fun h=>∀u∈us,u= .slice none 0 0∨∃g m c cur,u= .slice (some ⟨g,0,none⟩) m c∧h g=some (.cells cur 5 (0,0))∧m≤c∧c≤maxLen∧cur.size=c
theorem shp.mono(us:List Value):Mono (shp us):=fun _ _ hs h u hu=>(h u hu).imp id fun⟨g,m,c,cur,e,hg,r⟩=>⟨g,m,c,cur,e,hs _ _ hg,r⟩
def ins(us:List Value)(xs:List Bs):Res:=fun h=>inn us xs h∧shp us h
theorem ins.mono(us:List Value)(xs:List Bs):Mono (ins us xs):=fun _ _ hs ⟨h1,h2⟩=>⟨inn.mono _ _ _ _ hs h1,shp.mono _ _ _ hs h2⟩
theorem Sl.parts{α:Type}{R:Rp α}{h:PHeap}{p:Option Addr}{n c:Nat}{xs:List α}(hs:Sl R h (.slice p n c) xs):n=xs.length∧xs.length≤c∧c≤9223372036854775807∧Elems R h p xs:=by
 obtain⟨a,c',e,h1,h2,h3⟩:=hs.get
 injection e with e1 e2 e3
 subst e1;subst e2;subst e3
 exact⟨rfl,h1,h2,h3⟩
end Go.Sl
