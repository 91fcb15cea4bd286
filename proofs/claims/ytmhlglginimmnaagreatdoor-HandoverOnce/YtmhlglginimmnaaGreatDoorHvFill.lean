/-
  Functions that fill a tape. Own work; plain Lean.
-/
import Derived.Test.YtmhlglginimmnaaGreatDoorHv17
set_option linter.all false
namespace Go.Hv
open Go Go.Sl Go.Proofs
abbrev tL(T:Nat)(p:Option Addr)(c:Nat)(bad:Bool)(xs:List UInt8):List Res:=[pt T (.cells #[.slice p xs.length c,.bool bad] 112),rowF BytF 5 p c xs]
def FillV(β:Base)(fn:Value)(bs:List UInt8):Prop:=
 ∃(g:Nat) (fst cap:List Value),fn= .func (.func g) fst.toArray cap.toArray∧cfB Tryz.prog g=true∧∀β₁:Base,Sub β.heap β₁.heap→∀(T:Nat) (p:Option Addr) (c:Nat) (bad:Bool) (xs:List UInt8),xs.length≤100→∀w,St β₁ (tL T p c bad xs) w→
  Calls Tryz.prog g (fst++[Value.pointer (some ⟨T,0,none⟩)]++cap).toArray w fun r w'=>∃p c,r= .returned (.tuple #[])∧St β₁ (tL T p c bad (xs++bs)) w'
theorem FillV.mono{β β':Base}{fn:Value}{bs:List UInt8}(h:FillV β fn bs)(hs:Sub β.heap β'.heap):FillV β' fn bs:=by
 obtain⟨g,fst,cap,e,hc,hk⟩:=h
 exact⟨g,fst,cap,e,hc,fun β₁ h1=>hk β₁ (hs.trans h1)⟩
end Go.Hv
