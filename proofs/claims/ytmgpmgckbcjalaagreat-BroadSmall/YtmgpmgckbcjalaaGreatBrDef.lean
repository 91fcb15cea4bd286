/-
 Areas and pairs in plain terms, and how they lie in memory. Own work; plain Lean.
-/
import Derived.Test.YtmgpmgckbcjalaaGreatSlFam
import Derived.Test.YtmgpmgckbcjalaaGreatSlMap
import Derived.Test.YtmgpmgckbcjalaaGreatSlAny
import Derived.Test.YtmgpmgckbcjalaaGreatSlEq
import Derived.Test.YtmgpmgckbcjalaaGreatSlJb
import Derived.Test.YtmgpmgckbcjalaaGreatSlTail
import Derived.Test.YtmgpmgckbcjalaaGreatSlFlat
namespace Go.Brd
open Go.Sl
structure KA where
 lx:Int
 ly:Int
 hx:Int
 hy:Int
 deriving DecidableEq
structure KP where
 a:Int
 b:Int
 deriving DecidableEq
structure KT where
 id:Int
 ar:KA
 deriving DecidableEq
def okSpan(l h:Int):Prop:= -2097152≤l∧l≤h∧h≤2097152
instance (l h:Int):Decidable (okSpan l h):=by unfold okSpan;infer_instance
def okA(a:KA):Prop:=okSpan a.lx a.hx∧okSpan a.ly a.hy
instance (a:KA):Decidable (okA a):=by unfold okA;infer_instance
def comA(a b:KA):KA:=⟨max a.lx b.lx,max a.ly b.ly,min a.hx b.hx,min a.hy b.hy⟩
def joinA(a b:KA):KA:=⟨min a.lx b.lx,min a.ly b.ly,max a.hx b.hx,max a.hy b.hy⟩
def meetA(a b:KA):Prop:=okA a∧okA b∧okA (comA a b)
instance (a b:KA):Decidable (meetA a b):=by unfold meetA;infer_instance
def zeroA:KA:=⟨0,0,0,0⟩
def comR(a b:KA):KA:=if meetA a b then comA a b else zeroA
def joinR(a b:KA):KA:=if okA a∧okA b then joinA a b else zeroA
abbrev areaE(a:KA):List Value:=[Ix a.lx,Ix a.ly,Ix a.hx,Ix a.hy]
abbrev aC(a:KA):Array Value:= #[Ix a.lx,Ix a.ly,Ix a.hx,Ix a.hy]
abbrev pairE(p:KP):List Value:=[Ix p.a,Ix p.b]
abbrev thingE(t:KT):List Value:=[Ix t.id,Ix t.ar.lx,Ix t.ar.ly,Ix t.ar.hx,Ix t.ar.hy]
def KAR:Rp KA:=Rp.flat 4 areaE (fun _=>rfl)
abbrev AreaF:Fl KA:=⟨4,areaE,fun _=>rfl,fun _=>rfl,by decide⟩
abbrev PairF:Fl KP:=⟨2,pairE,fun _=>rfl,fun _=>rfl,by decide⟩
abbrev ThingF:Fl KT:=⟨5,thingE,fun _=>rfl,fun _=>rfl,by decide⟩
theorem area_eq{x y:KA}:areaE x=areaE y↔x=y:=by
 constructor
 ·intro h;cases x;cases y;simp at h;simp[h]
 ·rintro rfl;rfl
theorem pair_eq{x y:KP}:pairE x=pairE y↔x=y:=by
 constructor
 ·intro h;cases x;cases y;simp at h;simp[h]
 ·rintro rfl;rfl
end Go.Brd
