/-
 The chapter's laws in plain terms. Own work; plain Lean.
-/
import Derived.Test.YtmgpmgckbcjalaaGreatBrSp
namespace Go.Brd
open Go.Sl Go.Proofs
structure KF where
 x:UInt8
 y:UInt8
 w:UInt8
 h:UInt8
 deriving DecidableEq
theorem meet_touch{a b:KA}(ha:okA a)(hb:okA b):meetA a b↔touchA a b:=⟨fun h=>(touch_com ha hb).1 h.2.2,fun h=>⟨ha,hb,(touch_com ha hb).2 h⟩⟩
theorem comR_yes{a b:KA}(h:meetA a b):comR a b=comA a b:=if_pos h
theorem comR_no{a b:KA}(h:¬meetA a b):comR a b=zeroA:=if_neg h
end Go.Brd
