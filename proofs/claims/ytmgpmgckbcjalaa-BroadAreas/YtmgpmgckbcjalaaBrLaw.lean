/-
  The chapter's laws in plain terms. Own work; plain Lean.
-/
import Derived.Test.YtmgpmgckbcjalaaBrSp
namespace Go.Brd
open Go.Sl Go.Proofs
structure KF where
  x : UInt8
  y : UInt8
  w : UInt8
  h : UInt8
  deriving DecidableEq
/-! a space that is filled -/
/-! without -/
/-! areas -/
theorem comR_yes {a b : KA} (h : meetA a b) : comR a b = comA a b := if_pos h
theorem comR_no {a b : KA} (h : ¬ meetA a b) : comR a b = zeroA := if_neg h
end Go.Brd
