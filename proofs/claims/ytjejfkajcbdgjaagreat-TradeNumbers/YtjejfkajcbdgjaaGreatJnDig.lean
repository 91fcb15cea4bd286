/-
 The digests are one-to-one in each part. Own work; plain Lean.
-/
import Derived.Test.YtjejfkajcbdgjaaGreatJnDef
namespace Go.Jn
open Go.Sl
theorem U_toNat {n : Nat} (h : n < 18446744073709551616) : (U (n : Int)).toNat = n := by
 have h1 := ux_of (n : Int)
 rw [u64w] at h1
 omega
end Go.Jn
