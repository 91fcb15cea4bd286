/-
 Sums are kept: the law's plain part. Own work; plain Lean.
-/
import Derived.Test.YtjejfkajcbdgjaaGreatTdHouE
namespace Go.Td
open Go Go.Sl Go.Proofs Go.Jn
section
variable {X : KHs} (h : XOk X)
include h
theorem own_few : (ownersX X).length ≤ 256 := by unfold ownersX; rw [(sortI_perm _).length_eq, List.length_map]; exact h.g.p.pn
theorem hold_few : (holdsX X).length ≤ 128 := by unfold holdsX; rw [List.length_map, (sortI_perm _).length_eq, List.length_map]; exact h.g.h.hn
end
end Go.Td
