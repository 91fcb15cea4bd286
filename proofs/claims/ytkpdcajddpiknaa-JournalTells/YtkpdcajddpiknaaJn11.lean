/-
 JournalKeeps, walked. Printed by a program of my own.
-/
import Derived.Test.YtkpdcajddpiknaaJn10
import Derived.Test.YtkpdcajddpiknaaSlC
namespace Go.Proofs
open Go Go.Sl Go.Jn
end Go.Proofs
