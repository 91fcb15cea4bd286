/-
 grown, walked. Printed by a program of my own.
-/
import Derived.Test.YtkpdcajddpiknaaJn11
import Derived.Test.YtkpdcajddpiknaaJnLaw7
import Derived.Test.YtkpdcajddpiknaaSlC
namespace Go.Proofs
open Go Go.Sl Go.Jn
end Go.Proofs
