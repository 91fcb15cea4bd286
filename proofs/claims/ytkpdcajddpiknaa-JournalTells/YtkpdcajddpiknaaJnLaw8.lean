/-
  What a step costs: with p strokes of power it holds exactly where its cost is at most p, and what is left is p less the cost.
-/
import Derived.Test.YtkpdcajddpiknaaJnLaw7
namespace Go.Jn
open Go Go.Sl
end Go.Jn
