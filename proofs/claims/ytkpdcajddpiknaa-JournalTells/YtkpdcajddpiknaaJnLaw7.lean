/-
  Own work; plain Lean (JnLaw5, JnLaw6, JnLaw7).
-/
import Derived.Test.YtkpdcajddpiknaaJnLaw4
namespace Go.Jn
open Go.Sl

end Go.Jn

namespace Go.Jn
open Go.Sl

end Go.Jn

namespace Go.Jn
open Go Go.Sl
theorem be_word {s : Bs} (h : s.length = 8) : be 8 (wordU s) = s := wordU_inj (by rw [be_length]; omega) (by rw [be_length, h]) (wordU_be8 _)
end Go.Jn
