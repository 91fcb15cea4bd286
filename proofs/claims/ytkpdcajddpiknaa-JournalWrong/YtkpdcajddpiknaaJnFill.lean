/-
  An array literal of four structs of four cells.
-/
import Derived.Test.YtkpdcajddpiknaaSlFam
namespace Go.Sl
open Go
theorem fill4 (z a0 a1 a2 a3 b0 b1 b2 b3 c0 c1 c2 c3 d0 d1 d2 d3 : Value) (z0 : Value) (hz : z = .agg #[z0, z0, z0, .int .i64 0, z0, z0, z0, .int .i64 0, z0, z0, z0, .int .i64 0, z0, z0, z0, .int .i64 0]) :
    Instr.fill (fun i => some (i * 4, 4)) z.cells [(0, .agg #[a0, a1, a2, a3]), (1, .agg #[b0, b1, b2, b3]), (2, .agg #[c0, c1, c2, c3]), (3, .agg #[d0, d1, d2, d3])] = some #[a0, a1, a2, a3, b0, b1, b2, b3, c0, c1, c2, c3, d0, d1, d2, d3] := by
  subst hz
  kernel_rfl
end Go.Sl
