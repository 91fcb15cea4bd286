/-
 The chapter's examples: walked. Printed by a program of my own.
-/
import Derived.Test.YtdkibofhppgbjaaGreatDoorIsAwk
namespace Go.Isl
open Go.Sl Go.Brd Go.Stp Go.Proofs
end Go.Isl
namespace Go.Proofs
open Go Go.Sl Go.Brd Go.Stp Go.Isl
theorem islandsM_ok (β : Base) (w : World) (hw : St β [] w) (v u : Value) (gx gy : Int) (bs : List KB) (rs : List KR) (hs_ : Sl KBR β.heap v bs) (hr_ : Sl KRR β.heap u rs) (hgx : -9223372036854775808 ≤ gx ∧ gx ≤ 9223372036854775807) (hgy : -9223372036854775808 ≤ gy ∧ gy ≤ 9223372036854775807) : Calls Tryz.prog 10 #[.agg #[v, u, Ix gx, Ix gy]] w fun r w' => ∃ p c hs, hs.map (·.xs) = islR bs rs gx gy ∧ r = .returned (.tuple #[.slice p hs.length c, Ix (errI bs rs gx gy)]) ∧ St β [Sat (llL p c hs)] w' :=
 (islands_ok β w hw v u gx gy bs rs hs_ hr_ hgx hgy).mono fun _ _ ⟨p, c, hs, h1, h2, h3⟩ => ⟨p, c, hs, h1, h2, St.merge (L := llL p c hs) (M := []) h3 fun _ q => q⟩
end Go.Proofs
