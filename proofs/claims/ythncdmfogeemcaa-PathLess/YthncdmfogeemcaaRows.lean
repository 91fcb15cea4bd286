/-
  No cell of these rows narrows 'for every input' (looked for: loops, veiled, ifaces, maps, wideKeys, modest, calm, conditions, laid).
  DERIVED. THE GIVEN ROWS OF THIS SEAT. 4 by the template 'for every input the law returns true; each argument reads behind the call as it read before'; 0 by the template 'total and deterministic' (their statements: YthncdmfogeemcaaTotals.lean).
  GIVEN WITH THE SEED: the statements are not yours to turn. If you find one false, say at which input.
  Laid BY PROGRAM, IN A SANDBOX (cutbox-rows.mjs): the forced cells as the released guide's own fill.sh prints them over the translation 60cbdb777cf9f75b… (all of the seat's roots in one cut). By AI agents, Wed Nov 11 2026. No macro, syntax, notation, axiom, sorry.
-/
import Derived.Test.YthncdmfogeemcaaChecked
import GoSem.Claim
import GoSem.ClaimJoined
import GoSem.ClaimMapViews
import Derived.JoinedTies
import Derived.KernelRfl
namespace Go.Proofs.Ythncdmfogeemcaa
/- THE CELL 'sum', in the pinned program and in every row, IS THE sha256 OF THE DUMP (.gsa) THAT YthncdmfogeemcaaProg.lean LOADS. Nothing in Lean hashes anything: it is a label: what it is worth is what the hold of that sum in a sandbox is worth. -/
noncomputable def Try.pinned : Pinned := { name := "ythncdmfogeemcaa", sum := "60cbdb777cf9f75bfc09653e7f322e81ffd58ab1e393633563c226b29badc4d9", checked := Try.checked }
namespace Rows
def none {H : Type} : Left H := { results := [], args := [] }

/-- 'marcheslaw09.PathBack': WHATEVER THE INPUT: true; the input reads as it did. -/
def pathBackSpec : ChangeSpec := { name := "pathBack", fn := fun _ => fun
  | [d1, d2, d3, d4] => { results := [.lit (.bool true)], args := [d1, d2, d3, d4] }
  | _ => none }
def pathBackRow : OpenClaim := { program := "ythncdmfogeemcaa", sum := "60cbdb777cf9f75bfc09653e7f322e81ffd58ab1e393633563c226b29badc4d9", func := "marches/marcheslaw09.PathBack", spec := "pathBack", unfollowed := true, recurses := true, apart := false }
def PathBackSaid : Prop := pathBackRow.holds Try.pinned (OpenSpec.ofChange pathBackSpec)

/-- ITS FALSE NEIGHBOUR: 'it returns false'. Refute it at one input. -/
def pathBackWrong : ChangeSpec := { name := "pathBack", fn := fun _ => fun
  | [d1, d2, d3, d4] => { results := [.lit (.bool false)], args := [d1, d2, d3, d4] }
  | _ => none }
def PathBackWrongFalsely : Prop := pathBackRow.holds Try.pinned (OpenSpec.ofChange pathBackWrong)

/-- 'marcheslaw09.PathPortals': WHATEVER THE INPUT: true; the input reads as it did. -/
def pathPortalsSpec : ChangeSpec := { name := "pathPortals", fn := fun _ => fun
  | [d] => { results := [.lit (.bool true)], args := [d] }
  | _ => none }
def pathPortalsRow : OpenClaim := { program := "ythncdmfogeemcaa", sum := "60cbdb777cf9f75bfc09653e7f322e81ffd58ab1e393633563c226b29badc4d9", func := "marches/marcheslaw09.PathPortals", spec := "pathPortals", unfollowed := true, recurses := true, apart := false }
def PathPortalsSaid : Prop := pathPortalsRow.holds Try.pinned (OpenSpec.ofChange pathPortalsSpec)

/-- ITS FALSE NEIGHBOUR: 'it returns false'. Refute it at one input. -/
def pathPortalsWrong : ChangeSpec := { name := "pathPortals", fn := fun _ => fun
  | [d] => { results := [.lit (.bool false)], args := [d] }
  | _ => none }
def PathPortalsWrongFalsely : Prop := pathPortalsRow.holds Try.pinned (OpenSpec.ofChange pathPortalsWrong)

/-- 'marcheslaw09.PathLess': WHATEVER THE INPUT: true; the input reads as it did. -/
def pathLessSpec : ChangeSpec := { name := "pathLess", fn := fun _ => fun
  | [d1, d2, d3, d4, d5, d6] => { results := [.lit (.bool true)], args := [d1, d2, d3, d4, d5, d6] }
  | _ => none }
def pathLessRow : OpenClaim := { program := "ythncdmfogeemcaa", sum := "60cbdb777cf9f75bfc09653e7f322e81ffd58ab1e393633563c226b29badc4d9", func := "marches/marcheslaw09.PathLess", spec := "pathLess", unfollowed := true, recurses := true, apart := false }
def PathLessSaid : Prop := pathLessRow.holds Try.pinned (OpenSpec.ofChange pathLessSpec)

/-- ITS FALSE NEIGHBOUR: 'it returns false'. Refute it at one input. -/
def pathLessWrong : ChangeSpec := { name := "pathLess", fn := fun _ => fun
  | [d1, d2, d3, d4, d5, d6] => { results := [.lit (.bool false)], args := [d1, d2, d3, d4, d5, d6] }
  | _ => none }
def PathLessWrongFalsely : Prop := pathLessRow.holds Try.pinned (OpenSpec.ofChange pathLessWrong)

/-- 'marcheslaw09.PathLength': WHATEVER THE INPUT: true; the input reads as it did. -/
def pathLengthSpec : ChangeSpec := { name := "pathLength", fn := fun _ => fun
  | [d1, d2, d3, d4, d5, d6, d7] => { results := [.lit (.bool true)], args := [d1, d2, d3, d4, d5, d6, d7] }
  | _ => none }
def pathLengthRow : OpenClaim := { program := "ythncdmfogeemcaa", sum := "60cbdb777cf9f75bfc09653e7f322e81ffd58ab1e393633563c226b29badc4d9", func := "marches/marcheslaw09.PathLength", spec := "pathLength", unfollowed := true, recurses := true, apart := false }
def PathLengthSaid : Prop := pathLengthRow.holds Try.pinned (OpenSpec.ofChange pathLengthSpec)

/-- ITS FALSE NEIGHBOUR: 'it returns false'. Refute it at one input. -/
def pathLengthWrong : ChangeSpec := { name := "pathLength", fn := fun _ => fun
  | [d1, d2, d3, d4, d5, d6, d7] => { results := [.lit (.bool false)], args := [d1, d2, d3, d4, d5, d6, d7] }
  | _ => none }
def PathLengthWrongFalsely : Prop := pathLengthRow.holds Try.pinned (OpenSpec.ofChange pathLengthWrong)

/- THE SECOND FORM. 'bulk': how many values and letters a reading holds, each counted each time it is reached (what is shared counts as often as it is met; a slice's spare places count too). A statement '..UptoSaid' is the law's where the arguments, and the package variables that the reading takes, are together of bulk at most 1048576: NARROWER than '..Said'. Prove '..Said' where nothing that the law and all that it calls make is longer than what came in: it says more and counts as full. Else prove '..UptoSaid'. A law counts once. -/
mutual
def uptoBulk {H : Type} : DataW H → Nat
  | .lit (.string bytes) => bytes.length + 1
  | .lit _ => 1
  | .nil => 1
  | .ptr d => uptoBulk d + 1
  | .slice elems spare => uptoBulkAll elems + uptoBulkAll spare + 1
  | .agg parts => uptoBulkAll parts + 1
  | .iface _ d => uptoBulk d + 1
  | .map entries => uptoBulkEntries entries + 1
  | .held _ => 1
def uptoBulkAll {H : Type} : List (DataW H) → Nat
  | [] => 0
  | d :: r => uptoBulk d + uptoBulkAll r
def uptoBulkEntries {H : Type} : List (Lit × DataW H) → Nat
  | [] => 0
  | x :: r => uptoBulkEntry x + uptoBulkEntries r
def uptoBulkEntry {H : Type} : Lit × DataW H → Nat
  | (.string bytes, d) => bytes.length + uptoBulk d + 1
  | (_, d) => uptoBulk d + 1
 end
def uptoSmall : (H : Type) → List (DataW H) → Bool := fun _ ds => decide (uptoBulkAll ds ≤ 1048576)
def OpenSpec.upto (s : _root_.Go.ChangeSpec) : _root_.Go.OpenSpec := { _root_.Go.OpenSpec.ofChange s with cond := some uptoSmall }

/-- 'marcheslaw09.PathBack', WHERE WHAT IT READS IS OF BULK AT MOST 1048576: true; the input reads as it did. -/
def pathBackUptoRow : OpenClaim := { program := "ythncdmfogeemcaa", sum := "60cbdb777cf9f75bfc09653e7f322e81ffd58ab1e393633563c226b29badc4d9", func := "marches/marcheslaw09.PathBack", spec := "pathBack", unfollowed := true, recurses := true, apart := false, narrowed := true }
def PathBackUptoSaid : Prop := pathBackUptoRow.holds Try.pinned (OpenSpec.upto pathBackSpec)

/-- 'marcheslaw09.PathPortals', WHERE WHAT IT READS IS OF BULK AT MOST 1048576: true; the input reads as it did. -/
def pathPortalsUptoRow : OpenClaim := { program := "ythncdmfogeemcaa", sum := "60cbdb777cf9f75bfc09653e7f322e81ffd58ab1e393633563c226b29badc4d9", func := "marches/marcheslaw09.PathPortals", spec := "pathPortals", unfollowed := true, recurses := true, apart := false, narrowed := true }
def PathPortalsUptoSaid : Prop := pathPortalsUptoRow.holds Try.pinned (OpenSpec.upto pathPortalsSpec)

/-- 'marcheslaw09.PathLess', WHERE WHAT IT READS IS OF BULK AT MOST 1048576: true; the input reads as it did. -/
def pathLessUptoRow : OpenClaim := { program := "ythncdmfogeemcaa", sum := "60cbdb777cf9f75bfc09653e7f322e81ffd58ab1e393633563c226b29badc4d9", func := "marches/marcheslaw09.PathLess", spec := "pathLess", unfollowed := true, recurses := true, apart := false, narrowed := true }
def PathLessUptoSaid : Prop := pathLessUptoRow.holds Try.pinned (OpenSpec.upto pathLessSpec)

/-- 'marcheslaw09.PathLength', WHERE WHAT IT READS IS OF BULK AT MOST 1048576: true; the input reads as it did. -/
def pathLengthUptoRow : OpenClaim := { program := "ythncdmfogeemcaa", sum := "60cbdb777cf9f75bfc09653e7f322e81ffd58ab1e393633563c226b29badc4d9", func := "marches/marcheslaw09.PathLength", spec := "pathLength", unfollowed := true, recurses := true, apart := false, narrowed := true }
def PathLengthUptoSaid : Prop := pathLengthUptoRow.holds Try.pinned (OpenSpec.upto pathLengthSpec)

end Rows
end Go.Proofs.Ythncdmfogeemcaa
