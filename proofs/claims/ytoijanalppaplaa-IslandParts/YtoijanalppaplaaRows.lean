/-
  No cell of these rows narrows 'for every input' (looked for: loops, veiled, ifaces, maps, wideKeys, modest, calm, conditions, laid).
  DERIVED. THE GIVEN ROWS OF THIS SEAT. 6 by the template 'for every input the law returns true; each argument reads behind the call as it read before'; 0 by the template 'total and deterministic' (their statements: YtoijanalppaplaaTotals.lean).
  GIVEN WITH THE SEED: the statements are not yours to turn. If you find one false, say at which input.
  Laid BY PROGRAM, IN A SANDBOX (cutbox-rows.mjs): the forced cells as the released guide's own fill.sh prints them over the translation 504bff6b4e0ac586… (all of the seat's roots in one cut). By AI agents, Wed Nov 11 2026. No macro, syntax, notation, axiom, sorry.
-/
import Derived.Test.YtoijanalppaplaaChecked
import GoSem.Claim
import GoSem.ClaimJoined
import GoSem.ClaimMapViews
import Derived.JoinedTies
import Derived.KernelRfl
namespace Go.Proofs.Ytoijanalppaplaa
/- THE CELL 'sum', in the pinned program and in every row, IS THE sha256 OF THE DUMP (.gsa) THAT YtoijanalppaplaaProg.lean LOADS. Nothing in Lean hashes anything: it is a label: what it is worth is what the hold of that sum in a sandbox is worth. -/
noncomputable def Try.pinned : Pinned := { name := "ytoijanalppaplaa", sum := "504bff6b4e0ac5868c0a25c2f2b9e47dc54b36b04f6c929520cb1f96d151c19d", checked := Try.checked }
namespace Rows
def none {H : Type} : Left H := { results := [], args := [] }

/-- 'marcheslaw07.IslandClasses': WHATEVER THE INPUT: true; the input reads as it did. -/
def islandClassesSpec : ChangeSpec := { name := "islandClasses", fn := fun _ => fun
  | [d1, d2, d3, d4, d5] => { results := [.lit (.bool true)], args := [d1, d2, d3, d4, d5] }
  | _ => none }
def islandClassesRow : OpenClaim := { program := "ytoijanalppaplaa", sum := "504bff6b4e0ac5868c0a25c2f2b9e47dc54b36b04f6c929520cb1f96d151c19d", func := "marches/marcheslaw07.IslandClasses", spec := "islandClasses", unfollowed := true, recurses := true, apart := false }
def IslandClassesSaid : Prop := islandClassesRow.holds Try.pinned (OpenSpec.ofChange islandClassesSpec)

/-- ITS FALSE NEIGHBOUR: 'it returns false'. Refute it at one input. -/
def islandClassesWrong : ChangeSpec := { name := "islandClasses", fn := fun _ => fun
  | [d1, d2, d3, d4, d5] => { results := [.lit (.bool false)], args := [d1, d2, d3, d4, d5] }
  | _ => none }
def IslandClassesWrongFalsely : Prop := islandClassesRow.holds Try.pinned (OpenSpec.ofChange islandClassesWrong)

/-- 'marcheslaw07.IslandReaches': WHATEVER THE INPUT: true; the input reads as it did. -/
def islandReachesSpec : ChangeSpec := { name := "islandReaches", fn := fun _ => fun
  | [d1, d2, d3, d4, d5, d6] => { results := [.lit (.bool true)], args := [d1, d2, d3, d4, d5, d6] }
  | _ => none }
def islandReachesRow : OpenClaim := { program := "ytoijanalppaplaa", sum := "504bff6b4e0ac5868c0a25c2f2b9e47dc54b36b04f6c929520cb1f96d151c19d", func := "marches/marcheslaw07.IslandReaches", spec := "islandReaches", unfollowed := true, recurses := true, apart := false }
def IslandReachesSaid : Prop := islandReachesRow.holds Try.pinned (OpenSpec.ofChange islandReachesSpec)

/-- ITS FALSE NEIGHBOUR: 'it returns false'. Refute it at one input. -/
def islandReachesWrong : ChangeSpec := { name := "islandReaches", fn := fun _ => fun
  | [d1, d2, d3, d4, d5, d6] => { results := [.lit (.bool false)], args := [d1, d2, d3, d4, d5, d6] }
  | _ => none }
def IslandReachesWrongFalsely : Prop := islandReachesRow.holds Try.pinned (OpenSpec.ofChange islandReachesWrong)

/-- 'marcheslaw07.IslandParts': WHATEVER THE INPUT: true; the input reads as it did. -/
def islandPartsSpec : ChangeSpec := { name := "islandParts", fn := fun _ => fun
  | [d1, d2, d3, d4, d5] => { results := [.lit (.bool true)], args := [d1, d2, d3, d4, d5] }
  | _ => none }
def islandPartsRow : OpenClaim := { program := "ytoijanalppaplaa", sum := "504bff6b4e0ac5868c0a25c2f2b9e47dc54b36b04f6c929520cb1f96d151c19d", func := "marches/marcheslaw07.IslandParts", spec := "islandParts", unfollowed := true, recurses := true, apart := false }
def IslandPartsSaid : Prop := islandPartsRow.holds Try.pinned (OpenSpec.ofChange islandPartsSpec)

/-- ITS FALSE NEIGHBOUR: 'it returns false'. Refute it at one input. -/
def islandPartsWrong : ChangeSpec := { name := "islandParts", fn := fun _ => fun
  | [d1, d2, d3, d4, d5] => { results := [.lit (.bool false)], args := [d1, d2, d3, d4, d5] }
  | _ => none }
def IslandPartsWrongFalsely : Prop := islandPartsRow.holds Try.pinned (OpenSpec.ofChange islandPartsWrong)

/-- 'marcheslaw07.IslandFixed': WHATEVER THE INPUT: true; the input reads as it did. -/
def islandFixedSpec : ChangeSpec := { name := "islandFixed", fn := fun _ => fun
  | [d1, d2, d3, d4] => { results := [.lit (.bool true)], args := [d1, d2, d3, d4] }
  | _ => none }
def islandFixedRow : OpenClaim := { program := "ytoijanalppaplaa", sum := "504bff6b4e0ac5868c0a25c2f2b9e47dc54b36b04f6c929520cb1f96d151c19d", func := "marches/marcheslaw07.IslandFixed", spec := "islandFixed", unfollowed := true, recurses := true, apart := false }
def IslandFixedSaid : Prop := islandFixedRow.holds Try.pinned (OpenSpec.ofChange islandFixedSpec)

/-- ITS FALSE NEIGHBOUR: 'it returns false'. Refute it at one input. -/
def islandFixedWrong : ChangeSpec := { name := "islandFixed", fn := fun _ => fun
  | [d1, d2, d3, d4] => { results := [.lit (.bool false)], args := [d1, d2, d3, d4] }
  | _ => none }
def IslandFixedWrongFalsely : Prop := islandFixedRow.holds Try.pinned (OpenSpec.ofChange islandFixedWrong)

/-- 'marcheslaw07.IslandLess': WHATEVER THE INPUT: true; the input reads as it did. -/
def islandLessSpec : ChangeSpec := { name := "islandLess", fn := fun _ => fun
  | [d1, d2, d3, d4, d5, d6] => { results := [.lit (.bool true)], args := [d1, d2, d3, d4, d5, d6] }
  | _ => none }
def islandLessRow : OpenClaim := { program := "ytoijanalppaplaa", sum := "504bff6b4e0ac5868c0a25c2f2b9e47dc54b36b04f6c929520cb1f96d151c19d", func := "marches/marcheslaw07.IslandLess", spec := "islandLess", unfollowed := true, recurses := true, apart := false }
def IslandLessSaid : Prop := islandLessRow.holds Try.pinned (OpenSpec.ofChange islandLessSpec)

/-- ITS FALSE NEIGHBOUR: 'it returns false'. Refute it at one input. -/
def islandLessWrong : ChangeSpec := { name := "islandLess", fn := fun _ => fun
  | [d1, d2, d3, d4, d5, d6] => { results := [.lit (.bool false)], args := [d1, d2, d3, d4, d5, d6] }
  | _ => none }
def IslandLessWrongFalsely : Prop := islandLessRow.holds Try.pinned (OpenSpec.ofChange islandLessWrong)

/-- 'marcheslaw07.IslandWrong': WHATEVER THE INPUT: true; the input reads as it did. -/
def islandWrongSpec : ChangeSpec := { name := "islandWrong", fn := fun _ => fun
  | [d1, d2, d3, d4, d5] => { results := [.lit (.bool true)], args := [d1, d2, d3, d4, d5] }
  | _ => none }
def islandWrongRow : OpenClaim := { program := "ytoijanalppaplaa", sum := "504bff6b4e0ac5868c0a25c2f2b9e47dc54b36b04f6c929520cb1f96d151c19d", func := "marches/marcheslaw07.IslandWrong", spec := "islandWrong", unfollowed := true, recurses := true, apart := false }
def IslandWrongSaid : Prop := islandWrongRow.holds Try.pinned (OpenSpec.ofChange islandWrongSpec)

/-- ITS FALSE NEIGHBOUR: 'it returns false'. Refute it at one input. -/
def islandWrongWrong : ChangeSpec := { name := "islandWrong", fn := fun _ => fun
  | [d1, d2, d3, d4, d5] => { results := [.lit (.bool false)], args := [d1, d2, d3, d4, d5] }
  | _ => none }
def IslandWrongWrongFalsely : Prop := islandWrongRow.holds Try.pinned (OpenSpec.ofChange islandWrongWrong)

/- THE SECOND FORM. 'bulk': how many values and letters a reading holds, each counted each time it is reached (what is shared counts as often as it is met; a slice's spare places count too). A statement '..UptoSaid' is the law's where the arguments, and the package variables that the reading takes, are together of bulk at most 1048576: NARROWER than '..Said'. Prove '..Said' where nothing that the law and all that it calls make is longer than what came in: it says more and counts as full. Else prove '..UptoSaid'. A law counts once. -/
mutual
def uptoBulk {H : Type} : DataW H → Nat
  | .lit (.string bytes) => bytes.length + 1
  | .lit _ => 1
  | .nil => 1
  | .ptr d => uptoBulk d + 1
  | .slice elems spare => uptoBulkAll elems + uptoBulkAll spare + 1
  | .agg parts => uptoBulkAll parts + 1
  | .iface _ d => uptoBulk d + 1
  | .map entries => uptoBulkEntries entries + 1
  | .held _ => 1
def uptoBulkAll {H : Type} : List (DataW H) → Nat
  | [] => 0
  | d :: r => uptoBulk d + uptoBulkAll r
def uptoBulkEntries {H : Type} : List (Lit × DataW H) → Nat
  | [] => 0
  | x :: r => uptoBulkEntry x + uptoBulkEntries r
def uptoBulkEntry {H : Type} : Lit × DataW H → Nat
  | (.string bytes, d) => bytes.length + uptoBulk d + 1
  | (_, d) => uptoBulk d + 1
 end
def uptoSmall : (H : Type) → List (DataW H) → Bool := fun _ ds => decide (uptoBulkAll ds ≤ 1048576)
def OpenSpec.upto (s : _root_.Go.ChangeSpec) : _root_.Go.OpenSpec := { _root_.Go.OpenSpec.ofChange s with cond := some uptoSmall }

/-- 'marcheslaw07.IslandClasses', WHERE WHAT IT READS IS OF BULK AT MOST 1048576: true; the input reads as it did. -/
def islandClassesUptoRow : OpenClaim := { program := "ytoijanalppaplaa", sum := "504bff6b4e0ac5868c0a25c2f2b9e47dc54b36b04f6c929520cb1f96d151c19d", func := "marches/marcheslaw07.IslandClasses", spec := "islandClasses", unfollowed := true, recurses := true, apart := false, narrowed := true }
def IslandClassesUptoSaid : Prop := islandClassesUptoRow.holds Try.pinned (OpenSpec.upto islandClassesSpec)

/-- 'marcheslaw07.IslandReaches', WHERE WHAT IT READS IS OF BULK AT MOST 1048576: true; the input reads as it did. -/
def islandReachesUptoRow : OpenClaim := { program := "ytoijanalppaplaa", sum := "504bff6b4e0ac5868c0a25c2f2b9e47dc54b36b04f6c929520cb1f96d151c19d", func := "marches/marcheslaw07.IslandReaches", spec := "islandReaches", unfollowed := true, recurses := true, apart := false, narrowed := true }
def IslandReachesUptoSaid : Prop := islandReachesUptoRow.holds Try.pinned (OpenSpec.upto islandReachesSpec)

/-- 'marcheslaw07.IslandParts', WHERE WHAT IT READS IS OF BULK AT MOST 1048576: true; the input reads as it did. -/
def islandPartsUptoRow : OpenClaim := { program := "ytoijanalppaplaa", sum := "504bff6b4e0ac5868c0a25c2f2b9e47dc54b36b04f6c929520cb1f96d151c19d", func := "marches/marcheslaw07.IslandParts", spec := "islandParts", unfollowed := true, recurses := true, apart := false, narrowed := true }
def IslandPartsUptoSaid : Prop := islandPartsUptoRow.holds Try.pinned (OpenSpec.upto islandPartsSpec)

/-- 'marcheslaw07.IslandFixed', WHERE WHAT IT READS IS OF BULK AT MOST 1048576: true; the input reads as it did. -/
def islandFixedUptoRow : OpenClaim := { program := "ytoijanalppaplaa", sum := "504bff6b4e0ac5868c0a25c2f2b9e47dc54b36b04f6c929520cb1f96d151c19d", func := "marches/marcheslaw07.IslandFixed", spec := "islandFixed", unfollowed := true, recurses := true, apart := false, narrowed := true }
def IslandFixedUptoSaid : Prop := islandFixedUptoRow.holds Try.pinned (OpenSpec.upto islandFixedSpec)

/-- 'marcheslaw07.IslandLess', WHERE WHAT IT READS IS OF BULK AT MOST 1048576: true; the input reads as it did. -/
def islandLessUptoRow : OpenClaim := { program := "ytoijanalppaplaa", sum := "504bff6b4e0ac5868c0a25c2f2b9e47dc54b36b04f6c929520cb1f96d151c19d", func := "marches/marcheslaw07.IslandLess", spec := "islandLess", unfollowed := true, recurses := true, apart := false, narrowed := true }
def IslandLessUptoSaid : Prop := islandLessUptoRow.holds Try.pinned (OpenSpec.upto islandLessSpec)

/-- 'marcheslaw07.IslandWrong', WHERE WHAT IT READS IS OF BULK AT MOST 1048576: true; the input reads as it did. -/
def islandWrongUptoRow : OpenClaim := { program := "ytoijanalppaplaa", sum := "504bff6b4e0ac5868c0a25c2f2b9e47dc54b36b04f6c929520cb1f96d151c19d", func := "marches/marcheslaw07.IslandWrong", spec := "islandWrong", unfollowed := true, recurses := true, apart := false, narrowed := true }
def IslandWrongUptoSaid : Prop := islandWrongUptoRow.holds Try.pinned (OpenSpec.upto islandWrongSpec)

end Rows
end Go.Proofs.Ytoijanalppaplaa
