/-
  No cell of these rows narrows 'for every input' (looked for: loops, veiled, ifaces, maps, wideKeys, modest, calm, conditions, laid).
  DERIVED. THE GIVEN ROWS OF THIS SEAT. 3 by the template 'for every input the law returns true; each argument reads behind the call as it read before'; 0 by the template 'total and deterministic' (their statements: YtoijanalppaplaaGreatTotals.lean).
  GIVEN WITH THE SEED: the statements are not yours to turn. If you find one false, say at which input.
  Laid BY PROGRAM, IN A SANDBOX (cutbox-rows.mjs): the forced cells as the released guide's own fill.sh prints them over the translation 2ba4924584d571e8… (all of the seat's roots in one cut). By AI agents, Wed Nov 11 2026. No macro, syntax, notation, axiom, sorry.
-/
import Derived.Test.YtoijanalppaplaaGreatChecked
import GoSem.Claim
import GoSem.ClaimJoined
import GoSem.ClaimMapViews
import Derived.JoinedTies
import Derived.KernelRfl
namespace Go.Proofs.YtoijanalppaplaaGreat
/- THE CELL 'sum', in the pinned program and in every row, IS THE sha256 OF THE DUMP (.gsa) THAT YtoijanalppaplaaGreatProg.lean LOADS. Nothing in Lean hashes anything: it is a label: what it is worth is what the hold of that sum in a sandbox is worth. -/
noncomputable def Tryz.pinned : Pinned := { name := "ytoijanalppaplaagreat", sum := "2ba4924584d571e8bd6ac1bb829a9183e635dc3e124395cdca0c662767835329", checked := Tryz.checked }
namespace Rows
def none {H : Type} : Left H := { results := [], args := [] }

/-- 'marcheslaw07.IslandTells': WHATEVER THE INPUT: true; the input reads as it did. -/
def islandTellsSpec : ChangeSpec := { name := "islandTells", fn := fun _ => fun
  | [d1, d2] => { results := [.lit (.bool true)], args := [d1, d2] }
  | _ => none }
def islandTellsRow : OpenClaim := { program := "ytoijanalppaplaagreat", sum := "2ba4924584d571e8bd6ac1bb829a9183e635dc3e124395cdca0c662767835329", func := "marches/marcheslaw07.IslandTells", spec := "islandTells", unfollowed := true, recurses := true, apart := false }
def IslandTellsSaid : Prop := islandTellsRow.holds Tryz.pinned (OpenSpec.ofChange islandTellsSpec)

/-- ITS FALSE NEIGHBOUR: 'it returns false'. Refute it at one input. -/
def islandTellsWrong : ChangeSpec := { name := "islandTells", fn := fun _ => fun
  | [d1, d2] => { results := [.lit (.bool false)], args := [d1, d2] }
  | _ => none }
def IslandTellsWrongFalsely : Prop := islandTellsRow.holds Tryz.pinned (OpenSpec.ofChange islandTellsWrong)

/-- 'marcheslaw07.IslandReach': WHATEVER THE INPUT: true; the input reads as it did. -/
def islandReachSpec : ChangeSpec := { name := "islandReach", fn := fun _ => fun
  | [d1, d2] => { results := [.lit (.bool true)], args := [d1, d2] }
  | _ => none }
def islandReachRow : OpenClaim := { program := "ytoijanalppaplaagreat", sum := "2ba4924584d571e8bd6ac1bb829a9183e635dc3e124395cdca0c662767835329", func := "marches/marcheslaw07.IslandReach", spec := "islandReach", unfollowed := true, recurses := true, apart := false }
def IslandReachSaid : Prop := islandReachRow.holds Tryz.pinned (OpenSpec.ofChange islandReachSpec)

/-- ITS FALSE NEIGHBOUR: 'it returns false'. Refute it at one input. -/
def islandReachWrong : ChangeSpec := { name := "islandReach", fn := fun _ => fun
  | [d1, d2] => { results := [.lit (.bool false)], args := [d1, d2] }
  | _ => none }
def IslandReachWrongFalsely : Prop := islandReachRow.holds Tryz.pinned (OpenSpec.ofChange islandReachWrong)

/-- 'marcheslaw07.IslandSmall': WHATEVER THE INPUT: true; the input reads as it did. -/
def islandSmallSpec : ChangeSpec := { name := "islandSmall", fn := fun _ => fun
  | [] => { results := [.lit (.bool true)], args := [] }
  | _ => none }
def islandSmallRow : OpenClaim := { program := "ytoijanalppaplaagreat", sum := "2ba4924584d571e8bd6ac1bb829a9183e635dc3e124395cdca0c662767835329", func := "marches/marcheslaw07.IslandSmall", spec := "islandSmall", unfollowed := true, recurses := true, apart := false }
def IslandSmallSaid : Prop := islandSmallRow.holds Tryz.pinned (OpenSpec.ofChange islandSmallSpec)

/-- ITS FALSE NEIGHBOUR: 'it returns false'. Refute it at one input. -/
def islandSmallWrong : ChangeSpec := { name := "islandSmall", fn := fun _ => fun
  | [] => { results := [.lit (.bool false)], args := [] }
  | _ => none }
def IslandSmallWrongFalsely : Prop := islandSmallRow.holds Tryz.pinned (OpenSpec.ofChange islandSmallWrong)

/- THE SECOND FORM. 'bulk': how many values and letters a reading holds, each counted each time it is reached (what is shared counts as often as it is met; a slice's spare places count too). A statement '..UptoSaid' is the law's where the arguments, and the package variables that the reading takes, are together of bulk at most 1048576: NARROWER than '..Said'. Prove '..Said' where nothing that the law and all that it calls make is longer than what came in: it says more and counts as full. Else prove '..UptoSaid'. A law counts once. -/
mutual
def uptoBulk {H : Type} : DataW H → Nat
  | .lit (.string bytes) => bytes.length + 1
  | .lit _ => 1
  | .nil => 1
  | .ptr d => uptoBulk d + 1
  | .slice elems spare => uptoBulkAll elems + uptoBulkAll spare + 1
  | .agg parts => uptoBulkAll parts + 1
  | .iface _ d => uptoBulk d + 1
  | .map entries => uptoBulkEntries entries + 1
  | .held _ => 1
def uptoBulkAll {H : Type} : List (DataW H) → Nat
  | [] => 0
  | d :: r => uptoBulk d + uptoBulkAll r
def uptoBulkEntries {H : Type} : List (Lit × DataW H) → Nat
  | [] => 0
  | x :: r => uptoBulkEntry x + uptoBulkEntries r
def uptoBulkEntry {H : Type} : Lit × DataW H → Nat
  | (.string bytes, d) => bytes.length + uptoBulk d + 1
  | (_, d) => uptoBulk d + 1
 end
def uptoSmall : (H : Type) → List (DataW H) → Bool := fun _ ds => decide (uptoBulkAll ds ≤ 1048576)
def OpenSpec.upto (s : _root_.Go.ChangeSpec) : _root_.Go.OpenSpec := { _root_.Go.OpenSpec.ofChange s with cond := some uptoSmall }

/-- 'marcheslaw07.IslandTells', WHERE WHAT IT READS IS OF BULK AT MOST 1048576: true; the input reads as it did. -/
def islandTellsUptoRow : OpenClaim := { program := "ytoijanalppaplaagreat", sum := "2ba4924584d571e8bd6ac1bb829a9183e635dc3e124395cdca0c662767835329", func := "marches/marcheslaw07.IslandTells", spec := "islandTells", unfollowed := true, recurses := true, apart := false, narrowed := true }
def IslandTellsUptoSaid : Prop := islandTellsUptoRow.holds Tryz.pinned (OpenSpec.upto islandTellsSpec)

/-- 'marcheslaw07.IslandReach', WHERE WHAT IT READS IS OF BULK AT MOST 1048576: true; the input reads as it did. -/
def islandReachUptoRow : OpenClaim := { program := "ytoijanalppaplaagreat", sum := "2ba4924584d571e8bd6ac1bb829a9183e635dc3e124395cdca0c662767835329", func := "marches/marcheslaw07.IslandReach", spec := "islandReach", unfollowed := true, recurses := true, apart := false, narrowed := true }
def IslandReachUptoSaid : Prop := islandReachUptoRow.holds Tryz.pinned (OpenSpec.upto islandReachSpec)

/-- 'marcheslaw07.IslandSmall', WHERE WHAT IT READS IS OF BULK AT MOST 1048576: true; the input reads as it did. -/
def islandSmallUptoRow : OpenClaim := { program := "ytoijanalppaplaagreat", sum := "2ba4924584d571e8bd6ac1bb829a9183e635dc3e124395cdca0c662767835329", func := "marches/marcheslaw07.IslandSmall", spec := "islandSmall", unfollowed := true, recurses := true, apart := false, narrowed := true }
def IslandSmallUptoSaid : Prop := islandSmallUptoRow.holds Tryz.pinned (OpenSpec.upto islandSmallSpec)

end Rows
end Go.Proofs.YtoijanalppaplaaGreat
