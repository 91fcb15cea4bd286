/-
  NARROWER THAN 'FOR EVERY INPUT', by the rows' own cells (each row's printed sentence says how): StepWorlds: laid · StepIslands: laid.
  DERIVED. THE GIVEN ROWS OF THIS SEAT. 2 by the template 'for every input the law returns true; each argument reads behind the call as it read before'; 0 by the template 'total and deterministic' (their statements: YtdkibofhppgbjaaGreatDoorTotals.lean).
  GIVEN WITH THE SEED: the statements are not yours to turn. If you find one false, say at which input.
  Laid BY PROGRAM, IN A SANDBOX (cutbox-rows.mjs): the forced cells as the released guide's own fill.sh prints them over the translation 18c5a9e7451fac31… (all of the seat's roots in one cut). By AI agents, Wed Nov 11 2026. No macro, syntax, notation, axiom, sorry.
-/
import Derived.Test.YtdkibofhppgbjaaGreatDoorChecked
import GoSem.Claim
import GoSem.ClaimJoined
import GoSem.ClaimMapViews
import Derived.JoinedTies
import Derived.KernelRfl
namespace Go.Proofs.YtdkibofhppgbjaaGreatDoor
/- THE CELL 'sum', in the pinned program and in every row, IS THE sha256 OF THE DUMP (.gsa) THAT YtdkibofhppgbjaaGreatDoorProg.lean LOADS. Nothing in Lean hashes anything: it is a label: what it is worth is what the hold of that sum in a sandbox is worth. -/
noncomputable def Tryz.pinned : Pinned := { name := "ytdkibofhppgbjaagreatdoor", sum := "18c5a9e7451fac3128e04a98c5614565ad675347284e97fb8e1c6f7d9a99d25c", checked := Tryz.checked }
namespace Rows
def none {H : Type} : Left H := { results := [], args := [] }

/- WHAT THE LISTED PACKAGE-LEVEL VARIABLES READ AS WHEN THE CALL BEGINS. Each datum BY PROGRAM (the guide's laid-datum.mjs) off the statement by which the dump's own 'gosem.cut.vars' lays the variable. In a bare row this is a premise. The card (YtdkibofhppgbjaaGreatDoorCards.lean) ties it to the program's text. -/
def laid_marches_shape_rooms {H : Type} : DataW H := .iface "func table" (.agg [.agg [.iface "func" (.lit (.string [109, 97, 114, 99, 104, 101, 115, 47, 115, 104, 97, 112, 101, 46, 98, 111, 120, 101, 115])), .iface "func" (.lit (.string [109, 97, 114, 99, 104, 101, 115, 47, 115, 104, 97, 112, 101, 46, 98, 111, 120, 67, 105, 114, 99, 108, 101]))], .agg [.iface "func" (.lit (.string [109, 97, 114, 99, 104, 101, 115, 47, 115, 104, 97, 112, 101, 46, 99, 105, 114, 99, 108, 101, 66, 111, 120])), .iface "func" (.lit (.string [109, 97, 114, 99, 104, 101, 115, 47, 115, 104, 97, 112, 101, 46, 99, 105, 114, 99, 108, 101, 115]))]])

/-- 'marcheslaw08.StepWorlds': WHATEVER THE INPUT: true; the input reads as it did. -/
def stepWorldsSpec : ChangeSpec := { name := "stepWorlds", fn := fun _ => fun
  | [d1, d2] => { results := [.lit (.bool true)], args := [d1, d2] }
  | _ => none }
def stepWorldsRow : OpenClaim := { program := "ytdkibofhppgbjaagreatdoor", sum := "18c5a9e7451fac3128e04a98c5614565ad675347284e97fb8e1c6f7d9a99d25c", func := "marches/marcheslaw08.StepWorlds", spec := "stepWorlds", unfollowed := true, recurses := true, named := ["marches/shape.rooms"], apart := false, laid := [("marches/shape.rooms", laid_marches_shape_rooms)] }
def StepWorldsSaid : Prop := stepWorldsRow.holds Tryz.pinned (OpenSpec.ofChange stepWorldsSpec)

/-- ITS FALSE NEIGHBOUR: 'it returns false'. Refute it at one input. -/
def stepWorldsWrong : ChangeSpec := { name := "stepWorlds", fn := fun _ => fun
  | [d1, d2] => { results := [.lit (.bool false)], args := [d1, d2] }
  | _ => none }
def StepWorldsWrongFalsely : Prop := stepWorldsRow.holds Tryz.pinned (OpenSpec.ofChange stepWorldsWrong)

/-- 'marcheslaw08.StepIslands': WHATEVER THE INPUT: true; the input reads as it did. -/
def stepIslandsSpec : ChangeSpec := { name := "stepIslands", fn := fun _ => fun
  | [d1, d2, d3, d4, d5] => { results := [.lit (.bool true)], args := [d1, d2, d3, d4, d5] }
  | _ => none }
def stepIslandsRow : OpenClaim := { program := "ytdkibofhppgbjaagreatdoor", sum := "18c5a9e7451fac3128e04a98c5614565ad675347284e97fb8e1c6f7d9a99d25c", func := "marches/marcheslaw08.StepIslands", spec := "stepIslands", unfollowed := true, recurses := true, named := ["marches/shape.rooms"], apart := false, laid := [("marches/shape.rooms", laid_marches_shape_rooms)] }
def StepIslandsSaid : Prop := stepIslandsRow.holds Tryz.pinned (OpenSpec.ofChange stepIslandsSpec)

/-- ITS FALSE NEIGHBOUR: 'it returns false'. Refute it at one input. -/
def stepIslandsWrong : ChangeSpec := { name := "stepIslands", fn := fun _ => fun
  | [d1, d2, d3, d4, d5] => { results := [.lit (.bool false)], args := [d1, d2, d3, d4, d5] }
  | _ => none }
def StepIslandsWrongFalsely : Prop := stepIslandsRow.holds Tryz.pinned (OpenSpec.ofChange stepIslandsWrong)

/- THE SECOND FORM. 'bulk': how many values and letters a reading holds, each counted each time it is reached (what is shared counts as often as it is met; a slice's spare places count too). A statement '..UptoSaid' is the law's where the arguments, and the package variables that the reading takes, are together of bulk at most 1048576: NARROWER than '..Said'. Prove '..Said' where nothing that the law and all that it calls make is longer than what came in: it says more and counts as full. Else prove '..UptoSaid'. A law counts once. -/
mutual
def uptoBulk {H : Type} : DataW H → Nat
  | .lit (.string bytes) => bytes.length + 1
  | .lit _ => 1
  | .nil => 1
  | .ptr d => uptoBulk d + 1
  | .slice elems spare => uptoBulkAll elems + uptoBulkAll spare + 1
  | .agg parts => uptoBulkAll parts + 1
  | .iface _ d => uptoBulk d + 1
  | .map entries => uptoBulkEntries entries + 1
  | .held _ => 1
def uptoBulkAll {H : Type} : List (DataW H) → Nat
  | [] => 0
  | d :: r => uptoBulk d + uptoBulkAll r
def uptoBulkEntries {H : Type} : List (Lit × DataW H) → Nat
  | [] => 0
  | x :: r => uptoBulkEntry x + uptoBulkEntries r
def uptoBulkEntry {H : Type} : Lit × DataW H → Nat
  | (.string bytes, d) => bytes.length + uptoBulk d + 1
  | (_, d) => uptoBulk d + 1
 end
def uptoSmall : (H : Type) → List (DataW H) → Bool := fun _ ds => decide (uptoBulkAll ds ≤ 1048576)
def OpenSpec.upto (s : _root_.Go.ChangeSpec) : _root_.Go.OpenSpec := { _root_.Go.OpenSpec.ofChange s with cond := some uptoSmall }

/-- 'marcheslaw08.StepWorlds', WHERE WHAT IT READS IS OF BULK AT MOST 1048576: true; the input reads as it did. -/
def stepWorldsUptoRow : OpenClaim := { program := "ytdkibofhppgbjaagreatdoor", sum := "18c5a9e7451fac3128e04a98c5614565ad675347284e97fb8e1c6f7d9a99d25c", func := "marches/marcheslaw08.StepWorlds", spec := "stepWorlds", unfollowed := true, recurses := true, named := ["marches/shape.rooms"], apart := false, laid := [("marches/shape.rooms", laid_marches_shape_rooms)], narrowed := true }
def StepWorldsUptoSaid : Prop := stepWorldsUptoRow.holds Tryz.pinned (OpenSpec.upto stepWorldsSpec)

/-- 'marcheslaw08.StepIslands', WHERE WHAT IT READS IS OF BULK AT MOST 1048576: true; the input reads as it did. -/
def stepIslandsUptoRow : OpenClaim := { program := "ytdkibofhppgbjaagreatdoor", sum := "18c5a9e7451fac3128e04a98c5614565ad675347284e97fb8e1c6f7d9a99d25c", func := "marches/marcheslaw08.StepIslands", spec := "stepIslands", unfollowed := true, recurses := true, named := ["marches/shape.rooms"], apart := false, laid := [("marches/shape.rooms", laid_marches_shape_rooms)], narrowed := true }
def StepIslandsUptoSaid : Prop := stepIslandsUptoRow.holds Tryz.pinned (OpenSpec.upto stepIslandsSpec)

end Rows
end Go.Proofs.YtdkibofhppgbjaaGreatDoor
