/-
  NARROWER THAN 'FOR EVERY INPUT', by the rows' own cells (each row's printed sentence says how): StepTells: laid · StepSmall: laid · StepRests: laid · StepRopes: laid · StepStops: laid · StepApart: laid · StepFree: laid · StepBack: laid · StepWrong: laid.
  DERIVED. THE GIVEN ROWS OF THIS SEAT. 9 by the template 'for every input the law returns true; each argument reads behind the call as it read before'; 0 by the template 'total and deterministic' (their statements: YtbhkgodiencdlaaDoorTotals.lean).
  GIVEN WITH THE SEED: the statements are not yours to turn. If you find one false, say at which input.
  Laid BY PROGRAM, IN A SANDBOX (cutbox-rows.mjs): the forced cells as the released guide's own fill.sh prints them over the translation ee21f2b363922ee8… (all of the seat's roots in one cut). By AI agents, Wed Nov 11 2026. No macro, syntax, notation, axiom, sorry.
-/
import Derived.Test.YtbhkgodiencdlaaDoorChecked
import GoSem.Claim
import GoSem.ClaimJoined
import GoSem.ClaimMapViews
import Derived.JoinedTies
import Derived.KernelRfl
namespace Go.Proofs.YtbhkgodiencdlaaDoor
/- THE CELL 'sum', in the pinned program and in every row, IS THE sha256 OF THE DUMP (.gsa) THAT YtbhkgodiencdlaaDoorProg.lean LOADS. Nothing in Lean hashes anything: it is a label: what it is worth is what the hold of that sum in a sandbox is worth. -/
noncomputable def Tryd.pinned : Pinned := { name := "ytbhkgodiencdlaadoor", sum := "ee21f2b363922ee822456daafcea0e8234e8a1361e90e852bbde889c6abc158b", checked := Tryd.checked }
namespace Rows
def none {H : Type} : Left H := { results := [], args := [] }

/- WHAT THE LISTED PACKAGE-LEVEL VARIABLES READ AS WHEN THE CALL BEGINS. Each datum BY PROGRAM (the guide's laid-datum.mjs) off the statement by which the dump's own 'gosem.cut.vars' lays the variable. In a bare row this is a premise. The card (YtbhkgodiencdlaaDoorCards.lean) ties it to the program's text. -/
def laid_marches_shape_rooms {H : Type} : DataW H := .iface "func table" (.agg [.agg [.iface "func" (.lit (.string [109, 97, 114, 99, 104, 101, 115, 47, 115, 104, 97, 112, 101, 46, 98, 111, 120, 101, 115])), .iface "func" (.lit (.string [109, 97, 114, 99, 104, 101, 115, 47, 115, 104, 97, 112, 101, 46, 98, 111, 120, 67, 105, 114, 99, 108, 101]))], .agg [.iface "func" (.lit (.string [109, 97, 114, 99, 104, 101, 115, 47, 115, 104, 97, 112, 101, 46, 99, 105, 114, 99, 108, 101, 66, 111, 120])), .iface "func" (.lit (.string [109, 97, 114, 99, 104, 101, 115, 47, 115, 104, 97, 112, 101, 46, 99, 105, 114, 99, 108, 101, 115]))]])

/-- 'marcheslaw08.StepTells': WHATEVER THE INPUT: true; the input reads as it did. -/
def stepTellsSpec : ChangeSpec := { name := "stepTells", fn := fun _ => fun
  | [d] => { results := [.lit (.bool true)], args := [d] }
  | _ => none }
def stepTellsRow : OpenClaim := { program := "ytbhkgodiencdlaadoor", sum := "ee21f2b363922ee822456daafcea0e8234e8a1361e90e852bbde889c6abc158b", func := "marches/marcheslaw08.StepTells", spec := "stepTells", unfollowed := true, recurses := true, named := ["marches/shape.rooms"], apart := false, laid := [("marches/shape.rooms", laid_marches_shape_rooms)] }
def StepTellsSaid : Prop := stepTellsRow.holds Tryd.pinned (OpenSpec.ofChange stepTellsSpec)

/-- ITS FALSE NEIGHBOUR: 'it returns false'. Refute it at one input. -/
def stepTellsWrong : ChangeSpec := { name := "stepTells", fn := fun _ => fun
  | [d] => { results := [.lit (.bool false)], args := [d] }
  | _ => none }
def StepTellsWrongFalsely : Prop := stepTellsRow.holds Tryd.pinned (OpenSpec.ofChange stepTellsWrong)

/-- 'marcheslaw08.StepSmall': WHATEVER THE INPUT: true; the input reads as it did. -/
def stepSmallSpec : ChangeSpec := { name := "stepSmall", fn := fun _ => fun
  | [] => { results := [.lit (.bool true)], args := [] }
  | _ => none }
def stepSmallRow : OpenClaim := { program := "ytbhkgodiencdlaadoor", sum := "ee21f2b363922ee822456daafcea0e8234e8a1361e90e852bbde889c6abc158b", func := "marches/marcheslaw08.StepSmall", spec := "stepSmall", unfollowed := true, recurses := true, named := ["marches/shape.rooms"], apart := false, laid := [("marches/shape.rooms", laid_marches_shape_rooms)] }
def StepSmallSaid : Prop := stepSmallRow.holds Tryd.pinned (OpenSpec.ofChange stepSmallSpec)

/-- ITS FALSE NEIGHBOUR: 'it returns false'. Refute it at one input. -/
def stepSmallWrong : ChangeSpec := { name := "stepSmall", fn := fun _ => fun
  | [] => { results := [.lit (.bool false)], args := [] }
  | _ => none }
def StepSmallWrongFalsely : Prop := stepSmallRow.holds Tryd.pinned (OpenSpec.ofChange stepSmallWrong)

/-- 'marcheslaw08.StepRests': WHATEVER THE INPUT: true; the input reads as it did. -/
def stepRestsSpec : ChangeSpec := { name := "stepRests", fn := fun _ => fun
  | [d1, d2] => { results := [.lit (.bool true)], args := [d1, d2] }
  | _ => none }
def stepRestsRow : OpenClaim := { program := "ytbhkgodiencdlaadoor", sum := "ee21f2b363922ee822456daafcea0e8234e8a1361e90e852bbde889c6abc158b", func := "marches/marcheslaw08.StepRests", spec := "stepRests", unfollowed := true, recurses := true, named := ["marches/shape.rooms"], apart := false, laid := [("marches/shape.rooms", laid_marches_shape_rooms)] }
def StepRestsSaid : Prop := stepRestsRow.holds Tryd.pinned (OpenSpec.ofChange stepRestsSpec)

/-- ITS FALSE NEIGHBOUR: 'it returns false'. Refute it at one input. -/
def stepRestsWrong : ChangeSpec := { name := "stepRests", fn := fun _ => fun
  | [d1, d2] => { results := [.lit (.bool false)], args := [d1, d2] }
  | _ => none }
def StepRestsWrongFalsely : Prop := stepRestsRow.holds Tryd.pinned (OpenSpec.ofChange stepRestsWrong)

/-- 'marcheslaw08.StepRopes': WHATEVER THE INPUT: true; the input reads as it did. -/
def stepRopesSpec : ChangeSpec := { name := "stepRopes", fn := fun _ => fun
  | [d1, d2, d3, d4] => { results := [.lit (.bool true)], args := [d1, d2, d3, d4] }
  | _ => none }
def stepRopesRow : OpenClaim := { program := "ytbhkgodiencdlaadoor", sum := "ee21f2b363922ee822456daafcea0e8234e8a1361e90e852bbde889c6abc158b", func := "marches/marcheslaw08.StepRopes", spec := "stepRopes", unfollowed := true, recurses := true, named := ["marches/shape.rooms"], apart := false, laid := [("marches/shape.rooms", laid_marches_shape_rooms)] }
def StepRopesSaid : Prop := stepRopesRow.holds Tryd.pinned (OpenSpec.ofChange stepRopesSpec)

/-- ITS FALSE NEIGHBOUR: 'it returns false'. Refute it at one input. -/
def stepRopesWrong : ChangeSpec := { name := "stepRopes", fn := fun _ => fun
  | [d1, d2, d3, d4] => { results := [.lit (.bool false)], args := [d1, d2, d3, d4] }
  | _ => none }
def StepRopesWrongFalsely : Prop := stepRopesRow.holds Tryd.pinned (OpenSpec.ofChange stepRopesWrong)

/-- 'marcheslaw08.StepStops': WHATEVER THE INPUT: true; the input reads as it did. -/
def stepStopsSpec : ChangeSpec := { name := "stepStops", fn := fun _ => fun
  | [d1, d2, d3] => { results := [.lit (.bool true)], args := [d1, d2, d3] }
  | _ => none }
def stepStopsRow : OpenClaim := { program := "ytbhkgodiencdlaadoor", sum := "ee21f2b363922ee822456daafcea0e8234e8a1361e90e852bbde889c6abc158b", func := "marches/marcheslaw08.StepStops", spec := "stepStops", unfollowed := true, recurses := true, named := ["marches/shape.rooms"], apart := false, laid := [("marches/shape.rooms", laid_marches_shape_rooms)] }
def StepStopsSaid : Prop := stepStopsRow.holds Tryd.pinned (OpenSpec.ofChange stepStopsSpec)

/-- ITS FALSE NEIGHBOUR: 'it returns false'. Refute it at one input. -/
def stepStopsWrong : ChangeSpec := { name := "stepStops", fn := fun _ => fun
  | [d1, d2, d3] => { results := [.lit (.bool false)], args := [d1, d2, d3] }
  | _ => none }
def StepStopsWrongFalsely : Prop := stepStopsRow.holds Tryd.pinned (OpenSpec.ofChange stepStopsWrong)

/-- 'marcheslaw08.StepApart': WHATEVER THE INPUT: true; the input reads as it did. -/
def stepApartSpec : ChangeSpec := { name := "stepApart", fn := fun _ => fun
  | [d1, d2, d3, d4] => { results := [.lit (.bool true)], args := [d1, d2, d3, d4] }
  | _ => none }
def stepApartRow : OpenClaim := { program := "ytbhkgodiencdlaadoor", sum := "ee21f2b363922ee822456daafcea0e8234e8a1361e90e852bbde889c6abc158b", func := "marches/marcheslaw08.StepApart", spec := "stepApart", unfollowed := true, recurses := true, named := ["marches/shape.rooms"], apart := false, laid := [("marches/shape.rooms", laid_marches_shape_rooms)] }
def StepApartSaid : Prop := stepApartRow.holds Tryd.pinned (OpenSpec.ofChange stepApartSpec)

/-- ITS FALSE NEIGHBOUR: 'it returns false'. Refute it at one input. -/
def stepApartWrong : ChangeSpec := { name := "stepApart", fn := fun _ => fun
  | [d1, d2, d3, d4] => { results := [.lit (.bool false)], args := [d1, d2, d3, d4] }
  | _ => none }
def StepApartWrongFalsely : Prop := stepApartRow.holds Tryd.pinned (OpenSpec.ofChange stepApartWrong)

/-- 'marcheslaw08.StepFree': WHATEVER THE INPUT: true; the input reads as it did. -/
def stepFreeSpec : ChangeSpec := { name := "stepFree", fn := fun _ => fun
  | [d1, d2, d3, d4] => { results := [.lit (.bool true)], args := [d1, d2, d3, d4] }
  | _ => none }
def stepFreeRow : OpenClaim := { program := "ytbhkgodiencdlaadoor", sum := "ee21f2b363922ee822456daafcea0e8234e8a1361e90e852bbde889c6abc158b", func := "marches/marcheslaw08.StepFree", spec := "stepFree", unfollowed := true, recurses := true, named := ["marches/shape.rooms"], apart := false, laid := [("marches/shape.rooms", laid_marches_shape_rooms)] }
def StepFreeSaid : Prop := stepFreeRow.holds Tryd.pinned (OpenSpec.ofChange stepFreeSpec)

/-- ITS FALSE NEIGHBOUR: 'it returns false'. Refute it at one input. -/
def stepFreeWrong : ChangeSpec := { name := "stepFree", fn := fun _ => fun
  | [d1, d2, d3, d4] => { results := [.lit (.bool false)], args := [d1, d2, d3, d4] }
  | _ => none }
def StepFreeWrongFalsely : Prop := stepFreeRow.holds Tryd.pinned (OpenSpec.ofChange stepFreeWrong)

/-- 'marcheslaw08.StepBack': WHATEVER THE INPUT: true; the input reads as it did. -/
def stepBackSpec : ChangeSpec := { name := "stepBack", fn := fun _ => fun
  | [d1, d2, d3, d4, d5, d6, d7, d8] => { results := [.lit (.bool true)], args := [d1, d2, d3, d4, d5, d6, d7, d8] }
  | _ => none }
def stepBackRow : OpenClaim := { program := "ytbhkgodiencdlaadoor", sum := "ee21f2b363922ee822456daafcea0e8234e8a1361e90e852bbde889c6abc158b", func := "marches/marcheslaw08.StepBack", spec := "stepBack", unfollowed := true, recurses := true, named := ["marches/shape.rooms"], apart := false, laid := [("marches/shape.rooms", laid_marches_shape_rooms)] }
def StepBackSaid : Prop := stepBackRow.holds Tryd.pinned (OpenSpec.ofChange stepBackSpec)

/-- ITS FALSE NEIGHBOUR: 'it returns false'. Refute it at one input. -/
def stepBackWrong : ChangeSpec := { name := "stepBack", fn := fun _ => fun
  | [d1, d2, d3, d4, d5, d6, d7, d8] => { results := [.lit (.bool false)], args := [d1, d2, d3, d4, d5, d6, d7, d8] }
  | _ => none }
def StepBackWrongFalsely : Prop := stepBackRow.holds Tryd.pinned (OpenSpec.ofChange stepBackWrong)

/-- 'marcheslaw08.StepWrong': WHATEVER THE INPUT: true; the input reads as it did. -/
def stepWrongSpec : ChangeSpec := { name := "stepWrong", fn := fun _ => fun
  | [d1, d2, d3] => { results := [.lit (.bool true)], args := [d1, d2, d3] }
  | _ => none }
def stepWrongRow : OpenClaim := { program := "ytbhkgodiencdlaadoor", sum := "ee21f2b363922ee822456daafcea0e8234e8a1361e90e852bbde889c6abc158b", func := "marches/marcheslaw08.StepWrong", spec := "stepWrong", unfollowed := true, recurses := true, named := ["marches/shape.rooms"], apart := false, laid := [("marches/shape.rooms", laid_marches_shape_rooms)] }
def StepWrongSaid : Prop := stepWrongRow.holds Tryd.pinned (OpenSpec.ofChange stepWrongSpec)

/-- ITS FALSE NEIGHBOUR: 'it returns false'. Refute it at one input. -/
def stepWrongWrong : ChangeSpec := { name := "stepWrong", fn := fun _ => fun
  | [d1, d2, d3] => { results := [.lit (.bool false)], args := [d1, d2, d3] }
  | _ => none }
def StepWrongWrongFalsely : Prop := stepWrongRow.holds Tryd.pinned (OpenSpec.ofChange stepWrongWrong)

/- THE SECOND FORM. 'bulk': how many values and letters a reading holds, each counted each time it is reached (what is shared counts as often as it is met; a slice's spare places count too). A statement '..UptoSaid' is the law's where the arguments, and the package variables that the reading takes, are together of bulk at most 1048576: NARROWER than '..Said'. Prove '..Said' where nothing that the law and all that it calls make is longer than what came in: it says more and counts as full. Else prove '..UptoSaid'. A law counts once. -/
mutual
def uptoBulk {H : Type} : DataW H → Nat
  | .lit (.string bytes) => bytes.length + 1
  | .lit _ => 1
  | .nil => 1
  | .ptr d => uptoBulk d + 1
  | .slice elems spare => uptoBulkAll elems + uptoBulkAll spare + 1
  | .agg parts => uptoBulkAll parts + 1
  | .iface _ d => uptoBulk d + 1
  | .map entries => uptoBulkEntries entries + 1
  | .held _ => 1
def uptoBulkAll {H : Type} : List (DataW H) → Nat
  | [] => 0
  | d :: r => uptoBulk d + uptoBulkAll r
def uptoBulkEntries {H : Type} : List (Lit × DataW H) → Nat
  | [] => 0
  | x :: r => uptoBulkEntry x + uptoBulkEntries r
def uptoBulkEntry {H : Type} : Lit × DataW H → Nat
  | (.string bytes, d) => bytes.length + uptoBulk d + 1
  | (_, d) => uptoBulk d + 1
 end
def uptoSmall : (H : Type) → List (DataW H) → Bool := fun _ ds => decide (uptoBulkAll ds ≤ 1048576)
def OpenSpec.upto (s : _root_.Go.ChangeSpec) : _root_.Go.OpenSpec := { _root_.Go.OpenSpec.ofChange s with cond := some uptoSmall }

/-- 'marcheslaw08.StepTells', WHERE WHAT IT READS IS OF BULK AT MOST 1048576: true; the input reads as it did. -/
def stepTellsUptoRow : OpenClaim := { program := "ytbhkgodiencdlaadoor", sum := "ee21f2b363922ee822456daafcea0e8234e8a1361e90e852bbde889c6abc158b", func := "marches/marcheslaw08.StepTells", spec := "stepTells", unfollowed := true, recurses := true, named := ["marches/shape.rooms"], apart := false, laid := [("marches/shape.rooms", laid_marches_shape_rooms)], narrowed := true }
def StepTellsUptoSaid : Prop := stepTellsUptoRow.holds Tryd.pinned (OpenSpec.upto stepTellsSpec)

/-- 'marcheslaw08.StepSmall', WHERE WHAT IT READS IS OF BULK AT MOST 1048576: true; the input reads as it did. -/
def stepSmallUptoRow : OpenClaim := { program := "ytbhkgodiencdlaadoor", sum := "ee21f2b363922ee822456daafcea0e8234e8a1361e90e852bbde889c6abc158b", func := "marches/marcheslaw08.StepSmall", spec := "stepSmall", unfollowed := true, recurses := true, named := ["marches/shape.rooms"], apart := false, laid := [("marches/shape.rooms", laid_marches_shape_rooms)], narrowed := true }
def StepSmallUptoSaid : Prop := stepSmallUptoRow.holds Tryd.pinned (OpenSpec.upto stepSmallSpec)

/-- 'marcheslaw08.StepRests', WHERE WHAT IT READS IS OF BULK AT MOST 1048576: true; the input reads as it did. -/
def stepRestsUptoRow : OpenClaim := { program := "ytbhkgodiencdlaadoor", sum := "ee21f2b363922ee822456daafcea0e8234e8a1361e90e852bbde889c6abc158b", func := "marches/marcheslaw08.StepRests", spec := "stepRests", unfollowed := true, recurses := true, named := ["marches/shape.rooms"], apart := false, laid := [("marches/shape.rooms", laid_marches_shape_rooms)], narrowed := true }
def StepRestsUptoSaid : Prop := stepRestsUptoRow.holds Tryd.pinned (OpenSpec.upto stepRestsSpec)

/-- 'marcheslaw08.StepRopes', WHERE WHAT IT READS IS OF BULK AT MOST 1048576: true; the input reads as it did. -/
def stepRopesUptoRow : OpenClaim := { program := "ytbhkgodiencdlaadoor", sum := "ee21f2b363922ee822456daafcea0e8234e8a1361e90e852bbde889c6abc158b", func := "marches/marcheslaw08.StepRopes", spec := "stepRopes", unfollowed := true, recurses := true, named := ["marches/shape.rooms"], apart := false, laid := [("marches/shape.rooms", laid_marches_shape_rooms)], narrowed := true }
def StepRopesUptoSaid : Prop := stepRopesUptoRow.holds Tryd.pinned (OpenSpec.upto stepRopesSpec)

/-- 'marcheslaw08.StepStops', WHERE WHAT IT READS IS OF BULK AT MOST 1048576: true; the input reads as it did. -/
def stepStopsUptoRow : OpenClaim := { program := "ytbhkgodiencdlaadoor", sum := "ee21f2b363922ee822456daafcea0e8234e8a1361e90e852bbde889c6abc158b", func := "marches/marcheslaw08.StepStops", spec := "stepStops", unfollowed := true, recurses := true, named := ["marches/shape.rooms"], apart := false, laid := [("marches/shape.rooms", laid_marches_shape_rooms)], narrowed := true }
def StepStopsUptoSaid : Prop := stepStopsUptoRow.holds Tryd.pinned (OpenSpec.upto stepStopsSpec)

/-- 'marcheslaw08.StepApart', WHERE WHAT IT READS IS OF BULK AT MOST 1048576: true; the input reads as it did. -/
def stepApartUptoRow : OpenClaim := { program := "ytbhkgodiencdlaadoor", sum := "ee21f2b363922ee822456daafcea0e8234e8a1361e90e852bbde889c6abc158b", func := "marches/marcheslaw08.StepApart", spec := "stepApart", unfollowed := true, recurses := true, named := ["marches/shape.rooms"], apart := false, laid := [("marches/shape.rooms", laid_marches_shape_rooms)], narrowed := true }
def StepApartUptoSaid : Prop := stepApartUptoRow.holds Tryd.pinned (OpenSpec.upto stepApartSpec)

/-- 'marcheslaw08.StepFree', WHERE WHAT IT READS IS OF BULK AT MOST 1048576: true; the input reads as it did. -/
def stepFreeUptoRow : OpenClaim := { program := "ytbhkgodiencdlaadoor", sum := "ee21f2b363922ee822456daafcea0e8234e8a1361e90e852bbde889c6abc158b", func := "marches/marcheslaw08.StepFree", spec := "stepFree", unfollowed := true, recurses := true, named := ["marches/shape.rooms"], apart := false, laid := [("marches/shape.rooms", laid_marches_shape_rooms)], narrowed := true }
def StepFreeUptoSaid : Prop := stepFreeUptoRow.holds Tryd.pinned (OpenSpec.upto stepFreeSpec)

/-- 'marcheslaw08.StepBack', WHERE WHAT IT READS IS OF BULK AT MOST 1048576: true; the input reads as it did. -/
def stepBackUptoRow : OpenClaim := { program := "ytbhkgodiencdlaadoor", sum := "ee21f2b363922ee822456daafcea0e8234e8a1361e90e852bbde889c6abc158b", func := "marches/marcheslaw08.StepBack", spec := "stepBack", unfollowed := true, recurses := true, named := ["marches/shape.rooms"], apart := false, laid := [("marches/shape.rooms", laid_marches_shape_rooms)], narrowed := true }
def StepBackUptoSaid : Prop := stepBackUptoRow.holds Tryd.pinned (OpenSpec.upto stepBackSpec)

/-- 'marcheslaw08.StepWrong', WHERE WHAT IT READS IS OF BULK AT MOST 1048576: true; the input reads as it did. -/
def stepWrongUptoRow : OpenClaim := { program := "ytbhkgodiencdlaadoor", sum := "ee21f2b363922ee822456daafcea0e8234e8a1361e90e852bbde889c6abc158b", func := "marches/marcheslaw08.StepWrong", spec := "stepWrong", unfollowed := true, recurses := true, named := ["marches/shape.rooms"], apart := false, laid := [("marches/shape.rooms", laid_marches_shape_rooms)], narrowed := true }
def StepWrongUptoSaid : Prop := stepWrongUptoRow.holds Tryd.pinned (OpenSpec.upto stepWrongSpec)

end Rows
end Go.Proofs.YtbhkgodiencdlaaDoor
